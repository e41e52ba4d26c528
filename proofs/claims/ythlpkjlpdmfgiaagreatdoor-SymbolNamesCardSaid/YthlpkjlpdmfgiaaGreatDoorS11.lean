/-
  Functions of the program as plain definitions. No conditions.
-/
import Derived.Test.YthlpkjlpdmfgiaaGreatDoorAb5
import Derived.Test.YthlpkjlpdmfgiaaGreatDoorZ
import Derived.KernelRfl
import Derived.Test.YthlpkjlpdmfgiaaGreatDoorProg
set_option linter.unusedVariables false
set_option maxRecDepth 100000
namespace Go.Ab.Sh
open Go Go.Ab Go.Proofs
noncomputable section
def Qq1 (G:Gt)(p5:V)(m:M):R:=
  some (p5,m)
def Qfd (G:Gt):Nat → V → V → V → V → V → M → R
 | 0,_,_,_,_,_,_=>none
 | i + 1,p10,p9,p8,p5,p1,m=>
  bp (pur (bin .lss false true .int p10 p9) m) fun x0 m=>
  brb x0
  (bp (pur (aIndexAddrSl 2 p8 p10) m) fun x1 m=>
  bp (pur (aLoad true 2 x1 m) m) fun x2 m=>
  bp (some (aNew Qtv Q12w m)) fun x3 m=>
  bp (unt (aStore 2 x3 x2 m)) fun _ m=>
  bp (pur (aLoad true 2 x3 m) m) fun x4 m=>
  bp (evCall G.tab p1 [x4] m) fun x5 m=>
  bp (aBuildSlice Qtv Q12w 2 1 [(0,x5)] m) fun x6 m=>
  bp (apS Qtv 2 40 p5 x6 m) fun x7 m=>
  bp (pur (bin .add true true .int p10 (.int .i64 1)) m) fun x8 m=>
  (Qfd G i) x8 p9 p8 x7 p1 m)
  (Qq1 G p5 m)
def Qq2 (G:Gt)(p10 p9 p8 p5 p1:V)(m:M):R:=
  Qfd G G.rds p10 p9 p8 p5 p1 m
def Qq3 (G:Gt)(p0 p5 p1:V)(m:M):R:=
  bp (pur (lenK 1 p0 m) m) fun x9 m=>
  Qq2 G (.int .i64 0) x9 p0 p5 p1 m
def Qq4 (G:Gt)(p0 p1:V)(m:M):R:=
  Qq3 G p0 (.slice none 0 0) p1 m
def Qhp (G:Gt)(p0 p1:V)(m:M):R:=
  Qq4 G p0 p1 m
theorem Q1ag (G:Gt)(a0 a1:V)(m:M):ef G Tryz.f277 [a0,a1] m = Qhp G a0 a1 m:=
  evFn_of (r:=fun r m=>Qhp G (r 0) (r 1) m) rfl rfl (tr (seqQ (f:=fun r m=>Qq4 G (r 0) (r 1) m) (tr (seqQ (f:=fun r m=>Qq3 G (r 0) (r 5) (r 1) m) (tr (tr (seqQ (f:=fun r m=>Qq1 G (r 5) m) (fun r m=>by kernel_rfl)) (seqQ (f:=fun r m=>Qq2 G (r 10) (r 9) (r 8) (r 5) (r 1) m) (tr (blockQ (loopQ (fun i r m=>Qfd G i (r 10) (r 9) (r 8) (r 5) (r 1) m) (fun _ _=>rfl) (fun i0=>fun r m=>by kernel_rfl))) (fun r m=>by kernel_rfl)))) (fun r m=>by kernel_rfl))) (fun r m=>by kernel_rfl))) (fun r m=>by kernel_rfl)) m
def Q1a0:En:=⟨Qtz,Tryz.f277,Tryz.func277,by kernel_rfl,arg2 Qhp,okarg2 Q1ag⟩
def Qk2 (G:Gt)(p5:V)(m:M):R:=
  some (p5,m)
def Qb9 (G:Gt):Nat → V → V → V → V → V → M → R
 | 0,_,_,_,_,_,_=>none
 | i + 1,p10,p9,p8,p5,p1,m=>
  bp (pur (bin .lss false true .int p10 p9) m) fun x0 m=>
  brb x0
  (bp (pur (aIndexAddrSl 2 p8 p10) m) fun x1 m=>
  bp (pur (aLoad true 2 x1 m) m) fun x2 m=>
  bp (some (aNew Qp6 Q106 m)) fun x3 m=>
  bp (unt (aStore 2 x3 x2 m)) fun _ m=>
  bp (pur (aLoad true 2 x3 m) m) fun x4 m=>
  bp (evCall G.tab p1 [x4] m) fun x5 m=>
  bp (aBuildSlice Qp6 Q106 2 1 [(0,x5)] m) fun x6 m=>
  bp (apS Qp6 2 40 p5 x6 m) fun x7 m=>
  bp (pur (bin .add true true .int p10 (.int .i64 1)) m) fun x8 m=>
  (Qb9 G i) x8 p9 p8 x7 p1 m)
  (Qk2 G p5 m)
def Qk3 (G:Gt)(p10 p9 p8 p5 p1:V)(m:M):R:=
  Qb9 G G.rds p10 p9 p8 p5 p1 m
def Qk4 (G:Gt)(p0 p5 p1:V)(m:M):R:=
  bp (pur (lenK 1 p0 m) m) fun x9 m=>
  Qk3 G (.int .i64 0) x9 p0 p5 p1 m
def Qk5 (G:Gt)(p0 p1:V)(m:M):R:=
  Qk4 G p0 (.slice none 0 0) p1 m
def Qcg (G:Gt)(p0 p1:V)(m:M):R:=
  Qk5 G p0 p1 m
theorem Q15i (G:Gt)(a0 a1:V)(m:M):ef G Tryz.f279 [a0,a1] m = Qcg G a0 a1 m:=
  evFn_of (r:=fun r m=>Qcg G (r 0) (r 1) m) rfl rfl (tr (seqQ (f:=fun r m=>Qk5 G (r 0) (r 1) m) (tr (seqQ (f:=fun r m=>Qk4 G (r 0) (r 5) (r 1) m) (tr (tr (seqQ (f:=fun r m=>Qk2 G (r 5) m) (fun r m=>by kernel_rfl)) (seqQ (f:=fun r m=>Qk3 G (r 10) (r 9) (r 8) (r 5) (r 1) m) (tr (blockQ (loopQ (fun i r m=>Qb9 G i (r 10) (r 9) (r 8) (r 5) (r 1) m) (fun _ _=>rfl) (fun i0=>fun r m=>by kernel_rfl))) (fun r m=>by kernel_rfl)))) (fun r m=>by kernel_rfl))) (fun r m=>by kernel_rfl))) (fun r m=>by kernel_rfl)) m
def Q157:En:=⟨Qmg,Tryz.f279,Tryz.func279,by kernel_rfl,arg2 Qcg,okarg2 Q15i⟩
def Qgw (G:Gt)(p5:V)(m:M):R:=
  some (p5,m)
def Q80 (G:Gt):Nat → V → V → V → V → V → M → R
 | 0,_,_,_,_,_,_=>none
 | i + 1,p10,p9,p8,p5,p1,m=>
  bp (pur (bin .lss false true .int p10 p9) m) fun x0 m=>
  brb x0
  (bp (pur (aIndexAddrSl 2 p8 p10) m) fun x1 m=>
  bp (pur (aLoad true 2 x1 m) m) fun x2 m=>
  bp (some (aNew Qio Qr2 m)) fun x3 m=>
  bp (unt (aStore 2 x3 x2 m)) fun _ m=>
  bp (pur (aLoad true 2 x3 m) m) fun x4 m=>
  bp (evCall G.tab p1 [x4] m) fun x5 m=>
  bp (aBuildSlice Qio Qr2 2 1 [(0,x5)] m) fun x6 m=>
  bp (apS Qio 2 40 p5 x6 m) fun x7 m=>
  bp (pur (bin .add true true .int p10 (.int .i64 1)) m) fun x8 m=>
  (Q80 G i) x8 p9 p8 x7 p1 m)
  (Qgw G p5 m)
def Qgx (G:Gt)(p10 p9 p8 p5 p1:V)(m:M):R:=
  Q80 G G.rds p10 p9 p8 p5 p1 m
def Qgy (G:Gt)(p0 p5 p1:V)(m:M):R:=
  bp (pur (lenK 1 p0 m) m) fun x9 m=>
  Qgx G (.int .i64 0) x9 p0 p5 p1 m
def Qgz (G:Gt)(p0 p1:V)(m:M):R:=
  Qgy G p0 (.slice none 0 0) p1 m
def Qao (G:Gt)(p0 p1:V)(m:M):R:=
  Qgz G p0 p1 m
theorem Q121 (G:Gt)(a0 a1:V)(m:M):ef G Tryz.f282 [a0,a1] m = Qao G a0 a1 m:=
  evFn_of (r:=fun r m=>Qao G (r 0) (r 1) m) rfl rfl (tr (seqQ (f:=fun r m=>Qgz G (r 0) (r 1) m) (tr (seqQ (f:=fun r m=>Qgy G (r 0) (r 5) (r 1) m) (tr (tr (seqQ (f:=fun r m=>Qgw G (r 5) m) (fun r m=>by kernel_rfl)) (seqQ (f:=fun r m=>Qgx G (r 10) (r 9) (r 8) (r 5) (r 1) m) (tr (blockQ (loopQ (fun i r m=>Q80 G i (r 10) (r 9) (r 8) (r 5) (r 1) m) (fun _ _=>rfl) (fun i0=>fun r m=>by kernel_rfl))) (fun r m=>by kernel_rfl)))) (fun r m=>by kernel_rfl))) (fun r m=>by kernel_rfl))) (fun r m=>by kernel_rfl)) m
def Q11z:En:=⟨Qit,Tryz.f282,Tryz.func282,by kernel_rfl,arg2 Qao,okarg2 Q121⟩
def Qq5 (G:Gt)(p5:V)(m:M):R:=
  some (p5,m)
def Qfe (G:Gt):Nat → V → V → V → V → V → M → R
 | 0,_,_,_,_,_,_=>none
 | i + 1,p10,p9,p8,p5,p1,m=>
  bp (pur (bin .lss false true .int p10 p9) m) fun x0 m=>
  brb x0
  (bp (pur (aIndexAddrSl 3 p8 p10) m) fun x1 m=>
  bp (pur (aLoad true 3 x1 m) m) fun x2 m=>
  bp (some (aNew Q131 Q1ah m)) fun x3 m=>
  bp (unt (aStore 3 x3 x2 m)) fun _ m=>
  bp (pur (aLoad true 3 x3 m) m) fun x4 m=>
  bp (evCall G.tab p1 [x4] m) fun x5 m=>
  bp (aBuildSlice Q131 Q1ah 3 1 [(0,x5)] m) fun x6 m=>
  bp (apS Q131 3 48 p5 x6 m) fun x7 m=>
  bp (pur (bin .add true true .int p10 (.int .i64 1)) m) fun x8 m=>
  (Qfe G i) x8 p9 p8 x7 p1 m)
  (Qq5 G p5 m)
def Qq6 (G:Gt)(p10 p9 p8 p5 p1:V)(m:M):R:=
  Qfe G G.rds p10 p9 p8 p5 p1 m
def Qq7 (G:Gt)(p0 p5 p1:V)(m:M):R:=
  bp (pur (lenK 1 p0 m) m) fun x9 m=>
  Qq6 G (.int .i64 0) x9 p0 p5 p1 m
def Qq8 (G:Gt)(p0 p1:V)(m:M):R:=
  Qq7 G p0 (.slice none 0 0) p1 m
def Qhq (G:Gt)(p0 p1:V)(m:M):R:=
  Qq8 G p0 p1 m
theorem Q1ai (G:Gt)(a0 a1:V)(m:M):ef G Tryz.f287 [a0,a1] m = Qhq G a0 a1 m:=
  evFn_of (r:=fun r m=>Qhq G (r 0) (r 1) m) rfl rfl (tr (seqQ (f:=fun r m=>Qq8 G (r 0) (r 1) m) (tr (seqQ (f:=fun r m=>Qq7 G (r 0) (r 5) (r 1) m) (tr (tr (seqQ (f:=fun r m=>Qq5 G (r 5) m) (fun r m=>by kernel_rfl)) (seqQ (f:=fun r m=>Qq6 G (r 10) (r 9) (r 8) (r 5) (r 1) m) (tr (blockQ (loopQ (fun i r m=>Qfe G i (r 10) (r 9) (r 8) (r 5) (r 1) m) (fun _ _=>rfl) (fun i0=>fun r m=>by kernel_rfl))) (fun r m=>by kernel_rfl)))) (fun r m=>by kernel_rfl))) (fun r m=>by kernel_rfl))) (fun r m=>by kernel_rfl)) m
def Q19v:En:=⟨Qu0,Tryz.f287,Tryz.func287,by kernel_rfl,arg2 Qhq,okarg2 Q1ai⟩
def Qu1 (G:Gt)(p5:V)(m:M):R:=
  some (p5,m)
def Qhr (G:Gt):Nat → V → V → V → V → V → M → R
 | 0,_,_,_,_,_,_=>none
 | i + 1,p10,p9,p8,p5,p1,m=>
  bp (pur (bin .lss false true .int p10 p9) m) fun x0 m=>
  brb x0
  (bp (pur (aIndexAddrSl 3 p8 p10) m) fun x1 m=>
  bp (pur (aLoad true 3 x1 m) m) fun x2 m=>
  bp (some (aNew Qv0 Q12t m)) fun x3 m=>
  bp (unt (aStore 3 x3 x2 m)) fun _ m=>
  bp (pur (aLoad true 3 x3 m) m) fun x4 m=>
  bp (evCall G.tab p1 [x4] m) fun x5 m=>
  bp (aBuildSlice Qv0 Q12t 3 1 [(0,x5)] m) fun x6 m=>
  bp (apS Qv0 3 48 p5 x6 m) fun x7 m=>
  bp (pur (bin .add true true .int p10 (.int .i64 1)) m) fun x8 m=>
  (Qhr G i) x8 p9 p8 x7 p1 m)
  (Qu1 G p5 m)
def Qu2 (G:Gt)(p10 p9 p8 p5 p1:V)(m:M):R:=
  Qhr G G.rds p10 p9 p8 p5 p1 m
def Qu3 (G:Gt)(p0 p5 p1:V)(m:M):R:=
  bp (pur (lenK 1 p0 m) m) fun x9 m=>
  Qu2 G (.int .i64 0) x9 p0 p5 p1 m
def Qu4 (G:Gt)(p0 p1:V)(m:M):R:=
  Qu3 G p0 (.slice none 0 0) p1 m
def Qkp (G:Gt)(p0 p1:V)(m:M):R:=
  Qu4 G p0 p1 m
theorem Q1d1 (G:Gt)(a0 a1:V)(m:M):ef G Tryz.f291 [a0,a1] m = Qkp G a0 a1 m:=
  evFn_of (r:=fun r m=>Qkp G (r 0) (r 1) m) rfl rfl (tr (seqQ (f:=fun r m=>Qu4 G (r 0) (r 1) m) (tr (seqQ (f:=fun r m=>Qu3 G (r 0) (r 5) (r 1) m) (tr (tr (seqQ (f:=fun r m=>Qu1 G (r 5) m) (fun r m=>by kernel_rfl)) (seqQ (f:=fun r m=>Qu2 G (r 10) (r 9) (r 8) (r 5) (r 1) m) (tr (blockQ (loopQ (fun i r m=>Qhr G i (r 10) (r 9) (r 8) (r 5) (r 1) m) (fun _ _=>rfl) (fun i0=>fun r m=>by kernel_rfl))) (fun r m=>by kernel_rfl)))) (fun r m=>by kernel_rfl))) (fun r m=>by kernel_rfl))) (fun r m=>by kernel_rfl)) m
def Q1cp:En:=⟨Qy1,Tryz.f291,Tryz.func291,by kernel_rfl,arg2 Qkp,okarg2 Q1d1⟩
def Qvh (G:Gt)(p5:V)(m:M):R:=
  some (p5,m)
def Qjc (G:Gt):Nat → V → V → V → V → V → M → R
 | 0,_,_,_,_,_,_=>none
 | i + 1,p10,p9,p8,p5,p1,m=>
  bp (pur (bin .lss false true .int p10 p9) m) fun x0 m=>
  brb x0
  (bp (pur (aIndexAddrSl 6 p8 p10) m) fun x1 m=>
  bp (pur (aLoad true 6 x1 m) m) fun x2 m=>
  bp (some (aNew Qtu Q10t m)) fun x3 m=>
  bp (unt (aStore 6 x3 x2 m)) fun _ m=>
  bp (pur (aLoad true 6 x3 m) m) fun x4 m=>
  bp (evCall G.tab p1 [x4] m) fun x5 m=>
  bp (aBuildSlice Qtu Q10t 6 1 [(0,x5)] m) fun x6 m=>
  bp (apS Qtu 6 96 p5 x6 m) fun x7 m=>
  bp (pur (bin .add true true .int p10 (.int .i64 1)) m) fun x8 m=>
  (Qjc G i) x8 p9 p8 x7 p1 m)
  (Qvh G p5 m)
def Qvi (G:Gt)(p10 p9 p8 p5 p1:V)(m:M):R:=
  Qjc G G.rds p10 p9 p8 p5 p1 m
def Qvj (G:Gt)(p0 p5 p1:V)(m:M):R:=
  bp (pur (lenK 1 p0 m) m) fun x9 m=>
  Qvi G (.int .i64 0) x9 p0 p5 p1 m
def Qvk (G:Gt)(p0 p1:V)(m:M):R:=
  Qvj G p0 (.slice none 0 0) p1 m
def Qmh (G:Gt)(p0 p1:V)(m:M):R:=
  Qvk G p0 p1 m
theorem Q1e7 (G:Gt)(a0 a1:V)(m:M):ef G Tryz.f294 [a0,a1] m = Qmh G a0 a1 m:=
  evFn_of (r:=fun r m=>Qmh G (r 0) (r 1) m) rfl rfl (tr (seqQ (f:=fun r m=>Qvk G (r 0) (r 1) m) (tr (seqQ (f:=fun r m=>Qvj G (r 0) (r 5) (r 1) m) (tr (tr (seqQ (f:=fun r m=>Qvh G (r 5) m) (fun r m=>by kernel_rfl)) (seqQ (f:=fun r m=>Qvi G (r 10) (r 9) (r 8) (r 5) (r 1) m) (tr (blockQ (loopQ (fun i r m=>Qjc G i (r 10) (r 9) (r 8) (r 5) (r 1) m) (fun _ _=>rfl) (fun i0=>fun r m=>by kernel_rfl))) (fun r m=>by kernel_rfl)))) (fun r m=>by kernel_rfl))) (fun r m=>by kernel_rfl))) (fun r m=>by kernel_rfl)) m
def Q1e1:En:=⟨Q11a,Tryz.f294,Tryz.func294,by kernel_rfl,arg2 Qmh,okarg2 Q1e7⟩
def Q7b (G:Gt)(k0:V → V → V → V → V → V → M → R)(p87 p0 p1 p2 p11 p3 p8 p9 p10:V)(m:M):R:=
  brb p87
  (bp (G.tab Qr3 [p0,p1,p2,p11] m) fun x0 m=>
  k0 p2 x0 p0 p3 p8 p9 m)
  (bp (G.tab Qy2 [p0,p1,p2,p11] m) fun x1 m=>
  bp (pur (aExtract x1 0) m) fun x2 m=>
  bp (pur (aExtract x1 1) m) fun x3 m=>
  bp (pur (bin .sub false true .int x2 p1) m) fun x4 m=>
  bp (pur (bin .sub false true .int p2 x2) m) fun x5 m=>
  bp (pur (bin .quo true true .int p10 (.int .i64 8)) m) fun x6 m=>
  bp (pur (bin .lss false true .int x4 x5) m) fun x7 m=>
  brb x7
  (bp (pur (bin .geq false true .int x4 x6) m) fun x8 m=>
  bp (G.tab Q59 [p0,p1,x2,p3] m) fun x9 m=>
  bp (pur (bin .add true true .int x2 (.int .i64 1)) m) fun x10 m=>
  k0 p2 x10 p0 p3 x8 x3 m)
  (bp (pur (bin .geq false true .int x5 x6) m) fun x11 m=>
  bp (pur (bin .add true true .int x2 (.int .i64 1)) m) fun x12 m=>
  bp (G.tab Q59 [p0,x12,p2,p3] m) fun x13 m=>
  k0 x2 p1 p0 p3 x11 x3 m))
def Q81 (G:Gt)(k0:V → V → V → V → V → V → M → R)(p1 p0 p11 p2 p3 p8 p9 p10:V)(m:M):R:=
  bp (pur (bin .gtr true true .int p1 (.int .i64 0)) m) fun x14 m=>
  brt x14
  (bp (pur (bin .sub true true .int p1 (.int .i64 1)) m) fun x15 m=>
  bp (pur (aIndexAddrSl 1 p0 x15) m) fun x16 m=>
  bp (pur (aLoad false 1 x16 m) m) fun x17 m=>
  bp (pur (aIndexAddrSl 1 p0 p11) m) fun x18 m=>
  bp (pur (aLoad false 1 x18 m) m) fun x19 m=>
  bp (G.tab Q173 [x17,x19] m) fun x20 m=>
  bp (pur (un .not x20) m) fun x21 m=>
  Q7b G k0 x21 p0 p1 p2 p11 p3 p8 p9 p10 m)
  (Q7b G k0 (.bool false) p0 p1 p2 p11 p3 p8 p9 p10 m)
  (none)
def Q40 (G:Gt)(k0:V → V → V → V → V → V → M → R)(p68 p0 p1 p2 p11 p3 p8 p9 p10:V)(m:M):R:=
  brb p68
  (bp (G.tab Qkq [p0,p1,p2] m) fun x22 m=>
  brb x22
  (some (.tuple ⟨[]⟩,m))
  (Q81 G k0 p1 p0 p11 p2 p3 p8 p9 p10 m))
  (Q81 G k0 p1 p0 p11 p2 p3 p8 p9 p10 m)
def Q82 (G:Gt)(k0:V → V → V → V → V → V → M → R)(p8 p9 p12 p0 p1 p2 p11 p3 p10:V)(m:M):R:=
  brb p8
  (brb p9
  (bp (pur (bin .eql true true .int p12 (.int .i64 1)) m) fun x23 m=>
  Q40 G k0 x23 p0 p1 p2 p11 p3 p8 p9 p10 m)
  (Q40 G k0 (.bool false) p0 p1 p2 p11 p3 p8 p9 p10 m))
  (Q40 G k0 (.bool false) p0 p1 p2 p11 p3 p8 p9 p10 m)
def Qh0 (G:Gt)(k0:V → V → V → V → V → V → M → R)(p12 p0 p1 p2 p11 p8 p9 p3 p10:V)(m:M):R:=
  bp (pur (bin .eql true true .int p12 (.int .i64 2)) m) fun x24 m=>
  brb x24
  (bp (G.tab Qu5 [p0,p1,p2] m) fun x25 m=>
  bp (pur (bin .sub true true .int p2 (.int .i64 1)) m) fun x26 m=>
  bp (pur (bin .sub false true .int p11 p1) m) fun x27 m=>
  bp (pur (bin .sub false true .int x26 x27) m) fun x28 m=>
  Q82 G k0 p8 p9 (.int .i64 1) p0 p1 p2 x28 p3 p10 m)
  (Q82 G k0 p8 p9 p12 p0 p1 p2 p11 p3 p10 m)
def Q83 (G:Gt)(k0:V → V → V → V → V → V → M → R)(p0 p1 p2 p8 p9 p3 p10:V)(m:M):R:=
  bp (G.tab Qv1 [p0,p1,p2] m) fun x29 m=>
  bp (pur (aExtract x29 0) m) fun x30 m=>
  bp (pur (aExtract x29 1) m) fun x31 m=>
  Qh0 G k0 x31 p0 p1 p2 x30 p8 p9 p3 p10 m
def Qh1 (G:Gt)(k0:V → V → V → V → V → V → M → R)(p8 p0 p1 p2 p3 p9 p10:V)(m:M):R:=
  bp (pur (un .not p8) m) fun x32 m=>
  brb x32
  (bp (G.tab Qt0 [p0,p1,p2] m) fun x33 m=>
  bp (pur (bin .sub true true .int p3 (.int .i64 1)) m) fun x34 m=>
  Q83 G k0 p0 p1 p2 p8 p9 x34 p10 m)
  (Q83 G k0 p0 p1 p2 p8 p9 p3 p10 m)
def Qh2 (G:Gt)(k0:V → V → V → V → V → V → M → R)(p3 p0 p1 p2 p8 p9 p10:V)(m:M):R:=
  bp (pur (bin .eql true true .int p3 (.int .i64 0)) m) fun x35 m=>
  brb x35
  (bp (G.tab Q107 [p0,p1,p2] m) fun x36 m=>
  some (.tuple ⟨[]⟩,m))
  (Qh1 G k0 p8 p0 p1 p2 p3 p9 p10 m)
def Qh3 (G:Gt)(k0:V → V → V → V → V → V → M → R)(p10 p0 p1 p2 p3 p8 p9:V)(m:M):R:=
  bp (pur (bin .leq true true .int p10 (.int .i64 12)) m) fun x37 m=>
  brb x37
  (bp (G.tab Qcm [p0,p1,p2] m) fun x38 m=>
  some (.tuple ⟨[]⟩,m))
  (Qh2 G k0 p3 p0 p1 p2 p8 p9 p10 m)
def Qf (G:Gt):Nat → V → V → V → V → V → V → M → R
 | 0,_,_,_,_,_,_,_=>none
 | i + 1,p2,p1,p0,p3,p8,p9,m=>
  bp (pur (bin .sub false true .int p2 p1) m) fun x39 m=>
  Qh3 G (Qf G i) x39 p0 p1 p2 p3 p8 p9 m
def Qh4 (G:Gt)(p2 p1 p0 p3 p8 p9:V)(m:M):R:=
  Qf G G.rds p2 p1 p0 p3 p8 p9 m
def Qh5 (G:Gt)(p2 p1 p0 p3 p8:V)(m:M):R:=
  Qh4 G p2 p1 p0 p3 p8 (.bool true) m
def Qap (G:Gt)(p2 p1 p0 p3:V)(m:M):R:=
  Qh5 G p2 p1 p0 p3 (.bool true) m
theorem Q122 (G:Gt)(a0 a1 a2 a3:V)(m:M):ef G Tryz.f298 [a0,a1,a2,a3] m = Qap G a2 a1 a0 a3 m:=
  evFn_of (r:=fun r m=>Qap G (r 2) (r 1) (r 0) (r 3) m) rfl rfl (tr (seqQ (f:=fun r m=>Qh5 G (r 2) (r 1) (r 0) (r 3) (r 8) m) (tr (seqQ (f:=fun r m=>Qh4 G (r 2) (r 1) (r 0) (r 3) (r 8) (r 9) m) (tr (blockQ (loopQ (fun i r m=>Qf G i (r 2) (r 1) (r 0) (r 3) (r 8) (r 9) m) (fun _ _=>rfl) (fun i0=>tr (blockQ (seqQ (f:=fun r m=>Qh3 G (Qf G i0) (r 10) (r 0) (r 1) (r 2) (r 3) (r 8) (r 9) m) (tr (seqQ (f:=fun r m=>Qh2 G (Qf G i0) (r 3) (r 0) (r 1) (r 2) (r 8) (r 9) (r 10) m) (tr (seqQ (f:=fun r m=>Qh1 G (Qf G i0) (r 8) (r 0) (r 1) (r 2) (r 3) (r 9) (r 10) m) (tr (seqQ (f:=fun r m=>Q83 G (Qf G i0) (r 0) (r 1) (r 2) (r 8) (r 9) (r 3) (r 10) m) (tr (seqQ (f:=fun r m=>Qh0 G (Qf G i0) (r 12) (r 0) (r 1) (r 2) (r 11) (r 8) (r 9) (r 3) (r 10) m) (tr (seqQ (f:=fun r m=>Q82 G (Qf G i0) (r 8) (r 9) (r 12) (r 0) (r 1) (r 2) (r 11) (r 3) (r 10) m) (tr (tr (seqQ (f:=fun r m=>Q81 G (Qf G i0) (r 1) (r 0) (r 11) (r 2) (r 3) (r 8) (r 9) (r 10) m) (tr (tr seqD (seqQ (f:=fun r m=>Q7b G (Qf G i0) (r 87) (r 0) (r 1) (r 2) (r 11) (r 3) (r 8) (r 9) (r 10) m) (fun r m=>by kernel_rfl))) (fun r m=>by kernel_rfl))) (seqQ (f:=fun r m=>Q40 G (Qf G i0) (r 68) (r 0) (r 1) (r 2) (r 11) (r 3) (r 8) (r 9) (r 10) m) (fun r m=>by kernel_rfl))) (fun r m=>by kernel_rfl))) (fun r m=>by kernel_rfl))) (fun r m=>by kernel_rfl))) (fun r m=>by kernel_rfl))) (fun r m=>by kernel_rfl))) (fun r m=>by kernel_rfl)))) (fun r m=>by kernel_rfl)))) (fun r m=>by kernel_rfl))) (fun r m=>by kernel_rfl))) (fun r m=>by kernel_rfl)) m
def Q11y:En:=⟨Q59,Tryz.f298,Tryz.func298,by kernel_rfl,arg4 (fun G a0 a1 a2 a3 m=>Qap G a2 a1 a0 a3 m),okarg4 Q122⟩
def Q34 (G:Gt)(p0 p1:V)(m:M):R:=
  bp (pur (lenK 1 p0 m) m) fun x0 m=>
  bp (G.tab Qh6 [p0,x0,p1] m) fun x1 m=>
  some (.tuple ⟨[]⟩,m)
theorem Qjd (G:Gt)(a0 a1:V)(m:M):ef G Tryz.f299 [a0,a1] m = Q34 G a0 a1 m:=
  evFn_of (r:=fun r m=>Q34 G (r 0) (r 1) m) rfl rfl (fun r m=>by kernel_rfl) m
def Qj2:En:=⟨Q7a,Tryz.f299,Tryz.func299,by kernel_rfl,arg2 Q34,okarg2 Qjd⟩
def Qdi (G:Gt)(p0 p1 p2:V)(m:M):R:=
  bp (some (aNew Q1r (Value.cells p0).toList m)) fun x0 m=>
  bp (some (aNew Q1r (Value.cells p1).toList m)) fun x1 m=>
  bp (pur (aLoad false 1 p2 m) m) fun x2 m=>
  bp (pur (aLoad true 11 x0 m) m) fun x3 m=>
  bp (pur (aLoad false 1 p2 m) m) fun x4 m=>
  bp (pur (aLoad true 11 x1 m) m) fun x5 m=>
  bp (evCall G.tab x2 [x3] m) fun x6 m=>
  ckB (again (pur (aLoad false 1 p2 m) m) x4 && (again (pur (aLoad true 11 x1 m) m) x5 && true))
  (bp (evCall G.tab x4 [x5] m) fun x7 m=>
  bp (G.tab Qwn [x6,x7] m) fun x8 m=>
  some (x8,m))
theorem Q174 (G:Gt)(a0 a1 a2:V)(m:M):ef G Tryz.f300 [a0,a1,a2] m = Qdi G a0 a1 a2 m:=
  evFn_of (r:=fun r m=>Qdi G (r 0) (r 1) (r 2) m) rfl rfl (fun r m=>by kernel_rfl) m
def Q16h:En:=⟨Qo6,Tryz.f300,Tryz.func300,by kernel_rfl,arg3 Qdi,okarg3 Q174⟩
def Q2t (G:Gt)(p0 p1:V)(m:M):R:=
  bp (pur (lenK 1 p0 m) m) fun x0 m=>
  bp (G.tab Qfn [p0,x0,p1] m) fun x1 m=>
  some (.tuple ⟨[]⟩,m)
theorem Qhs (G:Gt)(a0 a1:V)(m:M):ef G Tryz.f301 [a0,a1] m = Q2t G a0 a1 m:=
  evFn_of (r:=fun r m=>Q2t G (r 0) (r 1) m) rfl rfl (fun r m=>by kernel_rfl) m
def Qhi:En:=⟨Q6a,Tryz.f301,Tryz.func301,by kernel_rfl,arg2 Q2t,okarg2 Qhs⟩
end
end Go.Ab.Sh

set_option linter.unusedVariables false
set_option maxRecDepth 100000
namespace Go.Ab.Sh
open Go Go.Ab Go.Proofs
noncomputable section
def Q23 (G:Gt)(p0 p1:V)(m:M):R:=
  bp (pur (lenK 1 p0 m) m) fun x0 m=>
  bp (G.tab Qc2 [p0,x0,p1] m) fun x1 m=>
  some (.tuple ⟨[]⟩,m)
theorem Qch (G:Gt)(a0 a1:V)(m:M):ef G Tryz.f303 [a0,a1] m = Q23 G a0 a1 m:=
  evFn_of (r:=fun r m=>Q23 G (r 0) (r 1) m) rfl rfl (fun r m=>by kernel_rfl) m
def Qcb:En:=⟨Q43,Tryz.f303,Tryz.func303,by kernel_rfl,arg2 Q23,okarg2 Qch⟩
def Q1o (G:Gt)(p0 p1:V)(m:M):R:=
  bp (pur (lenK 1 p0 m) m) fun x0 m=>
  bp (G.tab Qav [p0,x0,p1] m) fun x1 m=>
  some (.tuple ⟨[]⟩,m)
theorem Qaq (G:Gt)(a0 a1:V)(m:M):ef G Tryz.f305 [a0,a1] m = Q1o G a0 a1 m:=
  evFn_of (r:=fun r m=>Q1o G (r 0) (r 1) m) rfl rfl (fun r m=>by kernel_rfl) m
def Qam:En:=⟨Q32,Tryz.f305,Tryz.func305,by kernel_rfl,arg2 Q1o,okarg2 Qaq⟩
def Q2u (G:Gt)(p0 p1:V)(m:M):R:=
  bp (pur (lenK 1 p0 m) m) fun x0 m=>
  bp (G.tab Qfo [p0,x0,p1] m) fun x1 m=>
  some (.tuple ⟨[]⟩,m)
theorem Qht (G:Gt)(a0 a1:V)(m:M):ef G Tryz.f307 [a0,a1] m = Q2u G a0 a1 m:=
  evFn_of (r:=fun r m=>Q2u G (r 0) (r 1) m) rfl rfl (fun r m=>by kernel_rfl) m
def Qhf:En:=⟨Q6b,Tryz.f307,Tryz.func307,by kernel_rfl,arg2 Q2u,okarg2 Qht⟩
def Q6c (G:Gt)(k0:V → V → V → V → M → R)(p6 p1 p0 p2:V)(m:M):R:=
  bp (pur (bin .mul true true .int p6 (.int .i64 2)) m) fun x0 m=>
  k0 x0 p1 p0 p2 m
def Qdj (G:Gt)(k0:V → V → V → V → M → R)(p7 p6 p1 p0 p2:V)(m:M):R:=
  bp (pur (bin .add false true .int p7 p6) m) fun x1 m=>
  bp (pur (bin .lss false true .int x1 p1) m) fun x2 m=>
  brb x2
  (bp (G.tab Qdk [p0,p7,x1,p1,p2] m) fun x3 m=>
  Q6c G k0 p6 p1 p0 p2 m)
  (Q6c G k0 p6 p1 p0 p2 m)
def Q6d (G:Gt)(k0:V → V → V → V → M → R):Nat → V → V → V → V → V → V → M → R
 | 0,_,_,_,_,_,_,_=>none
 | i + 1,p8,p1,p0,p7,p6,p2,m=>
  bp (pur (bin .leq false true .int p8 p1) m) fun x4 m=>
  brb x4
  (bp (pur (bin .add false true .int p7 p6) m) fun x5 m=>
  bp (G.tab Qdk [p0,p7,x5,p8,p2] m) fun x6 m=>
  bp (pur (bin .mul true true .int (.int .i64 2) p6) m) fun x7 m=>
  bp (pur (bin .add false true .int p8 x7) m) fun x8 m=>
  (Q6d G k0 i) x8 p1 p0 p8 p6 p2 m)
  (Qdj G k0 p7 p6 p1 p0 p2 m)
def Qdl (G:Gt)(k0:V → V → V → V → M → R)(p8 p1 p0 p7 p6 p2:V)(m:M):R:=
  Q6d G k0 G.rds p8 p1 p0 p7 p6 p2 m
def Qdm (G:Gt)(k0:V → V → V → V → M → R)(p6 p1 p0 p2:V)(m:M):R:=
  bp (pur (bin .mul true true .int (.int .i64 2) p6) m) fun x9 m=>
  Qdl G k0 x9 p1 p0 (.int .i64 0) p6 p2 m
def Qy (G:Gt):Nat → V → V → V → V → M → R
 | 0,_,_,_,_,_=>none
 | i + 1,p6,p1,p0,p2,m=>
  bp (pur (bin .lss false true .int p6 p1) m) fun x10 m=>
  brb x10
  (Qdm G (Qy G i) p6 p1 p0 p2 m)
  (some (.tuple ⟨[]⟩,m))
def Qdn (G:Gt)(p6 p1 p0 p2:V)(m:M):R:=
  Qy G G.rds p6 p1 p0 p2 m
def Qdo (G:Gt)(p0 p7 p1 p2 p6:V)(m:M):R:=
  bp (G.tab Q4c [p0,p7,p1,p2] m) fun x11 m=>
  Qdn G p6 p1 p0 p2 m
def Q5p (G:Gt):Nat → V → V → V → V → V → V → M → R
 | 0,_,_,_,_,_,_,_=>none
 | i + 1,p8,p1,p0,p7,p2,p6,m=>
  bp (pur (bin .leq false true .int p8 p1) m) fun x12 m=>
  brb x12
  (bp (G.tab Q4c [p0,p7,p8,p2] m) fun x13 m=>
  bp (pur (bin .add false true .int p8 p6) m) fun x14 m=>
  (Q5p G i) x14 p1 p0 p8 p2 p6 m)
  (Qdo G p0 p7 p1 p2 p6 m)
def Qdp (G:Gt)(p8 p1 p0 p7 p2 p6:V)(m:M):R:=
  Q5p G G.rds p8 p1 p0 p7 p2 p6 m
def Qdq (G:Gt)(p6 p1 p0 p2:V)(m:M):R:=
  Qdp G p6 p1 p0 (.int .i64 0) p2 p6 m
def Q7c (G:Gt)(p1 p0 p2:V)(m:M):R:=
  Qdq G (.int .i64 20) p1 p0 p2 m
theorem Qwo (G:Gt)(a0 a1 a2:V)(m:M):ef G Tryz.f309 [a0,a1,a2] m = Q7c G a1 a0 a2 m:=
  evFn_of (r:=fun r m=>Q7c G (r 1) (r 0) (r 2) m) rfl rfl (tr (seqQ (f:=fun r m=>Qdq G (r 6) (r 1) (r 0) (r 2) m) (tr (seqQ (f:=fun r m=>Qdp G (r 8) (r 1) (r 0) (r 7) (r 2) (r 6) m) (tr (tr (seqQ (f:=fun r m=>Qdo G (r 0) (r 7) (r 1) (r 2) (r 6) m) (tr (seqQ (f:=fun r m=>Qdn G (r 6) (r 1) (r 0) (r 2) m) (tr (blockQ (loopQ (fun i r m=>Qy G i (r 6) (r 1) (r 0) (r 2) m) (fun _ _=>rfl) (fun i0=>tr (seqQ (f:=fun r m=>Qdm G (Qy G i0) (r 6) (r 1) (r 0) (r 2) m) (tr (blockQ (seqQ (f:=fun r m=>Qdl G (Qy G i0) (r 8) (r 1) (r 0) (r 7) (r 6) (r 2) m) (tr (tr (seqQ (f:=fun r m=>Qdj G (Qy G i0) (r 7) (r 6) (r 1) (r 0) (r 2) m) (tr (seqQ (f:=fun r m=>Q6c G (Qy G i0) (r 6) (r 1) (r 0) (r 2) m) (fun r m=>by kernel_rfl)) (fun r m=>by kernel_rfl))) (blockQ (loopQ (fun i r m=>Q6d G (Qy G i0) i (r 8) (r 1) (r 0) (r 7) (r 6) (r 2) m) (fun _ _=>rfl) (fun i1=>fun r m=>by kernel_rfl)))) (fun r m=>by kernel_rfl)))) (fun r m=>by kernel_rfl))) (fun r m=>by kernel_rfl)))) (fun r m=>by kernel_rfl))) (fun r m=>by kernel_rfl))) (blockQ (loopQ (fun i r m=>Q5p G i (r 8) (r 1) (r 0) (r 7) (r 2) (r 6) m) (fun _ _=>rfl) (fun i0=>fun r m=>by kernel_rfl)))) (fun r m=>by kernel_rfl))) (fun r m=>by kernel_rfl))) (fun r m=>by kernel_rfl)) m
def Qwd:En:=⟨Qfp,Tryz.f309,Tryz.func309,by kernel_rfl,arg3 (fun G a0 a1 a2 m=>Q7c G a1 a0 a2 m),okarg3 Qwo⟩
def Qje (G:Gt)(p0 p1:V)(m:M):R:=
  bp (G.tab Qmi [p0] m) fun x0 m=>
  bp (G.tab Qmi [p1] m) fun x1 m=>
  brb x0
  (brb x1
  (some ((.int .i64 0),m))
  (some ((.int .i64 (-1)),m)))
  (brb x1
  (some ((.int .i64 1),m))
  (bp (pur (bin .lss false true .int p0 p1) m) fun x2 m=>
  brb x2
  (some ((.int .i64 (-1)),m))
  (bp (pur (bin .gtr false true .int p0 p1) m) fun x3 m=>
  brb x3
  (some ((.int .i64 1),m))
  (some ((.int .i64 0),m)))))
theorem Q1bo (G:Gt)(a0 a1:V)(m:M):ef G Tryz.f310 [a0,a1] m = Qje G a0 a1 m:=
  evFn_of (r:=fun r m=>Qje G (r 0) (r 1) m) rfl rfl (fun r m=>by kernel_rfl) m
def Q1bl:En:=⟨Qvl,Tryz.f310,Tryz.func310,by kernel_rfl,arg2 Qje,okarg2 Q1bo⟩
def Q6e (G:Gt)(k0:V → V → V → V → M → R)(p6 p1 p0 p2:V)(m:M):R:=
  bp (pur (bin .mul true true .int p6 (.int .i64 2)) m) fun x0 m=>
  k0 x0 p1 p0 p2 m
def Qdr (G:Gt)(k0:V → V → V → V → M → R)(p7 p6 p1 p0 p2:V)(m:M):R:=
  bp (pur (bin .add false true .int p7 p6) m) fun x1 m=>
  bp (pur (bin .lss false true .int x1 p1) m) fun x2 m=>
  brb x2
  (bp (G.tab Qds [p0,p7,x1,p1,p2] m) fun x3 m=>
  Q6e G k0 p6 p1 p0 p2 m)
  (Q6e G k0 p6 p1 p0 p2 m)
def Q6f (G:Gt)(k0:V → V → V → V → M → R):Nat → V → V → V → V → V → V → M → R
 | 0,_,_,_,_,_,_,_=>none
 | i + 1,p8,p1,p0,p7,p6,p2,m=>
  bp (pur (bin .leq false true .int p8 p1) m) fun x4 m=>
  brb x4
  (bp (pur (bin .add false true .int p7 p6) m) fun x5 m=>
  bp (G.tab Qds [p0,p7,x5,p8,p2] m) fun x6 m=>
  bp (pur (bin .mul true true .int (.int .i64 2) p6) m) fun x7 m=>
  bp (pur (bin .add false true .int p8 x7) m) fun x8 m=>
  (Q6f G k0 i) x8 p1 p0 p8 p6 p2 m)
  (Qdr G k0 p7 p6 p1 p0 p2 m)
def Qdt (G:Gt)(k0:V → V → V → V → M → R)(p8 p1 p0 p7 p6 p2:V)(m:M):R:=
  Q6f G k0 G.rds p8 p1 p0 p7 p6 p2 m
def Qdu (G:Gt)(k0:V → V → V → V → M → R)(p6 p1 p0 p2:V)(m:M):R:=
  bp (pur (bin .mul true true .int (.int .i64 2) p6) m) fun x9 m=>
  Qdt G k0 x9 p1 p0 (.int .i64 0) p6 p2 m
def Qz (G:Gt):Nat → V → V → V → V → M → R
 | 0,_,_,_,_,_=>none
 | i + 1,p6,p1,p0,p2,m=>
  bp (pur (bin .lss false true .int p6 p1) m) fun x10 m=>
  brb x10
  (Qdu G (Qz G i) p6 p1 p0 p2 m)
  (some (.tuple ⟨[]⟩,m))
def Qdv (G:Gt)(p6 p1 p0 p2:V)(m:M):R:=
  Qz G G.rds p6 p1 p0 p2 m
def Qdw (G:Gt)(p0 p7 p1 p2 p6:V)(m:M):R:=
  bp (G.tab Q4d [p0,p7,p1,p2] m) fun x11 m=>
  Qdv G p6 p1 p0 p2 m
def Q5q (G:Gt):Nat → V → V → V → V → V → V → M → R
 | 0,_,_,_,_,_,_,_=>none
 | i + 1,p8,p1,p0,p7,p2,p6,m=>
  bp (pur (bin .leq false true .int p8 p1) m) fun x12 m=>
  brb x12
  (bp (G.tab Q4d [p0,p7,p8,p2] m) fun x13 m=>
  bp (pur (bin .add false true .int p8 p6) m) fun x14 m=>
  (Q5q G i) x14 p1 p0 p8 p2 p6 m)
  (Qdw G p0 p7 p1 p2 p6 m)
def Qdx (G:Gt)(p8 p1 p0 p7 p2 p6:V)(m:M):R:=
  Q5q G G.rds p8 p1 p0 p7 p2 p6 m
def Qdy (G:Gt)(p6 p1 p0 p2:V)(m:M):R:=
  Qdx G p6 p1 p0 (.int .i64 0) p2 p6 m
def Q7d (G:Gt)(p1 p0 p2:V)(m:M):R:=
  Qdy G (.int .i64 20) p1 p0 p2 m
theorem Qwp (G:Gt)(a0 a1 a2:V)(m:M):ef G Tryz.f311 [a0,a1,a2] m = Q7d G a1 a0 a2 m:=
  evFn_of (r:=fun r m=>Q7d G (r 1) (r 0) (r 2) m) rfl rfl (tr (seqQ (f:=fun r m=>Qdy G (r 6) (r 1) (r 0) (r 2) m) (tr (seqQ (f:=fun r m=>Qdx G (r 8) (r 1) (r 0) (r 7) (r 2) (r 6) m) (tr (tr (seqQ (f:=fun r m=>Qdw G (r 0) (r 7) (r 1) (r 2) (r 6) m) (tr (seqQ (f:=fun r m=>Qdv G (r 6) (r 1) (r 0) (r 2) m) (tr (blockQ (loopQ (fun i r m=>Qz G i (r 6) (r 1) (r 0) (r 2) m) (fun _ _=>rfl) (fun i0=>tr (seqQ (f:=fun r m=>Qdu G (Qz G i0) (r 6) (r 1) (r 0) (r 2) m) (tr (blockQ (seqQ (f:=fun r m=>Qdt G (Qz G i0) (r 8) (r 1) (r 0) (r 7) (r 6) (r 2) m) (tr (tr (seqQ (f:=fun r m=>Qdr G (Qz G i0) (r 7) (r 6) (r 1) (r 0) (r 2) m) (tr (seqQ (f:=fun r m=>Q6e G (Qz G i0) (r 6) (r 1) (r 0) (r 2) m) (fun r m=>by kernel_rfl)) (fun r m=>by kernel_rfl))) (blockQ (loopQ (fun i r m=>Q6f G (Qz G i0) i (r 8) (r 1) (r 0) (r 7) (r 6) (r 2) m) (fun _ _=>rfl) (fun i1=>fun r m=>by kernel_rfl)))) (fun r m=>by kernel_rfl)))) (fun r m=>by kernel_rfl))) (fun r m=>by kernel_rfl)))) (fun r m=>by kernel_rfl))) (fun r m=>by kernel_rfl))) (blockQ (loopQ (fun i r m=>Q5q G i (r 8) (r 1) (r 0) (r 7) (r 2) (r 6) m) (fun _ _=>rfl) (fun i0=>fun r m=>by kernel_rfl)))) (fun r m=>by kernel_rfl))) (fun r m=>by kernel_rfl))) (fun r m=>by kernel_rfl)) m
def Qwc:En:=⟨Qfq,Tryz.f311,Tryz.func311,by kernel_rfl,arg3 (fun G a0 a1 a2 m=>Q7d G a1 a0 a2 m),okarg3 Qwp⟩
def Qa1 (G:Gt)(p0 p1:V)(m:M):R:=
  bp (G.tab Q8r [p0,p1] m) fun x0 m=>
  some (x0,m)
theorem Q108 (G:Gt)(a0 a1:V)(m:M):ef G Tryz.f312 [a0,a1] m = Qa1 G a0 a1 m:=
  evFn_of (r:=fun r m=>Qa1 G (r 0) (r 1) m) rfl rfl (fun r m=>by kernel_rfl) m
def Qzr:En:=⟨Qhu,Tryz.f312,Tryz.func312,by kernel_rfl,arg2 Qa1,okarg2 Q108⟩
def Q5e (G:Gt)(k0:V → V → V → V → V → V → V → M → R)(p97 p0 p1 p2 p13 p4 p3 p10 p11 p12:V)(m:M):R:=
  brb p97
  (bp (G.tab Qmj [p0,p1,p2,p13,p4] m) fun x0 m=>
  k0 p2 x0 p0 p4 p3 p10 p11 m)
  (bp (G.tab Qt1 [p0,p1,p2,p13,p4] m) fun x1 m=>
  bp (pur (aExtract x1 0) m) fun x2 m=>
  bp (pur (aExtract x1 1) m) fun x3 m=>
  bp (pur (bin .sub false true .int x2 p1) m) fun x4 m=>
  bp (pur (bin .sub false true .int p2 x2) m) fun x5 m=>
  bp (pur (bin .quo true true .int p12 (.int .i64 8)) m) fun x6 m=>
  bp (pur (bin .lss false true .int x4 x5) m) fun x7 m=>
  brb x7
  (bp (pur (bin .geq false true .int x4 x6) m) fun x8 m=>
  bp (G.tab Q3n [p0,p1,x2,p3,p4] m) fun x9 m=>
  bp (pur (bin .add true true .int x2 (.int .i64 1)) m) fun x10 m=>
  k0 p2 x10 p0 p4 p3 x8 x3 m)
  (bp (pur (bin .geq false true .int x5 x6) m) fun x11 m=>
  bp (pur (bin .add true true .int x2 (.int .i64 1)) m) fun x12 m=>
  bp (G.tab Q3n [p0,x12,p2,p3,p4] m) fun x13 m=>
  k0 x2 p1 p0 p4 p3 x11 x3 m))
def Q5r (G:Gt)(k0:V → V → V → V → V → V → V → M → R)(p1 p4 p0 p13 p2 p3 p10 p11 p12:V)(m:M):R:=
  bp (pur (bin .gtr true true .int p1 (.int .i64 0)) m) fun x14 m=>
  brt x14
  (bp (pur (bin .sub true true .int p1 (.int .i64 1)) m) fun x15 m=>
  bp (pur (aIndexAddrSl 2 p0 x15) m) fun x16 m=>
  bp (pur (aLoad true 2 x16 m) m) fun x17 m=>
  bp (pur (aIndexAddrSl 2 p0 p13) m) fun x18 m=>
  bp (pur (aLoad true 2 x18 m) m) fun x19 m=>
  bp (evCall G.tab p4 [x17,x19] m) fun x20 m=>
  bp (pur (bin .lss true true .int x20 (.int .i64 0)) m) fun x21 m=>
  bp (pur (un .not x21) m) fun x22 m=>
  Q5e G k0 x22 p0 p1 p2 p13 p4 p3 p10 p11 p12 m)
  (Q5e G k0 (.bool false) p0 p1 p2 p13 p4 p3 p10 p11 p12 m)
  (none)
def Q2x (G:Gt)(k0:V → V → V → V → V → V → V → M → R)(p75 p0 p1 p2 p4 p13 p3 p10 p11 p12:V)(m:M):R:=
  brb p75
  (bp (G.tab Qhv [p0,p1,p2,p4] m) fun x23 m=>
  brb x23
  (some (.tuple ⟨[]⟩,m))
  (Q5r G k0 p1 p4 p0 p13 p2 p3 p10 p11 p12 m))
  (Q5r G k0 p1 p4 p0 p13 p2 p3 p10 p11 p12 m)
def Q5s (G:Gt)(k0:V → V → V → V → V → V → V → M → R)(p10 p11 p14 p0 p1 p2 p4 p13 p3 p12:V)(m:M):R:=
  brb p10
  (brb p11
  (bp (pur (bin .eql true true .int p14 (.int .i64 1)) m) fun x24 m=>
  Q2x G k0 x24 p0 p1 p2 p4 p13 p3 p10 p11 p12 m)
  (Q2x G k0 (.bool false) p0 p1 p2 p4 p13 p3 p10 p11 p12 m))
  (Q2x G k0 (.bool false) p0 p1 p2 p4 p13 p3 p10 p11 p12 m)
def Qcn (G:Gt)(k0:V → V → V → V → V → V → V → M → R)(p14 p0 p1 p2 p4 p13 p10 p11 p3 p12:V)(m:M):R:=
  bp (pur (bin .eql true true .int p14 (.int .i64 2)) m) fun x25 m=>
  brb x25
  (bp (G.tab Qp7 [p0,p1,p2,p4] m) fun x26 m=>
  bp (pur (bin .sub true true .int p2 (.int .i64 1)) m) fun x27 m=>
  bp (pur (bin .sub false true .int p13 p1) m) fun x28 m=>
  bp (pur (bin .sub false true .int x27 x28) m) fun x29 m=>
  Q5s G k0 p10 p11 (.int .i64 1) p0 p1 p2 p4 x29 p3 p12 m)
  (Q5s G k0 p10 p11 p14 p0 p1 p2 p4 p13 p3 p12 m)
def Q5t (G:Gt)(k0:V → V → V → V → V → V → V → M → R)(p0 p1 p2 p4 p10 p11 p3 p12:V)(m:M):R:=
  bp (G.tab Qq9 [p0,p1,p2,p4] m) fun x30 m=>
  bp (pur (aExtract x30 0) m) fun x31 m=>
  bp (pur (aExtract x30 1) m) fun x32 m=>
  Qcn G k0 x32 p0 p1 p2 p4 x31 p10 p11 p3 p12 m
def Qco (G:Gt)(k0:V → V → V → V → V → V → V → M → R)(p10 p0 p1 p2 p4 p3 p11 p12:V)(m:M):R:=
  bp (pur (un .not p10) m) fun x33 m=>
  brb x33
  (bp (G.tab Qnn [p0,p1,p2,p4] m) fun x34 m=>
  bp (pur (bin .sub true true .int p3 (.int .i64 1)) m) fun x35 m=>
  Q5t G k0 p0 p1 p2 p4 p10 p11 x35 p12 m)
  (Q5t G k0 p0 p1 p2 p4 p10 p11 p3 p12 m)
def Qcp (G:Gt)(k0:V → V → V → V → V → V → V → M → R)(p3 p0 p1 p2 p4 p10 p11 p12:V)(m:M):R:=
  bp (pur (bin .eql true true .int p3 (.int .i64 0)) m) fun x36 m=>
  brb x36
  (bp (G.tab Qu6 [p0,p1,p2,p4] m) fun x37 m=>
  some (.tuple ⟨[]⟩,m))
  (Qco G k0 p10 p0 p1 p2 p4 p3 p11 p12 m)
def Qcq (G:Gt)(k0:V → V → V → V → V → V → V → M → R)(p12 p0 p1 p2 p4 p3 p10 p11:V)(m:M):R:=
  bp (pur (bin .leq true true .int p12 (.int .i64 12)) m) fun x38 m=>
  brb x38
  (bp (G.tab Qaw [p0,p1,p2,p4] m) fun x39 m=>
  some (.tuple ⟨[]⟩,m))
  (Qcp G k0 p3 p0 p1 p2 p4 p10 p11 p12 m)
def Q5 (G:Gt):Nat → V → V → V → V → V → V → V → M → R
 | 0,_,_,_,_,_,_,_,_=>none
 | i + 1,p2,p1,p0,p4,p3,p10,p11,m=>
  bp (pur (bin .sub false true .int p2 p1) m) fun x40 m=>
  Qcq G (Q5 G i) x40 p0 p1 p2 p4 p3 p10 p11 m
def Qcr (G:Gt)(p2 p1 p0 p4 p3 p10 p11:V)(m:M):R:=
  Q5 G G.rds p2 p1 p0 p4 p3 p10 p11 m
def Qcs (G:Gt)(p2 p1 p0 p4 p3 p10:V)(m:M):R:=
  Qcr G p2 p1 p0 p4 p3 p10 (.bool true) m
def Q72 (G:Gt)(p2 p1 p0 p4 p3:V)(m:M):R:=
  Qcs G p2 p1 p0 p4 p3 (.bool true) m
theorem Qv2 (G:Gt)(a0 a1 a2 a3 a4:V)(m:M):ef G Tryz.f313 [a0,a1,a2,a3,a4] m = Q72 G a2 a1 a0 a4 a3 m:=
  evFn_of (r:=fun r m=>Q72 G (r 2) (r 1) (r 0) (r 4) (r 3) m) rfl rfl (tr (seqQ (f:=fun r m=>Qcs G (r 2) (r 1) (r 0) (r 4) (r 3) (r 10) m) (tr (seqQ (f:=fun r m=>Qcr G (r 2) (r 1) (r 0) (r 4) (r 3) (r 10) (r 11) m) (tr (blockQ (loopQ (fun i r m=>Q5 G i (r 2) (r 1) (r 0) (r 4) (r 3) (r 10) (r 11) m) (fun _ _=>rfl) (fun i0=>tr (blockQ (seqQ (f:=fun r m=>Qcq G (Q5 G i0) (r 12) (r 0) (r 1) (r 2) (r 4) (r 3) (r 10) (r 11) m) (tr (seqQ (f:=fun r m=>Qcp G (Q5 G i0) (r 3) (r 0) (r 1) (r 2) (r 4) (r 10) (r 11) (r 12) m) (tr (seqQ (f:=fun r m=>Qco G (Q5 G i0) (r 10) (r 0) (r 1) (r 2) (r 4) (r 3) (r 11) (r 12) m) (tr (seqQ (f:=fun r m=>Q5t G (Q5 G i0) (r 0) (r 1) (r 2) (r 4) (r 10) (r 11) (r 3) (r 12) m) (tr (seqQ (f:=fun r m=>Qcn G (Q5 G i0) (r 14) (r 0) (r 1) (r 2) (r 4) (r 13) (r 10) (r 11) (r 3) (r 12) m) (tr (seqQ (f:=fun r m=>Q5s G (Q5 G i0) (r 10) (r 11) (r 14) (r 0) (r 1) (r 2) (r 4) (r 13) (r 3) (r 12) m) (tr (tr (seqQ (f:=fun r m=>Q5r G (Q5 G i0) (r 1) (r 4) (r 0) (r 13) (r 2) (r 3) (r 10) (r 11) (r 12) m) (tr (tr seqD (seqQ (f:=fun r m=>Q5e G (Q5 G i0) (r 97) (r 0) (r 1) (r 2) (r 13) (r 4) (r 3) (r 10) (r 11) (r 12) m) (fun r m=>by kernel_rfl))) (fun r m=>by kernel_rfl))) (seqQ (f:=fun r m=>Q2x G (Q5 G i0) (r 75) (r 0) (r 1) (r 2) (r 4) (r 13) (r 3) (r 10) (r 11) (r 12) m) (fun r m=>by kernel_rfl))) (fun r m=>by kernel_rfl))) (fun r m=>by kernel_rfl))) (fun r m=>by kernel_rfl))) (fun r m=>by kernel_rfl))) (fun r m=>by kernel_rfl))) (fun r m=>by kernel_rfl)))) (fun r m=>by kernel_rfl)))) (fun r m=>by kernel_rfl))) (fun r m=>by kernel_rfl))) (fun r m=>by kernel_rfl)) m
def Quy:En:=⟨Q3n,Tryz.f313,Tryz.func313,by kernel_rfl,arg5 (fun G a0 a1 a2 a3 a4 m=>Q72 G a2 a1 a0 a4 a3 m),okarg5 Qv2⟩
def Q6g (G:Gt)(p0 p1:V)(m:M):R:=
  bp (pur (lenK 1 p0 m) m) fun x0 m=>
  bp (conv (.int .u64) x0 m) fun x1 m=>
  bp (G.tab Qb3 [x1] m) fun x2 m=>
  bp (G.tab Q4w [p0,(.int .i64 0),x0,x2,p1] m) fun x3 m=>
  some (.tuple ⟨[]⟩,m)
theorem Qu7 (G:Gt)(a0 a1:V)(m:M):ef G Tryz.f316 [a0,a1] m = Q6g G a0 a1 m:=
  evFn_of (r:=fun r m=>Q6g G (r 0) (r 1) m) rfl rfl (fun r m=>by kernel_rfl) m
def Qtn:En:=⟨Qdz,Tryz.f316,Tryz.func316,by kernel_rfl,arg2 Q6g,okarg2 Qu7⟩
end
end Go.Ab.Sh
