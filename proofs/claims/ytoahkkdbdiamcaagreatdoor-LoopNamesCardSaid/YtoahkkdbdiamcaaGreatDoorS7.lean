/-
  Functions of the program as plain definitions. No conditions.
-/
import Derived.Test.YtoahkkdbdiamcaaGreatDoorAb5
import Derived.Test.YtoahkkdbdiamcaaGreatDoorZ
import Derived.KernelRfl
import Derived.Test.YtoahkkdbdiamcaaGreatDoorProg
set_option linter.unusedVariables false
set_option maxRecDepth 100000
namespace Go.Ab.Sh
open Go Go.Ab Go.Proofs
noncomputable section
def Q16r (G:Gt)(p8 p9 p6:V)(m:M):R:=
  bp (pur (aLoad true 4 p8 m) m) fun x0 m=>
  bp (unt (aStore 4 p6 x0 m)) fun _ m=>
  ob (ob (aLoad true 4 p6 m) fun v=>ob (some [p9]) fun l=>some (v :: l)) fun l=>some (resVal l,m)
def Qpz (G:Gt)(k0:V → V → V → V → V → V → V → M → R)(p19 p18 p17 p2 p9 p8 p6:V)(m:M):R:=
  bp (pur (bin .add true true .int p19 (.int .i64 1)) m) fun x1 m=>
  k0 x1 p18 p17 p2 p9 p8 p6 m
def Qg3 (G:Gt)(k0:V → V → V → V → V → V → V → M → R)(p39 p11 p8 p19 p18 p17 p2 p6 p9:V)(m:M):R:=
  brb p39
  (bp (pur (aLoad true 4 p11 m) m) fun x2 m=>
  bp (unt (aStore 4 p8 x2 m)) fun _ m=>
  Qpz G k0 p19 p18 p17 p2 (.bool true) p8 p6 m)
  (Qpz G k0 p19 p18 p17 p2 p9 p8 p6 m)
def Q16s (G:Gt)(k0:V → V → V → V → V → V → V → M → R)(p2 p11 p9 p8 p19 p18 p17 p6:V)(m:M):R:=
  bp (pur (aFieldAddr 0 p11) m) fun x3 m=>
  bp (pur (aLoad true 2 x3 m) m) fun x4 m=>
  bp (G.tab Q1zp [p2,x4] m) fun x5 m=>
  brb x5
  (bp (pur (un .not p9) m) fun x6 m=>
  brb x6
  (Qg3 G k0 (.bool true) p11 p8 p19 p18 p17 p2 p6 p9 m)
  (bp (pur (aFieldAddr 0 p11) m) fun x7 m=>
  bp (pur (aFieldAddr 1 x7) m) fun x8 m=>
  bp (pur (aLoad false 1 x8 m) m) fun x9 m=>
  bp (pur (aFieldAddr 0 p8) m) fun x10 m=>
  bp (pur (aFieldAddr 1 x10) m) fun x11 m=>
  bp (pur (aLoad false 1 x11 m) m) fun x12 m=>
  bp (pur (bin .gtr false true .int x9 x12) m) fun x13 m=>
  Qg3 G k0 x13 p11 p8 p19 p18 p17 p2 p6 p9 m))
  (Qg3 G k0 (.bool false) p11 p8 p19 p18 p17 p2 p6 p9 m)
def Q16t (G:Gt)(k0:V → V → V → V → V → V → V → M → R)(p17 p19 p2 p9 p8 p18 p6:V)(m:M):R:=
  bp (pur (aIndexAddrSl 4 p17 p19) m) fun x14 m=>
  bp (pur (aLoad true 4 x14 m) m) fun x15 m=>
  bp (some (aNew Q3f Qaf m)) fun x16 m=>
  bp (unt (aStore 4 x16 x15 m)) fun _ m=>
  Q16s G k0 p2 x16 p9 p8 p19 p18 p17 p6 m
def Q16u (G:Gt)(k0:V → V → V → V → V → V → V → M → R)(p20 p17 p19 p2 p9 p8 p18 p6:V)(m:M):R:=
  brb p20
  (Q16t G k0 p17 p19 p2 p9 p8 p18 p6 m)
  (Q16r G p8 p9 p6 m)
def Q3d (G:Gt):Nat → V → V → V → V → V → V → V → M → R
 | 0,_,_,_,_,_,_,_,_=>none
 | i + 1,p19,p18,p17,p2,p9,p8,p6,m=>
  bp (pur (bin .lss false true .int p19 p18) m) fun x17 m=>
  Q16u G (Q3d G i) x17 p17 p19 p2 p9 p8 p18 p6 m
def Q16v (G:Gt)(p19 p18 p17 p2 p9 p8 p6:V)(m:M):R:=
  Q3d G G.rds p19 p18 p17 p2 p9 p8 p6 m
def Q16w (G:Gt)(p0 p4 p2 p9 p8 p6:V)(m:M):R:=
  bp (pur (aNilCheck p0) m) fun x18 m=>
  bp (pur (aFieldAddr 2 x18) m) fun x19 m=>
  bp (pur (aLoad false 1 x19 m) m) fun x20 m=>
  bp (pur (aLoad true 2 p4 m) m) fun x21 m=>
  bp (pur (aLookup (.struct [(0,1,false,.int),(1,1,false,.str)]) (.slice none 0 0) false x20 x21 m) m) fun x22 m=>
  bp (pur (lenK 1 x22 m) m) fun x23 m=>
  Q16v G (.int .i64 0) x23 x22 p2 p9 p8 p6 m
def Q16x (G:Gt)(p0 p4 p2 p8 p6:V)(m:M):R:=
  Q16w G p0 p4 p2 (.bool false) p8 p6 m
def Q16y (G:Gt)(p0 p4 p2 p6:V)(m:M):R:=
  bp (some (aNew Q3f Qaf m)) fun x24 m=>
  Q16x G p0 p4 p2 x24 p6 m
def Qv8 (G:Gt)(p1 p0 p2:V)(m:M):R:=
  bp (some (aNew Q1xm (Value.cells p1).toList m)) fun x25 m=>
  bp (some (aNew Q3f Qaf m)) fun x26 m=>
  Q16y G p0 x25 p2 x26 m
theorem Q1qu (G:Gt)(a0 a1 a2:V)(m:M):ef G Tryz.f92 [a0,a1,a2] m = Qv8 G a1 a0 a2 m:=
  evFn_of (r:=fun r m=>Qv8 G (r 1) (r 0) (r 2) m) rfl rfl (tr (seqQ (f:=fun r m=>Q16y G (r 0) (r 4) (r 2) (r 6) m) (tr (seqQ (f:=fun r m=>Q16x G (r 0) (r 4) (r 2) (r 8) (r 6) m) (tr (seqQ (f:=fun r m=>Q16w G (r 0) (r 4) (r 2) (r 9) (r 8) (r 6) m) (tr (tr (seqQ (f:=fun r m=>Q16r G (r 8) (r 9) (r 6) m) (fun r m=>by kernel_rfl)) (seqQ (f:=fun r m=>Q16v G (r 19) (r 18) (r 17) (r 2) (r 9) (r 8) (r 6) m) (tr (blockQ (loopQ (fun i r m=>Q3d G i (r 19) (r 18) (r 17) (r 2) (r 9) (r 8) (r 6) m) (fun _ _=>rfl) (fun i0=>tr (seqQ (f:=fun r m=>Q16u G (Q3d G i0) (r 20) (r 17) (r 19) (r 2) (r 9) (r 8) (r 18) (r 6) m) (tr (seqQ (f:=fun r m=>Q16t G (Q3d G i0) (r 17) (r 19) (r 2) (r 9) (r 8) (r 18) (r 6) m) (tr (tr (seqQ (f:=fun r m=>Qpz G (Q3d G i0) (r 19) (r 18) (r 17) (r 2) (r 9) (r 8) (r 6) m) (fun r m=>by kernel_rfl)) (blockQ (seqQ (f:=fun r m=>Q16s G (Q3d G i0) (r 2) (r 11) (r 9) (r 8) (r 19) (r 18) (r 17) (r 6) m) (tr (seqQ (f:=fun r m=>Qg3 G (Q3d G i0) (r 39) (r 11) (r 8) (r 19) (r 18) (r 17) (r 2) (r 6) (r 9) m) (fun r m=>by kernel_rfl)) (fun r m=>by kernel_rfl))))) (fun r m=>by kernel_rfl))) (fun r m=>by kernel_rfl))) (fun r m=>by kernel_rfl)))) (fun r m=>by kernel_rfl)))) (fun r m=>by kernel_rfl))) (fun r m=>by kernel_rfl))) (fun r m=>by kernel_rfl))) (fun r m=>by kernel_rfl)) m
def Q1qg:En:=⟨Q1b0,Tryz.f92,Tryz.func92,by kernel_rfl,arg3 (fun G a0 a1 a2 m=>Qv8 G a1 a0 a2 m),okarg3 Q1qu⟩
def Q1fk (G:Gt)(p8 p6 p9 p10:V)(m:M):R:=
  bp (pur (aFieldAddr 1 p8) m) fun x0 m=>
  bp (pur (aLoad false 1 x0 m) m) fun x1 m=>
  bp (pur (bin .eql true true .int x1 (.int .u32 0)) m) fun x2 m=>
  brb x2
  (bp (pur (aLoad true 2 p6 m) m) fun x3 m=>
  bp (pur (aLoad true 5 p9 m) m) fun x4 m=>
  bp (pur (aBuild Q4x [(0,1),(1,2),(3,5)] [(0,(.int .u8 6)),(1,x3),(2,x4)]) m) fun x5 m=>
  bp (unt (aStore 8 p10 x5 m)) fun _ m=>
  ob (ob (aLoad true 8 p10 m) fun v=>ob (some []) fun l=>some (v :: l)) fun l=>some (resVal l,m))
  (bp (pur (aLoad true 2 p6 m) m) fun x6 m=>
  bp (pur (aLoad true 5 p9 m) m) fun x7 m=>
  bp (pur (aBuild Q4x [(0,1),(1,2),(3,5)] [(0,(.int .u8 7)),(1,x6),(2,x7)]) m) fun x8 m=>
  bp (unt (aStore 8 p10 x8 m)) fun _ m=>
  ob (ob (aLoad true 8 p10 m) fun v=>ob (some []) fun l=>some (v :: l)) fun l=>some (resVal l,m))
def Qyg (G:Gt):Nat → V → V → V → V → V → V → V → V → V → M → R
 | 0,_,_,_,_,_,_,_,_,_,_=>none
 | i + 1,p96,p95,p94,p0,p14,p9,p10,p8,p6,m=>
  bp (pur (bin .lss false true .int p96 p95) m) fun x9 m=>
  brb x9
  (bp (pur (aIndexAddrSl 2 p94 p96) m) fun x10 m=>
  bp (pur (aLoad true 2 x10 m) m) fun x11 m=>
  bp (some (aNew Q7 Qo m)) fun x12 m=>
  bp (unt (aStore 2 x12 x11 m)) fun _ m=>
  bp (pur (aNilCheck p0) m) fun x13 m=>
  bp (pur (aFieldAddr 1 x13) m) fun x14 m=>
  bp (pur (aLoad false 1 x14 m) m) fun x15 m=>
  bp (pur (aFieldAddr 0 x12) m) fun x16 m=>
  bp (pur (aLoad false 1 x16 m) m) fun x17 m=>
  bp (pur (aIndexAddrSl 12 x15 x17) m) fun x18 m=>
  bp (pur (aFieldAddr 3 x18) m) fun x19 m=>
  bp (pur (aLoad false 1 x19 m) m) fun x20 m=>
  bp (pur (aFieldAddr 1 x12) m) fun x21 m=>
  bp (pur (aLoad false 1 x21 m) m) fun x22 m=>
  bp (pur (aIndexAddrSl 11 x20 x22) m) fun x23 m=>
  bp (pur (aFieldAddr 2 x23) m) fun x24 m=>
  bp (pur (aLoad false 1 x24 m) m) fun x25 m=>
  bp (pur (bin .eql false true .int x25 p14) m) fun x26 m=>
  brb x26
  (bp (pur (aLoad true 2 x12 m) m) fun x27 m=>
  bp (pur (aLoad true 5 p9 m) m) fun x28 m=>
  bp (pur (aBuild Q4x [(0,1),(1,2),(3,5)] [(0,(.int .u8 0)),(1,x27),(2,x28)]) m) fun x29 m=>
  bp (unt (aStore 8 p10 x29 m)) fun _ m=>
  ob (ob (aLoad true 8 p10 m) fun v=>ob (some []) fun l=>some (v :: l)) fun l=>some (resVal l,m))
  (bp (pur (bin .add true true .int p96 (.int .i64 1)) m) fun x30 m=>
  (Qyg G i) x30 p95 p94 p0 p14 p9 p10 p8 p6 m))
  (Q1fk G p8 p6 p9 p10 m)
def Q1dg (G:Gt)(p96 p95 p94 p0 p14 p9 p10 p8 p6:V)(m:M):R:=
  Qyg G G.rds p96 p95 p94 p0 p14 p9 p10 p8 p6 m
def Q1fl (G:Gt)(p15 p0 p14 p9 p10 p8 p6:V)(m:M):R:=
  bp (pur (lenK 1 p15 m) m) fun x31 m=>
  Q1dg G (.int .i64 0) x31 p15 p0 p14 p9 p10 p8 p6 m
def Q1fm (G:Gt)(p0 p6 p12 p14 p9 p10 p8:V)(m:M):R:=
  bp (pur (aNilCheck p0) m) fun x32 m=>
  bp (pur (aFieldAddr 0 x32) m) fun x33 m=>
  bp (pur (aLoad false 1 x33 m) m) fun x34 m=>
  bp (pur (aFieldAddr 0 p6) m) fun x35 m=>
  bp (pur (aLoad false 1 x35 m) m) fun x36 m=>
  bp (pur (aBuild Qo [(0,1),(1,1)] [(0,x36),(1,p12)]) m) fun x37 m=>
  bp (G.tab Qv3 [x34,x37] m) fun x38 m=>
  bp (pur (aExtract x38 0) m) fun x39 m=>
  bp (pur (aExtract x38 1) m) fun x40 m=>
  Q1fl G x39 p0 p14 p9 p10 p8 p6 m
def Q1fn (G:Gt)(p8 p9 p0 p6 p12 p10:V)(m:M):R:=
  bp (pur (aFieldAddr 1 p8) m) fun x41 m=>
  bp (pur (aLoad false 1 x41 m) m) fun x42 m=>
  bp (pur (aFieldAddr 1 p9) m) fun x43 m=>
  bp (pur (aLoad false 1 x43 m) m) fun x44 m=>
  bp (aBuildSlice Q25a [(.int .u32 0)] 1 2 [(0,x42),(1,x44)] m) fun x45 m=>
  bp (G.tab Q1dh [x45] m) fun x46 m=>
  Q1fm G p0 p6 p12 x46 p9 p10 p8 m
def Q11p (G:Gt)(p11 p13 p9 p6 p10 p8 p0 p12:V)(m:M):R:=
  bp (pur (aLoad true 12 p11 m) m) fun x47 m=>
  bp (pur (aFieldAddr 6 p13) m) fun x48 m=>
  bp (pur (aLoad false 1 x48 m) m) fun x49 m=>
  bp (pur (aLoad true 5 p9 m) m) fun x50 m=>
  bp (G.tab Q1c1 [x47,x49,x50] m) fun x51 m=>
  bp (pur (un .not x51) m) fun x52 m=>
  brb x52
  (bp (pur (aLoad true 2 p6 m) m) fun x53 m=>
  bp (pur (aLoad true 5 p9 m) m) fun x54 m=>
  bp (pur (aBuild Q4x [(0,1),(1,2),(3,5)] [(0,(.int .u8 3)),(1,x53),(2,x54)]) m) fun x55 m=>
  bp (unt (aStore 8 p10 x55 m)) fun _ m=>
  ob (ob (aLoad true 8 p10 m) fun v=>ob (some []) fun l=>some (v :: l)) fun l=>some (resVal l,m))
  (Q1fn G p8 p9 p0 p6 p12 p10 m)
def Qyh (G:Gt)(p57 p11 p9 p13 p6 p10 p8 p0 p12:V)(m:M):R:=
  brb p57
  (bp (pur (aFieldAddr 5 p11) m) fun x56 m=>
  bp (pur (aLoad false 1 x56 m) m) fun x57 m=>
  bp (pur (aFieldAddr 4 p11) m) fun x58 m=>
  bp (pur (aLoad false 1 x58 m) m) fun x59 m=>
  bp (pur (aLoad true 5 p9 m) m) fun x60 m=>
  bp (G.tab Q1k4 [x57,x59,(.bool false),x60] m) fun x61 m=>
  bp (pur (aExtract x61 0) m) fun x62 m=>
  bp (pur (aExtract x61 1) m) fun x63 m=>
  bp (unt (aStore 5 p9 x62 m)) fun _ m=>
  Q11p G p11 p13 p9 p6 p10 p8 p0 p12 m)
  (Q11p G p11 p13 p9 p6 p10 p8 p0 p12 m)
def Q1fo (G:Gt)(p7 p13 p11 p9 p6 p10 p8 p0 p12:V)(m:M):R:=
  bp (pur (aFieldAddr 7 p7) m) fun x64 m=>
  bp (pur (aLoad false 1 x64 m) m) fun x65 m=>
  bp (pur (bin .eql true true .int x65 (.int .u8 1)) m) fun x66 m=>
  brb x66
  (bp (pur (aFieldAddr 7 p13) m) fun x67 m=>
  bp (pur (aLoad false 1 x67 m) m) fun x68 m=>
  bp (pur (bin .eql true true .int x68 (.int .u8 2)) m) fun x69 m=>
  Qyh G x69 p11 p9 p13 p6 p10 p8 p0 p12 m)
  (Qyh G (.bool false) p11 p9 p13 p6 p10 p8 p0 p12 m)
def Q1fp (G:Gt)(p11 p12 p7 p9 p6 p10 p8 p0:V)(m:M):R:=
  bp (pur (aFieldAddr 3 p11) m) fun x70 m=>
  bp (pur (aLoad false 1 x70 m) m) fun x71 m=>
  bp (pur (aIndexAddrSl 11 x71 p12) m) fun x72 m=>
  bp (pur (aLoad true 11 x72 m) m) fun x73 m=>
  bp (some (aNew Q1d Q47 m)) fun x74 m=>
  bp (unt (aStore 11 x74 x73 m)) fun _ m=>
  Q1fo G p7 x74 p11 p9 p6 p10 p8 p0 p12 m
def Qyi (G:Gt)(p41 p6 p9 p10 p11 p12 p7 p8 p0:V)(m:M):R:=
  brb p41
  (bp (pur (aLoad true 2 p6 m) m) fun x75 m=>
  bp (pur (aLoad true 5 p9 m) m) fun x76 m=>
  bp (pur (aBuild Q4x [(0,1),(1,2),(3,5)] [(0,(.int .u8 7)),(1,x75),(2,x76)]) m) fun x77 m=>
  bp (unt (aStore 8 p10 x77 m)) fun _ m=>
  ob (ob (aLoad true 8 p10 m) fun v=>ob (some []) fun l=>some (v :: l)) fun l=>some (resVal l,m))
  (Q1fp G p11 p12 p7 p9 p6 p10 p8 p0 m)
def Q1fq (G:Gt)(p12 p11 p6 p9 p10 p7 p8 p0:V)(m:M):R:=
  bp (pur (bin .lss true true .int p12 (.int .i64 0)) m) fun x78 m=>
  brb x78
  (Qyi G (.bool true) p6 p9 p10 p11 p12 p7 p8 p0 m)
  (bp (pur (aFieldAddr 3 p11) m) fun x79 m=>
  bp (pur (aLoad false 1 x79 m) m) fun x80 m=>
  bp (pur (aIndexAddrSl 11 x80 p12) m) fun x81 m=>
  bp (pur (aLoad true 11 x81 m) m) fun x82 m=>
  bp (G.tab Ql6 [x82] m) fun x83 m=>
  bp (pur (un .not x83) m) fun x84 m=>
  Qyi G x84 p6 p9 p10 p11 p12 p7 p8 p0 m)
def Q1fr (G:Gt)(p11 p8 p6 p9 p10 p7 p0:V)(m:M):R:=
  bp (pur (aFieldAddr 3 p11) m) fun x85 m=>
  bp (pur (aLoad false 1 x85 m) m) fun x86 m=>
  bp (G.tab Q2q [x86,(.func (.func Q1fs) ⟨[]⟩ ⟨[p8]⟩)] m) fun x87 m=>
  Q1fq G x87 p11 p6 p9 p10 p7 p8 p0 m
def Q1ft (G:Gt)(p0 p6 p8 p9 p10 p7:V)(m:M):R:=
  bp (pur (aNilCheck p0) m) fun x88 m=>
  bp (pur (aFieldAddr 1 x88) m) fun x89 m=>
  bp (pur (aLoad false 1 x89 m) m) fun x90 m=>
  bp (pur (aFieldAddr 0 p6) m) fun x91 m=>
  bp (pur (aLoad false 1 x91 m) m) fun x92 m=>
  bp (pur (aIndexAddrSl 12 x90 x92) m) fun x93 m=>
  bp (pur (aLoad true 12 x93 m) m) fun x94 m=>
  bp (some (aNew Qx Q1e m)) fun x95 m=>
  bp (unt (aStore 12 x95 x94 m)) fun _ m=>
  Q1fr G x95 p8 p6 p9 p10 p7 p0 m
def Q18u (G:Gt)(p1 p2 p3 p4 p0:V)(m:M):R:=
  bp (some (aNew Q7 (Value.cells p1).toList m)) fun x96 m=>
  bp (some (aNew Q1d (Value.cells p2).toList m)) fun x97 m=>
  bp (some (aNew Qeh (Value.cells p3).toList m)) fun x98 m=>
  bp (some (aNew Q18d (Value.cells p4).toList m)) fun x99 m=>
  bp (some (aNew Qpl Q4x m)) fun x100 m=>
  Q1ft G p0 x96 x98 x99 x100 x97 m
theorem Q1xq (G:Gt)(a0 a1 a2 a3 a4:V)(m:M):ef G Tryz.f93 [a0,a1,a2,a3,a4] m = Q18u G a1 a2 a3 a4 a0 m:=
  evFn_of (r:=fun r m=>Q18u G (r 1) (r 2) (r 3) (r 4) (r 0) m) rfl rfl (tr (seqQ (f:=fun r m=>Q1ft G (r 0) (r 6) (r 8) (r 9) (r 10) (r 7) m) (tr (seqQ (f:=fun r m=>Q1fr G (r 11) (r 8) (r 6) (r 9) (r 10) (r 7) (r 0) m) (tr (seqQ (f:=fun r m=>Q1fq G (r 12) (r 11) (r 6) (r 9) (r 10) (r 7) (r 8) (r 0) m) (tr (tr (seqQ (f:=fun r m=>Q1fp G (r 11) (r 12) (r 7) (r 9) (r 6) (r 10) (r 8) (r 0) m) (tr (seqQ (f:=fun r m=>Q1fo G (r 7) (r 13) (r 11) (r 9) (r 6) (r 10) (r 8) (r 0) (r 12) m) (tr (tr (seqQ (f:=fun r m=>Q11p G (r 11) (r 13) (r 9) (r 6) (r 10) (r 8) (r 0) (r 12) m) (tr (seqQ (f:=fun r m=>Q1fn G (r 8) (r 9) (r 0) (r 6) (r 12) (r 10) m) (tr (seqQ (f:=fun r m=>Q1fm G (r 0) (r 6) (r 12) (r 14) (r 9) (r 10) (r 8) m) (tr (seqQ (f:=fun r m=>Q1fl G (r 15) (r 0) (r 14) (r 9) (r 10) (r 8) (r 6) m) (tr (tr (seqQ (f:=fun r m=>Q1fk G (r 8) (r 6) (r 9) (r 10) m) (fun r m=>by kernel_rfl)) (seqQ (f:=fun r m=>Q1dg G (r 96) (r 95) (r 94) (r 0) (r 14) (r 9) (r 10) (r 8) (r 6) m) (tr (blockQ (loopQ (fun i r m=>Qyg G i (r 96) (r 95) (r 94) (r 0) (r 14) (r 9) (r 10) (r 8) (r 6) m) (fun _ _=>rfl) (fun i0=>fun r m=>by kernel_rfl))) (fun r m=>by kernel_rfl)))) (fun r m=>by kernel_rfl))) (fun r m=>by kernel_rfl))) (fun r m=>by kernel_rfl))) (fun r m=>by kernel_rfl))) (seqQ (f:=fun r m=>Qyh G (r 57) (r 11) (r 9) (r 13) (r 6) (r 10) (r 8) (r 0) (r 12) m) (fun r m=>by kernel_rfl))) (fun r m=>by kernel_rfl))) (fun r m=>by kernel_rfl))) (seqQ (f:=fun r m=>Qyi G (r 41) (r 6) (r 9) (r 10) (r 11) (r 12) (r 7) (r 8) (r 0) m) (fun r m=>by kernel_rfl))) (fun r m=>by kernel_rfl))) (fun r m=>by kernel_rfl))) (fun r m=>by kernel_rfl))) (fun r m=>by kernel_rfl)) m
def Q1xd:En:=⟨Q1k5,Tryz.f93,Tryz.func93,by kernel_rfl,arg5 (fun G a0 a1 a2 a3 a4 m=>Q18u G a1 a2 a3 a4 a0 m),okarg5 Q1xq⟩
def Q3l (G:Gt)(p0 p1:V)(m:M):R:=
  bp (pur (lenK 1 p0 m) m) fun x0 m=>
  bp (conv (.int .u64) x0 m) fun x1 m=>
  bp (G.tab Q6u [x1] m) fun x2 m=>
  bp (G.tab Q3i [p0,(.int .i64 0),x0,x2,p1] m) fun x3 m=>
  some (.tuple ⟨[]⟩,m)
theorem Qmq (G:Gt)(a0 a1:V)(m:M):ef G Tryz.f94 [a0,a1] m = Q3l G a0 a1 m:=
  evFn_of (r:=fun r m=>Q3l G (r 0) (r 1) m) rfl rfl (fun r m=>by kernel_rfl) m
def Qmk:En:=⟨Q92,Tryz.f94,Tryz.func94,by kernel_rfl,arg2 Q3l,okarg2 Qmq⟩
def Q8h (G:Gt)(p0:V)(m:M):R:=
  some (p0,m)
def Q8i (G:Gt)(p0 p3:V)(m:M):R:=
  bp (pur (aSliceSl 8 p0 (some p3) none) m) fun x0 m=>
  bp (unt (aClear Q4x 8 x0 m)) fun _ m=>
  bp (pur (aSliceSl 8 p0 none (some p3)) m) fun x1 m=>
  some (x1,m)
def Q35 (G:Gt)(k1:V → V → V → V → M → R)(p5 p4 p0 p3:V)(m:M):R:=
  bp (pur (bin .add true true .int p5 (.int .i64 1)) m) fun x2 m=>
  k1 x2 p4 p0 p3 m
def Q86 (G:Gt)(k1:V → V → V → V → M → R)(p4 p5 p0 p3:V)(m:M):R:=
  bp (pur (aIndexAddrSl 8 p4 p5) m) fun x3 m=>
  bp (pur (aLoad true 8 x3 m) m) fun x4 m=>
  bp (pur (bin .sub true true .int p5 (.int .i64 1)) m) fun x5 m=>
  bp (pur (aIndexAddrSl 8 p4 x5) m) fun x6 m=>
  bp (pur (aLoad true 8 x6 m) m) fun x7 m=>
  bp (pur (bin .neq false true (.struct [(0,1,false,.int),(1,2,true,(.struct [(0,1,false,.int),(1,1,false,.int)])),(3,5,true,(.struct [(0,1,false,.int),(1,1,false,.int),(2,1,false,.int),(3,1,false,.int),(4,1,false,.int)]))]) x4 x7) m) fun x8 m=>
  brb x8
  (bp (pur (aIndexAddrSl 8 p4 p5) m) fun x9 m=>
  bp (pur (aLoad true 8 x9 m) m) fun x10 m=>
  bp (pur (aIndexAddrSl 8 p0 p3) m) fun x11 m=>
  bp (unt (aStore 8 x11 x10 m)) fun _ m=>
  bp (pur (bin .add true true .int p3 (.int .i64 1)) m) fun x12 m=>
  Q35 G k1 p5 p4 p0 x12 m)
  (Q35 G k1 p5 p4 p0 p3 m)
def Q1f (G:Gt):Nat → V → V → V → V → M → R
 | 0,_,_,_,_,_=>none
 | i + 1,p5,p4,p0,p3,m=>
  bp (pur (lenK 1 p4 m) m) fun x13 m=>
  bp (pur (bin .lss false true .int p5 x13) m) fun x14 m=>
  brb x14
  (Q86 G (Q1f G i) p4 p5 p0 p3 m)
  (Q8i G p0 p3 m)
def Q8j (G:Gt)(p5 p4 p0 p3:V)(m:M):R:=
  Q1f G G.rds p5 p4 p0 p3 m
def Q8k (G:Gt)(p4 p0 p3:V)(m:M):R:=
  Q8j G (.int .i64 1) p4 p0 p3 m
def Q8l (G:Gt)(k0:V → V → M → R)(p25 p0 p3:V)(m:M):R:=
  brb p25
  (bp (pur (aSliceSl 8 p0 (some p3) none) m) fun x15 m=>
  Q8k G x15 p0 p3 m)
  (bp (pur (bin .add true true .int p3 (.int .i64 1)) m) fun x16 m=>
  k0 x16 p0 m)
def Q8m (G:Gt)(k0:V → V → M → R)(p0 p3:V)(m:M):R:=
  bp (pur (aIndexAddrSl 8 p0 p3) m) fun x17 m=>
  bp (pur (aLoad true 8 x17 m) m) fun x18 m=>
  bp (pur (bin .sub true true .int p3 (.int .i64 1)) m) fun x19 m=>
  bp (pur (aIndexAddrSl 8 p0 x19) m) fun x20 m=>
  bp (pur (aLoad true 8 x20 m) m) fun x21 m=>
  bp (pur (bin .eql false true (.struct [(0,1,false,.int),(1,2,true,(.struct [(0,1,false,.int),(1,1,false,.int)])),(3,5,true,(.struct [(0,1,false,.int),(1,1,false,.int),(2,1,false,.int),(3,1,false,.int),(4,1,false,.int)]))]) x18 x21) m) fun x22 m=>
  Q8l G k0 x22 p0 p3 m
def Q1i (G:Gt):Nat → V → V → M → R
 | 0,_,_,_=>none
 | i + 1,p3,p0,m=>
  bp (pur (lenK 1 p0 m) m) fun x23 m=>
  bp (pur (bin .lss false true .int p3 x23) m) fun x24 m=>
  brb x24
  (Q8m G (Q1i G i) p0 p3 m)
  (Q8h G p0 m)
def Q8n (G:Gt)(p3 p0:V)(m:M):R:=
  Q1i G G.rds p3 p0 m
def Q8o (G:Gt)(p0:V)(m:M):R:=
  Q8n G (.int .i64 1) p0 m
def Q8p (G:Gt)(p0:V)(m:M):R:=
  bp (pur (lenK 1 p0 m) m) fun x25 m=>
  bp (pur (bin .lss true true .int x25 (.int .i64 2)) m) fun x26 m=>
  brb x26
  (some (p0,m))
  (Q8o G p0 m)
def Q3v (G:Gt)(p0:V)(m:M):R:=
  Q8p G p0 m
theorem Qnn (G:Gt)(a0:V)(m:M):ef G Tryz.f96 [a0] m = Q3v G a0 m:=
  evFn_of (r:=fun r m=>Q3v G (r 0) m) rfl rfl (tr (seqQ (f:=fun r m=>Q8p G (r 0) m) (tr (seqQ (f:=fun r m=>Q8o G (r 0) m) (tr (tr (seqQ (f:=fun r m=>Q8h G (r 0) m) (fun r m=>by kernel_rfl)) (seqQ (f:=fun r m=>Q8n G (r 3) (r 0) m) (tr (blockQ (loopQ (fun i r m=>Q1i G i (r 3) (r 0) m) (fun _ _=>rfl) (fun i0=>tr (seqQ (f:=fun r m=>Q8m G (Q1i G i0) (r 0) (r 3) m) (tr (tr seqD (blockQ (seqQ (f:=fun r m=>Q8l G (Q1i G i0) (r 25) (r 0) (r 3) m) (tr (condQ (seqQ (f:=fun r m=>Q8k G (r 4) (r 0) (r 3) m) (tr (tr (seqQ (f:=fun r m=>Q8i G (r 0) (r 3) m) (fun r m=>by kernel_rfl)) (seqQ (f:=fun r m=>Q8j G (r 5) (r 4) (r 0) (r 3) m) (tr (blockQ (loopQ (fun i r m=>Q1f G i (r 5) (r 4) (r 0) (r 3) m) (fun _ _=>rfl) (fun i1=>tr (seqQ (f:=fun r m=>Q86 G (Q1f G i1) (r 4) (r 5) (r 0) (r 3) m) (tr (seqQ (f:=fun r m=>Q35 G (Q1f G i1) (r 5) (r 4) (r 0) (r 3) m) (fun r m=>by kernel_rfl)) (fun r m=>by kernel_rfl))) (fun r m=>by kernel_rfl)))) (fun r m=>by kernel_rfl)))) (fun r m=>by kernel_rfl))) (refQ)) (fun r m=>by kernel_rfl))))) (fun r m=>by kernel_rfl))) (fun r m=>by kernel_rfl)))) (fun r m=>by kernel_rfl)))) (fun r m=>by kernel_rfl))) (fun r m=>by kernel_rfl))) (fun r m=>by kernel_rfl)) m
def Qne:En:=⟨Q9l,Tryz.f96,Tryz.func96,by kernel_rfl,arg1 Q3v,okarg1 Qnn⟩
end
end Go.Ab.Sh

set_option linter.unusedVariables false
set_option maxRecDepth 100000
namespace Go.Ab.Sh
open Go Go.Ab Go.Proofs
noncomputable section
def Q12x (G:Gt)(p2:V)(m:M):R:=
  bp (pur (aBuild Q87 [(0,1),(1,1)] []) m) fun x0 m=>
  bp (unt (aStore 2 p2 x0 m)) fun _ m=>
  ob (ob (aLoad true 2 p2 m) fun v=>ob (some [(.int .i64 0)]) fun l=>some (v :: l)) fun l=>some (resVal l,m)
def Qoc (G:Gt)(k0:V → V → V → V → M → R)(p5 p0 p4 p2:V)(m:M):R:=
  bp (pur (bin .add true true .int p5 (.int .i64 1)) m) fun x1 m=>
  k0 x1 p0 p4 p2 m
def Qmr (G:Gt)(k0:V → V → V → V → M → R)(p36 p0 p5 p2 p4:V)(m:M):R:=
  brb p36
  (bp (G.tab Q1fu [p0,p5] m) fun x3 m=>
  bp (unt (aStore 2 p2 x3 m)) fun _ m=>
  ob (ob (aLoad true 2 p2 m) fun v=>ob (some [(.int .i64 70)]) fun l=>some (v :: l)) fun l=>some (resVal l,m))
  (Qoc G k0 p5 p0 p4 p2 m)
def Q12y (G:Gt)(k0:V → V → V → V → M → R)(p24 p4 p5 p0 p2:V)(m:M):R:=
  brb p24
  (bp (pur (bin .add true true .int p4 (.int .i64 1)) m) fun x2 m=>
  Qoc G k0 p5 p0 x2 p2 m)
  (bp (pur (aIndexStr p0 p5) m) fun x4 m=>
  bp (pur (bin .lss true true .int x4 (.int .u8 32)) m) fun x5 m=>
  brb x5
  (Qmr G k0 (.bool true) p0 p5 p2 p4 m)
  (bp (pur (aIndexStr p0 p5) m) fun x6 m=>
  bp (pur (bin .gtr true true .int x6 (.int .u8 126)) m) fun x7 m=>
  Qmr G k0 x7 p0 p5 p2 p4 m))
def Q12z (G:Gt)(k0:V → V → V → V → M → R)(p0 p5 p4 p2:V)(m:M):R:=
  bp (pur (aIndexStr p0 p5) m) fun x8 m=>
  bp (pur (bin .eql true true .int x8 (.int .u8 10)) m) fun x9 m=>
  Q12y G k0 x9 p4 p5 p0 p2 m
def Q130 (G:Gt)(k0:V → V → V → V → M → R)(p4 p0 p5 p2:V)(m:M):R:=
  bp (pur (bin .gtr true true .int p4 (.int .i64 4096)) m) fun x10 m=>
  brb x10
  (bp (G.tab Q1fu [p0,p5] m) fun x11 m=>
  bp (unt (aStore 2 p2 x11 m)) fun _ m=>
  ob (ob (aLoad true 2 p2 m) fun v=>ob (some [(.int .i64 3)]) fun l=>some (v :: l)) fun l=>some (resVal l,m))
  (Q12z G k0 p0 p5 p4 p2 m)
def Q31 (G:Gt):Nat → V → V → V → V → M → R
 | 0,_,_,_,_,_=>none
 | i + 1,p5,p0,p4,p2,m=>
  bp (pur (lenK 0 p0 m) m) fun x12 m=>
  bp (pur (bin .lss false true .int p5 x12) m) fun x13 m=>
  brb x13
  (Q130 G (Q31 G i) p4 p0 p5 p2 m)
  (Q12x G p2 m)
def Q131 (G:Gt)(p5 p0 p4 p2:V)(m:M):R:=
  Q31 G G.rds p5 p0 p4 p2 m
def Q132 (G:Gt)(p0 p4 p2:V)(m:M):R:=
  Q131 G (.int .i64 0) p0 p4 p2 m
def Q133 (G:Gt)(p0 p2:V)(m:M):R:=
  Q132 G p0 (.int .i64 1) p2 m
def Q134 (G:Gt)(p0 p2:V)(m:M):R:=
  bp (pur (lenK 0 p0 m) m) fun x14 m=>
  bp (pur (bin .gtr true true .int x14 (.int .i64 65536)) m) fun x15 m=>
  brb x15
  (bp (pur (aBuild Q87 [(0,1),(1,1)] []) m) fun x16 m=>
  bp (unt (aStore 2 p2 x16 m)) fun _ m=>
  ob (ob (aLoad true 2 p2 m) fun v=>ob (some [(.int .i64 3)]) fun l=>some (v :: l)) fun l=>some (resVal l,m))
  (Q133 G p0 p2 m)
def Qso (G:Gt)(p0:V)(m:M):R:=
  bp (some (aNew Qrn Q87 m)) fun x17 m=>
  Q134 G p0 x17 m
theorem Q1nr (G:Gt)(a0:V)(m:M):ef G Tryz.f97 [a0] m = Qso G a0 m:=
  evFn_of (r:=fun r m=>Qso G (r 0) m) rfl rfl (tr (seqQ (f:=fun r m=>Q134 G (r 0) (r 2) m) (tr (seqQ (f:=fun r m=>Q133 G (r 0) (r 2) m) (tr (seqQ (f:=fun r m=>Q132 G (r 0) (r 4) (r 2) m) (tr (tr (seqQ (f:=fun r m=>Q12x G (r 2) m) (fun r m=>by kernel_rfl)) (seqQ (f:=fun r m=>Q131 G (r 5) (r 0) (r 4) (r 2) m) (tr (blockQ (loopQ (fun i r m=>Q31 G i (r 5) (r 0) (r 4) (r 2) m) (fun _ _=>rfl) (fun i0=>tr (seqQ (f:=fun r m=>Q130 G (Q31 G i0) (r 4) (r 0) (r 5) (r 2) m) (tr (tr (seqQ (f:=fun r m=>Qoc G (Q31 G i0) (r 5) (r 0) (r 4) (r 2) m) (fun r m=>by kernel_rfl)) (blockQ (seqQ (f:=fun r m=>Q12z G (Q31 G i0) (r 0) (r 5) (r 4) (r 2) m) (tr (seqQ (f:=fun r m=>Q12y G (Q31 G i0) (r 24) (r 4) (r 5) (r 0) (r 2) m) (tr (condQ (refQ) (seqQ (f:=fun r m=>Qmr G (Q31 G i0) (r 36) (r 0) (r 5) (r 2) (r 4) m) (fun r m=>by kernel_rfl))) (fun r m=>by kernel_rfl))) (fun r m=>by kernel_rfl))))) (fun r m=>by kernel_rfl))) (fun r m=>by kernel_rfl)))) (fun r m=>by kernel_rfl)))) (fun r m=>by kernel_rfl))) (fun r m=>by kernel_rfl))) (fun r m=>by kernel_rfl))) (fun r m=>by kernel_rfl)) m
def Q1n6:En:=⟨Q18v,Tryz.f97,Tryz.func97,by kernel_rfl,arg1 Qso,okarg1 Q1nr⟩
def Q135 (G:Gt)(p5 p4:V)(m:M):R:=
  bp (pur (aLoad true 2 p5 m) m) fun x0 m=>
  bp (unt (aStore 2 p4 x0 m)) fun _ m=>
  ob (ob (aLoad true 2 p4 m) fun v=>ob (some []) fun l=>some (v :: l)) fun l=>some (resVal l,m)
def Qg4 (G:Gt)(k0:V → V → V → V → V → V → M → R)(p7 p0 p6 p5 p1 p4:V)(m:M):R:=
  bp (pur (bin .add true true .int p7 (.int .i64 1)) m) fun x1 m=>
  k0 x1 p0 p6 p5 p1 p4 m
def Qms (G:Gt)(k0:V → V → V → V → V → V → M → R)(p5 p0 p6 p7 p1 p4:V)(m:M):R:=
  bp (pur (aFieldAddr 1 p5) m) fun x2 m=>
  bp (pur (aLoad false 1 x2 m) m) fun x3 m=>
  bp (pur (aSliceStr p0 (some p6) (some p7)) m) fun x4 m=>
  bp (pur (bin .add true true .int p6 (.int .i64 1)) m) fun x5 m=>
  bp (pur (aBuild Q87 [(0,1),(1,1)] [(0,p1),(1,x5)]) m) fun x6 m=>
  bp (pur (aBuild Qv9 [(0,1),(1,2)] [(0,x4),(1,x6)]) m) fun x7 m=>
  bp (aBuildSlice Qva Qv9 3 1 [(0,x7)] m) fun x8 m=>
  bp (apS Qva 3 32 x3 x8 m) fun x9 m=>
  bp (pur (aFieldAddr 1 p5) m) fun x10 m=>
  bp (unt (aStore 1 x10 x9 m)) fun _ m=>
  Qg4 G k0 p7 p0 (.int .i64 (-1)) p5 p1 p4 m
def Q136 (G:Gt)(k0:V → V → V → V → V → V → M → R)(p28 p5 p6 p0 p7 p1 p4:V)(m:M):R:=
  brb p28
  (bp (pur (aFieldAddr 1 p5) m) fun x11 m=>
  bp (pur (aLoad false 1 x11 m) m) fun x12 m=>
  bp (pur (lenK 1 x12 m) m) fun x13 m=>
  bp (pur (bin .eql true true .int x13 (.int .i64 0)) m) fun x14 m=>
  brb x14
  (bp (pur (aFieldAddr 0 p5) m) fun x15 m=>
  bp (unt (aStore 1 x15 p6 m)) fun _ m=>
  Qms G k0 p5 p0 p6 p7 p1 p4 m)
  (Qms G k0 p5 p0 p6 p7 p1 p4 m))
  (Qg4 G k0 p7 p0 p6 p5 p1 p4 m)
def Q137 (G:Gt)(k0:V → V → V → V → V → V → M → R)(p6 p5 p0 p7 p1 p4:V)(m:M):R:=
  bp (pur (bin .geq true true .int p6 (.int .i64 0)) m) fun x16 m=>
  Q136 G k0 x16 p5 p6 p0 p7 p1 p4 m
def Qmt (G:Gt)(k0:V → V → V → V → V → V → M → R)(p7 p0 p6 p5 p1 p4:V)(m:M):R:=
  Qg4 G k0 p7 p0 p6 p5 p1 p4 m
def Qmu (G:Gt)(k0:V → V → V → V → V → V → M → R)(p23 p6 p7 p0 p5 p1 p4:V)(m:M):R:=
  brb p23
  (bp (pur (bin .lss true true .int p6 (.int .i64 0)) m) fun x17 m=>
  brb x17
  (Qmt G k0 p7 p0 p7 p5 p1 p4 m)
  (Qmt G k0 p7 p0 p6 p5 p1 p4 m))
  (Q137 G k0 p6 p5 p0 p7 p1 p4 m)
def Q138 (G:Gt)(k0:V → V → V → V → V → V → M → R)(p7 p0 p6 p5 p1 p4:V)(m:M):R:=
  bp (pur (lenK 0 p0 m) m) fun x18 m=>
  bp (pur (bin .lss false true .int p7 x18) m) fun x19 m=>
  brb x19
  (bp (pur (aIndexStr p0 p7) m) fun x20 m=>
  bp (pur (bin .neq true true .int x20 (.int .u8 32)) m) fun x21 m=>
  Qmu G k0 x21 p6 p7 p0 p5 p1 p4 m)
  (Qmu G k0 (.bool false) p6 p7 p0 p5 p1 p4 m)
def Q25 (G:Gt):Nat → V → V → V → V → V → V → M → R
 | 0,_,_,_,_,_,_,_=>none
 | i + 1,p7,p0,p6,p5,p1,p4,m=>
  bp (pur (lenK 0 p0 m) m) fun x22 m=>
  bp (pur (bin .leq false true .int p7 x22) m) fun x23 m=>
  brb x23
  (Q138 G (Q25 G i) p7 p0 p6 p5 p1 p4 m)
  (Q135 G p5 p4 m)
def Q139 (G:Gt)(p7 p0 p6 p5 p1 p4:V)(m:M):R:=
  Q25 G G.rds p7 p0 p6 p5 p1 p4 m
def Q13a (G:Gt)(p0 p6 p5 p1 p4:V)(m:M):R:=
  Q139 G (.int .i64 0) p0 p6 p5 p1 p4 m
def Q13b (G:Gt)(p0 p5 p1 p4:V)(m:M):R:=
  Q13a G p0 (.int .i64 (-1)) p5 p1 p4 m
def Q13c (G:Gt)(p0 p1 p4:V)(m:M):R:=
  bp (some (aNew Qf0 Qm2 m)) fun x24 m=>
  Q13b G p0 x24 p1 p4 m
def Qsp (G:Gt)(p0 p1:V)(m:M):R:=
  bp (some (aNew Qf0 Qm2 m)) fun x25 m=>
  Q13c G p0 p1 x25 m
theorem Q1ns (G:Gt)(a0 a1:V)(m:M):ef G Tryz.f98 [a0,a1] m = Qsp G a0 a1 m:=
  evFn_of (r:=fun r m=>Qsp G (r 0) (r 1) m) rfl rfl (tr (seqQ (f:=fun r m=>Q13c G (r 0) (r 1) (r 4) m) (tr (seqQ (f:=fun r m=>Q13b G (r 0) (r 5) (r 1) (r 4) m) (tr (seqQ (f:=fun r m=>Q13a G (r 0) (r 6) (r 5) (r 1) (r 4) m) (tr (tr (seqQ (f:=fun r m=>Q135 G (r 5) (r 4) m) (fun r m=>by kernel_rfl)) (seqQ (f:=fun r m=>Q139 G (r 7) (r 0) (r 6) (r 5) (r 1) (r 4) m) (tr (blockQ (loopQ (fun i r m=>Q25 G i (r 7) (r 0) (r 6) (r 5) (r 1) (r 4) m) (fun _ _=>rfl) (fun i0=>tr (seqQ (f:=fun r m=>Q138 G (Q25 G i0) (r 7) (r 0) (r 6) (r 5) (r 1) (r 4) m) (tr (tr (seqQ (f:=fun r m=>Qg4 G (Q25 G i0) (r 7) (r 0) (r 6) (r 5) (r 1) (r 4) m) (fun r m=>by kernel_rfl)) (blockQ (tr (seqQ (f:=fun r m=>Q137 G (Q25 G i0) (r 6) (r 5) (r 0) (r 7) (r 1) (r 4) m) (tr (seqQ (f:=fun r m=>Q136 G (Q25 G i0) (r 28) (r 5) (r 6) (r 0) (r 7) (r 1) (r 4) m) (tr (condQ (seqQ (f:=fun r m=>Qms G (Q25 G i0) (r 5) (r 0) (r 6) (r 7) (r 1) (r 4) m) (fun r m=>by kernel_rfl)) (refQ)) (fun r m=>by kernel_rfl))) (fun r m=>by kernel_rfl))) (seqQ (f:=fun r m=>Qmu G (Q25 G i0) (r 23) (r 6) (r 7) (r 0) (r 5) (r 1) (r 4) m) (tr (condQ (seqQ (f:=fun r m=>Qmt G (Q25 G i0) (r 7) (r 0) (r 6) (r 5) (r 1) (r 4) m) (fun r m=>by kernel_rfl)) (refQ)) (fun r m=>by kernel_rfl)))))) (fun r m=>by kernel_rfl))) (fun r m=>by kernel_rfl)))) (fun r m=>by kernel_rfl)))) (fun r m=>by kernel_rfl))) (fun r m=>by kernel_rfl))) (fun r m=>by kernel_rfl))) (fun r m=>by kernel_rfl)) m
def Q1nd:En:=⟨Q18w,Tryz.f98,Tryz.func98,by kernel_rfl,arg2 Qsp,okarg2 Q1ns⟩
def Qhl (G:Gt)(p3:V)(m:M):R:=
  some (p3,m)
def Qhm (G:Gt)(p15 p0 p3:V)(m:M):R:=
  brb p15
  (bp (G.tab Q3o [p0,(.int .i64 130)] m) fun x0 m=>
  Qhl G p3 m)
  (Qhl G p3 m)
def Qro (G:Gt)(p0 p3:V)(m:M):R:=
  bp (pur (aNilCheck p0) m) fun x1 m=>
  bp (pur (aFieldAddr 4 x1) m) fun x2 m=>
  bp (pur (aLoad false 1 x2 m) m) fun x3 m=>
  bp (pur (bin .eql true true .int x3 (.int .i64 0)) m) fun x4 m=>
  brb x4
  (bp (G.tab Q1aq [p3] m) fun x5 m=>
  bp (pur (un .not x5) m) fun x6 m=>
  Qhm G x6 p0 p3 m)
  (Qhm G (.bool false) p0 p3 m)
def Qrp (G:Gt)(p0:V)(m:M):R:=
  bp (G.tab Q4d [p0] m) fun x7 m=>
  Qro G p0 x7 m
def Qjs (G:Gt)(p0:V)(m:M):R:=
  Qrp G p0 m
theorem Q1go (G:Gt)(a0:V)(m:M):ef G Tryz.f99 [a0] m = Qjs G a0 m:=
  evFn_of (r:=fun r m=>Qjs G (r 0) m) rfl rfl (tr (seqQ (f:=fun r m=>Qrp G (r 0) m) (tr (seqQ (f:=fun r m=>Qro G (r 0) (r 3) m) (tr (tr (seqQ (f:=fun r m=>Qhl G (r 3) m) (fun r m=>by kernel_rfl)) (seqQ (f:=fun r m=>Qhm G (r 15) (r 0) (r 3) m) (fun r m=>by kernel_rfl))) (fun r m=>by kernel_rfl))) (fun r m=>by kernel_rfl))) (fun r m=>by kernel_rfl)) m
def Q1gd:En:=⟨Q2t,Tryz.f99,Tryz.func99,by kernel_rfl,arg1 Qjs,okarg1 Q1go⟩
def Qq0 (G:Gt)(p0 p1:V)(m:M):R:=
  bp (pur (aNilCheck p0) m) fun x0 m=>
  bp (pur (aFieldAddr 15 x0) m) fun x1 m=>
  bp (pur (aLoad false 1 x1 m) m) fun x2 m=>
  bp (aBuildSlice Qye [(.string ⟨#[]⟩)] 1 1 [(0,p1)] m) fun x3 m=>
  bp (apS Qye 1 16 x2 x3 m) fun x4 m=>
  bp (pur (aNilCheck p0) m) fun x5 m=>
  bp (pur (aFieldAddr 15 x5) m) fun x6 m=>
  bp (unt (aStore 1 x6 x4 m)) fun _ m=>
  some (.tuple ⟨[]⟩,m)
def Qf9 (G:Gt)(k0:V → V → V → M → R)(p4 p0 p1:V)(m:M):R:=
  bp (pur (bin .add true true .int p4 (.int .i64 1)) m) fun x7 m=>
  k0 x7 p0 p1 m
def Qq1 (G:Gt)(k0:V → V → V → M → R)(p0 p4 p1:V)(m:M):R:=
  bp (pur (aNilCheck p0) m) fun x8 m=>
  bp (pur (aFieldAddr 15 x8) m) fun x9 m=>
  bp (pur (aLoad false 1 x9 m) m) fun x10 m=>
  bp (pur (aIndexAddrSl 1 x10 p4) m) fun x11 m=>
  bp (pur (aLoad false 1 x11 m) m) fun x12 m=>
  bp (pur (bin .eql false true .str x12 p1) m) fun x13 m=>
  brb x13
  (bp (pur (aNilCheck p0) m) fun x14 m=>
  bp (pur (aFieldAddr 16 x14) m) fun x15 m=>
  bp (unt (aStore 1 x15 (.bool true) m)) fun _ m=>
  Qf9 G k0 p4 p0 p1 m)
  (Qf9 G k0 p4 p0 p1 m)
def Q50 (G:Gt):Nat → V → V → V → M → R
 | 0,_,_,_,_=>none
 | i + 1,p4,p0,p1,m=>
  bp (pur (aNilCheck p0) m) fun x16 m=>
  bp (pur (aFieldAddr 15 x16) m) fun x17 m=>
  bp (pur (aLoad false 1 x17 m) m) fun x18 m=>
  bp (pur (lenK 1 x18 m) m) fun x19 m=>
  bp (pur (bin .lss false true .int p4 x19) m) fun x20 m=>
  brb x20
  (Qq1 G (Q50 G i) p0 p4 p1 m)
  (Qq0 G p0 p1 m)
def Qq2 (G:Gt)(p4 p0 p1:V)(m:M):R:=
  Q50 G G.rds p4 p0 p1 m
def Qih (G:Gt)(p0 p1:V)(m:M):R:=
  Qq2 G (.int .i64 0) p0 p1 m
theorem Q1ew (G:Gt)(a0 a1:V)(m:M):ef G Tryz.f100 [a0,a1] m = Qih G a0 a1 m:=
  evFn_of (r:=fun r m=>Qih G (r 0) (r 1) m) rfl rfl (tr (tr (seqQ (f:=fun r m=>Qq0 G (r 0) (r 1) m) (fun r m=>by kernel_rfl)) (seqQ (f:=fun r m=>Qq2 G (r 4) (r 0) (r 1) m) (tr (blockQ (loopQ (fun i r m=>Q50 G i (r 4) (r 0) (r 1) m) (fun _ _=>rfl) (fun i0=>tr (seqQ (f:=fun r m=>Qq1 G (Q50 G i0) (r 0) (r 4) (r 1) m) (tr (seqQ (f:=fun r m=>Qf9 G (Q50 G i0) (r 4) (r 0) (r 1) m) (fun r m=>by kernel_rfl)) (fun r m=>by kernel_rfl))) (fun r m=>by kernel_rfl)))) (fun r m=>by kernel_rfl)))) (fun r m=>by kernel_rfl)) m
def Q1ec:En:=⟨Q6c,Tryz.f100,Tryz.func100,by kernel_rfl,arg2 Qih,okarg2 Q1ew⟩
def Qhn (G:Gt)(p0 p2 p1:V)(m:M):R:=
  bp (G.tab Q6c [p0,p2] m) fun x0 m=>
  bp (pur (aNilCheck p0) m) fun x1 m=>
  bp (pur (aFieldAddr 12 x1) m) fun x2 m=>
  bp (unt (aStore 1 x2 p1 m)) fun _ m=>
  bp (pur (aNilCheck p0) m) fun x3 m=>
  bp (pur (aFieldAddr 13 x3) m) fun x4 m=>
  bp (pur (aLoad false 1 x4 m) m) fun x5 m=>
  bp (pur (bin .add true true .int x5 (.int .i64 1)) m) fun x6 m=>
  bp (pur (aNilCheck p0) m) fun x7 m=>
  bp (pur (aFieldAddr 13 x7) m) fun x8 m=>
  bp (unt (aStore 1 x8 x6 m)) fun _ m=>
  some (.tuple ⟨[]⟩,m)
theorem Q1di (G:Gt)(a0 a1 a2:V)(m:M):ef G Tryz.f101 [a0,a1,a2] m = Qhn G a0 a2 a1 m:=
  evFn_of (r:=fun r m=>Qhn G (r 0) (r 2) (r 1) m) rfl rfl (fun r m=>by kernel_rfl) m
def Q1d2:En:=⟨Q9m,Tryz.f101,Tryz.func101,by kernel_rfl,arg3 (fun G a0 a1 a2 m=>Qhn G a0 a2 a1 m),okarg3 Q1di⟩
def Qp (G:Gt)(p0 p6:V)(m:M):R:=
  bp (G.tab Qfa [p0,p6] m) fun x0 m=>
  some (.tuple ⟨[]⟩,m)
def Qoq (G:Gt)(p6 p2 p1 p0:V)(m:M):R:=
  bp (pur (bin .eql true true .str p6 (.string ⟨#[118,114,102]⟩)) m) fun x1 m=>
  brb x1
  (bp (G.tab Q2t [p1] m) fun x2 m=>
  bp (pur (aNilCheck p2) m) fun x3 m=>
  bp (pur (aFieldAddr 1 x3) m) fun x4 m=>
  bp (unt (aStore 1 x4 x2 m)) fun _ m=>
  Qp G p0 p6 m)
  (bp (pur (bin .eql true true .str p6 (.string ⟨#[97,100,100,114,101,115,115]⟩)) m) fun x5 m=>
  brb x5
  (bp (G.tab Q8y [p1] m) fun x6 m=>
  bp (pur (aNilCheck p2) m) fun x7 m=>
  bp (pur (aFieldAddr 2 x7) m) fun x8 m=>
  bp (unt (aStore 1 x8 x6 m)) fun _ m=>
  bp (G.tab Qwt [p1,(.bool false),(.int .i64 1)] m) fun x9 m=>
  bp (pur (aNilCheck p2) m) fun x10 m=>
  bp (pur (aFieldAddr 3 x10) m) fun x11 m=>
  bp (unt (aStore 1 x11 x9 m)) fun _ m=>
  Qp G p0 p6 m)
  (bp (pur (bin .eql true true .str p6 (.string ⟨#[102,105,108,116,101,114]⟩)) m) fun x12 m=>
  brb x12
  (bp (G.tab Q2t [p1] m) fun x13 m=>
  bp (G.tab Q3p [p1,(.string ⟨#[105,110]⟩),(.string ⟨#[111,117,116]⟩),(.string ⟨#[111,117,116]⟩)] m) fun x14 m=>
  bp (pur (bin .add true true .str p6 (.string ⟨#[32]⟩)) m) fun x15 m=>
  bp (pur (bin .add false true .str x15 x14) m) fun x16 m=>
  bp (pur (bin .eql true true .str x14 (.string ⟨#[105,110]⟩)) m) fun x17 m=>
  brb x17
  (bp (pur (aNilCheck p2) m) fun x18 m=>
  bp (pur (aFieldAddr 5 x18) m) fun x19 m=>
  bp (unt (aStore 1 x19 x13 m)) fun _ m=>
  Qp G p0 x16 m)
  (bp (pur (aNilCheck p2) m) fun x20 m=>
  bp (pur (aFieldAddr 6 x20) m) fun x21 m=>
  bp (unt (aStore 1 x21 x13 m)) fun _ m=>
  Qp G p0 x16 m))
  (bp (pur (bin .eql true true .str p6 (.string ⟨#[110,97,116]⟩)) m) fun x22 m=>
  brb x22
  (bp (pur (aNilCheck p2) m) fun x23 m=>
  bp (pur (aFieldAddr 7 x23) m) fun x24 m=>
  bp (unt (aStore 1 x24 (.int .u8 2) m)) fun _ m=>
  bp (G.tab Q3p [p1,(.string ⟨#[105,110,115,105,100,101]⟩),(.string ⟨#[111,117,116,115,105,100,101]⟩),(.string ⟨#[111,117,116,115,105,100,101]⟩)] m) fun x25 m=>
  bp (pur (bin .eql true true .str x25 (.string ⟨#[105,110,115,105,100,101]⟩)) m) fun x26 m=>
  brb x26
  (bp (pur (aNilCheck p2) m) fun x27 m=>
  bp (pur (aFieldAddr 7 x27) m) fun x28 m=>
  bp (unt (aStore 1 x28 (.int .u8 1) m)) fun _ m=>
  Qp G p0 p6 m)
  (Qp G p0 p6 m))
  (bp (pur (bin .eql true true .str p6 (.string ⟨#[111,115,112,102]⟩)) m) fun x29 m=>
  brb x29
  (bp (G.tab Q3p [p1,(.string ⟨#[97,114,101,97]⟩),(.string ⟨#[99,111,115,116]⟩),(.string ⟨#[112,97,115,115,105,118,101]⟩)] m) fun x30 m=>
  bp (pur (bin .add true true .str p6 (.string ⟨#[32]⟩)) m) fun x31 m=>
  bp (pur (bin .add false true .str x31 x30) m) fun x32 m=>
  bp (pur (bin .eql true true .str x30 (.string ⟨#[97,114,101,97]⟩)) m) fun x33 m=>
  brb x33
  (bp (G.tab Q9n [p1,(.int .i64 0),(.int .i64 16777216)] m) fun x34 m=>
  bp (pur (aNilCheck p2) m) fun x35 m=>
  bp (pur (aFieldAddr 8 x35) m) fun x36 m=>
  bp (unt (aStore 1 x36 x34 m)) fun _ m=>
  Qp G p0 x32 m)
  (bp (pur (bin .eql true true .str x30 (.string ⟨#[99,111,115,116]⟩)) m) fun x37 m=>
  brb x37
  (bp (G.tab Q9n [p1,(.int .i64 1),(.int .i64 65535)] m) fun x38 m=>
  bp (pur (aNilCheck p2) m) fun x39 m=>
  bp (pur (aFieldAddr 9 x39) m) fun x40 m=>
  bp (unt (aStore 1 x40 x38 m)) fun _ m=>
  Qp G p0 x32 m)
  (bp (pur (bin .eql true true .str x30 (.string ⟨#[112,97,115,115,105,118,101]⟩)) m) fun x41 m=>
  brb x41
  (bp (pur (aNilCheck p2) m) fun x42 m=>
  bp (pur (aFieldAddr 10 x42) m) fun x43 m=>
  bp (unt (aStore 1 x43 (.bool true) m)) fun _ m=>
  Qp G p0 x32 m)
  (Qp G p0 x32 m))))
  (bp (pur (bin .eql true true .str p6 (.string ⟨#[115,104,117,116,100,111,119,110]⟩)) m) fun x44 m=>
  brb x44
  (bp (pur (aNilCheck p2) m) fun x45 m=>
  bp (pur (aFieldAddr 4 x45) m) fun x46 m=>
  bp (unt (aStore 1 x46 (.bool true) m)) fun _ m=>
  Qp G p0 p6 m)
  (bp (G.tab Q3o [p1,(.int .i64 130)] m) fun x47 m=>
  Qp G p0 p6 m))))))
def Qho (G:Gt)(p1 p2 p0:V)(m:M):R:=
  bp (G.tab Q4d [p1] m) fun x48 m=>
  Qoq G x48 p2 p1 p0 m
theorem Q1dj (G:Gt)(a0 a1 a2:V)(m:M):ef G Tryz.f107 [a0,a1,a2] m = Qho G a1 a2 a0 m:=
  evFn_of (r:=fun r m=>Qho G (r 1) (r 2) (r 0) m) rfl rfl (tr (seqQ (f:=fun r m=>Qoq G (r 6) (r 2) (r 1) (r 0) m) (tr (seqQ (f:=fun r m=>Qp G (r 0) (r 6) m) (fun r m=>by kernel_rfl)) (fun r m=>by kernel_rfl))) (fun r m=>by kernel_rfl)) m
def Q1d1:En:=⟨Qrq,Tryz.f107,Tryz.func107,by kernel_rfl,arg3 (fun G a0 a1 a2 m=>Qho G a1 a2 a0 m),okarg3 Q1dj⟩
def Qe0 (G:Gt)(p4:V)(m:M):R:=
  some (p4,m)
def Qno (G:Gt)(p5 p0 p4:V)(m:M):R:=
  bp (pur (bin .neq true true .int p5 (.int .i64 0)) m) fun x0 m=>
  brb x0
  (bp (G.tab Q3o [p0,(.int .i64 130)] m) fun x1 m=>
  Qe0 G p4 m)
  (Qe0 G p4 m)
def Qnp (G:Gt)(p3 p0:V)(m:M):R:=
  bp (G.tab Q18t [p3] m) fun x2 m=>
  bp (pur (aExtract x2 0) m) fun x3 m=>
  bp (pur (aExtract x2 1) m) fun x4 m=>
  Qno G x4 p0 x3 m
def Qnq (G:Gt)(p0 p3:V)(m:M):R:=
  bp (pur (aNilCheck p0) m) fun x5 m=>
  bp (pur (aFieldAddr 4 x5) m) fun x6 m=>
  bp (pur (aLoad false 1 x6 m) m) fun x7 m=>
  bp (pur (bin .neq true true .int x7 (.int .i64 0)) m) fun x8 m=>
  brb x8
  (some ((.int .u32 0),m))
  (Qnp G p3 p0 m)
def Qnr (G:Gt)(p0:V)(m:M):R:=
  bp (G.tab Q4d [p0] m) fun x9 m=>
  Qnq G p0 x9 m
def Qfb (G:Gt)(p0:V)(m:M):R:=
  Qnr G p0 m
theorem Q1c3 (G:Gt)(a0:V)(m:M):ef G Tryz.f110 [a0] m = Qfb G a0 m:=
  evFn_of (r:=fun r m=>Qfb G (r 0) m) rfl rfl (tr (seqQ (f:=fun r m=>Qnr G (r 0) m) (tr (seqQ (f:=fun r m=>Qnq G (r 0) (r 3) m) (tr (seqQ (f:=fun r m=>Qnp G (r 3) (r 0) m) (tr (seqQ (f:=fun r m=>Qno G (r 5) (r 0) (r 4) m) (tr (seqQ (f:=fun r m=>Qe0 G (r 4) m) (fun r m=>by kernel_rfl)) (fun r m=>by kernel_rfl))) (fun r m=>by kernel_rfl))) (fun r m=>by kernel_rfl))) (fun r m=>by kernel_rfl))) (fun r m=>by kernel_rfl)) m
def Q1bz:En:=⟨Q8y,Tryz.f110,Tryz.func110,by kernel_rfl,arg1 Qfb,okarg1 Q1c3⟩
def Qfc (G:Gt)(p0 p1:V)(m:M):R:=
  bp (pur (aNilCheck p0) m) fun x0 m=>
  bp (pur (aFieldAddr 13 x0) m) fun x1 m=>
  bp (pur (aLoad false 1 x1 m) m) fun x2 m=>
  bp (G.tab Q16q [x2] m) fun x3 m=>
  bp (pur (bin .add true true .str (.string ⟨#[98,108,111,99,107,32]⟩) x3) m) fun x4 m=>
  bp (pur (bin .add true true .str x4 (.string ⟨#[58,32]⟩)) m) fun x5 m=>
  bp (pur (bin .add false true .str x5 p1) m) fun x6 m=>
  bp (G.tab Q6c [p0,x6] m) fun x7 m=>
  some (.tuple ⟨[]⟩,m)
theorem Q1c4 (G:Gt)(a0 a1:V)(m:M):ef G Tryz.f111 [a0,a1] m = Qfc G a0 a1 m:=
  evFn_of (r:=fun r m=>Qfc G (r 0) (r 1) m) rfl rfl (fun r m=>by kernel_rfl) m
def Q1bu:En:=⟨Qfa,Tryz.f111,Tryz.func111,by kernel_rfl,arg2 Qfc,okarg2 Q1c4⟩
end
end Go.Ab.Sh
