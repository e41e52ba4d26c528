/-
  Functions of the program as plain definitions. No conditions.
-/
import Derived.Test.YthlpkjlpdmfgiaaGreatDoorAb5
import Derived.Test.YthlpkjlpdmfgiaaGreatDoorZ
import Derived.KernelRfl
import Derived.Test.YthlpkjlpdmfgiaaGreatDoorProg
set_option linter.unusedVariables false
set_option maxRecDepth 100000
namespace Go.Ab.Sh
open Go Go.Ab Go.Proofs
noncomputable section
def Quc (G:Gt)(p17 p9 p8 p4:V)(m:M):R:=
  bp (pur (aFieldAddr 4 p9) m) fun x0 m=>
  bp (unt (aStore 1 x0 p17 m)) fun _ m=>
  bp (pur (aFieldAddr 1 p8) m) fun x1 m=>
  bp (pur (aLoad false 1 x1 m) m) fun x2 m=>
  bp (pur (bin .eql true true .int x2 (.int .u32 0)) m) fun x3 m=>
  brb x3
  (bp (pur (aLoad true 5 p9 m) m) fun x4 m=>
  bp (evCall G.tab p4 [(.int .u8 6),x4] m) fun x5 m=>
  some (.tuple ⟨[]⟩,m))
  (bp (pur (aLoad true 5 p9 m) m) fun x6 m=>
  bp (evCall G.tab p4 [(.int .u8 7),x6] m) fun x7 m=>
  some (.tuple ⟨[]⟩,m))
def Qhz (G:Gt)(k0:V → V → V → V → V → V → V → V → V → V → M → R)(p114 p113 p112 p0 p8 p16 p9 p5 p17 p4:V)(m:M):R:=
  bp (pur (bin .add true true .int p114 (.int .i64 1)) m) fun x8 m=>
  k0 x8 p113 p112 p0 p8 p16 p9 p5 p17 p4 m
def Qi0 (G:Gt)(k0:V → V → V → V → V → V → V → V → V → V → M → R)(p5 p21 p9 p114 p113 p112 p0 p8 p16 p17 p4:V)(m:M):R:=
  bp (pur (aLoad true 2 p21 m) m) fun x9 m=>
  bp (pur (aLoad true 5 p9 m) m) fun x10 m=>
  bp (aBuildSlice Q5b Qhb 5 1 [(0,x10)] m) fun x11 m=>
  bp (aMapEntry (.struct [(0,1,false,.int),(1,1,false,.int)]) (.slice none 0 0) p5 x9 m) fun x12 m=>
  bp (pur (aExtract x12 0) m) fun x13 m=>
  bp (apS Q5b 5 40 x13 x11 m) fun x14 m=>
  bp (pur (aExtract x12 1) m) fun x15 m=>
  bp (unt (aEntryStore p5 x15 x14 m)) fun _ m=>
  Qhz G k0 p114 p113 p112 p0 p8 p16 p9 p5 p17 p4 m
def Qud (G:Gt)(k0:V → V → V → V → V → V → V → V → V → V → M → R)(p8 p22 p16 p9 p5 p21 p114 p113 p112 p0 p4 p17:V)(m:M):R:=
  bp (pur (aFieldAddr 1 p8) m) fun x16 m=>
  bp (pur (aLoad false 1 x16 m) m) fun x17 m=>
  bp (pur (bin .eql false true .int x17 p22) m) fun x18 m=>
  brb x18
  (bp (pur (aFieldAddr 4 p9) m) fun x19 m=>
  bp (unt (aStore 1 x19 p16 m)) fun _ m=>
  Qi0 G k0 p5 p21 p9 p114 p113 p112 p0 p8 p16 (.int .i64 0) p4 m)
  (bp (pur (aFieldAddr 1 p8) m) fun x20 m=>
  bp (pur (aLoad false 1 x20 m) m) fun x21 m=>
  bp (pur (bin .eql true true .int x21 (.int .u32 0)) m) fun x22 m=>
  brb x22
  (bp (G.tab Qm6 [p0,p22] m) fun x23 m=>
  bp (pur (aNilCheck p0) m) fun x24 m=>
  bp (pur (aFieldAddr 0 x24) m) fun x25 m=>
  bp (pur (aLoad false 1 x25 m) m) fun x26 m=>
  bp (G.tab Q3d [x26,p16,x23] m) fun x27 m=>
  bp (pur (aExtract x27 0) m) fun x28 m=>
  bp (pur (aExtract x27 1) m) fun x29 m=>
  bp (G.tab Q1 [p0,x28,x29] m) fun x30 m=>
  bp (pur (aFieldAddr 4 p9) m) fun x31 m=>
  bp (unt (aStore 1 x31 x30 m)) fun _ m=>
  bp (pur (aNilCheck p0) m) fun x32 m=>
  bp (pur (aFieldAddr 0 x32) m) fun x33 m=>
  bp (pur (aLoad false 1 x33 m) m) fun x34 m=>
  bp (G.tab Qwa [x34,p17,x23] m) fun x35 m=>
  bp (pur (aExtract x35 0) m) fun x36 m=>
  bp (pur (aExtract x35 1) m) fun x37 m=>
  bp (G.tab Q1 [p0,x36,x37] m) fun x38 m=>
  Qi0 G k0 p5 p21 p9 p114 p113 p112 p0 p8 p16 x38 p4 m)
  (Qhz G k0 p114 p113 p112 p0 p8 p16 p9 p5 p17 p4 m))
def Que (G:Gt)(k0:V → V → V → V → V → V → V → V → V → V → M → R)(p0 p21 p8 p16 p9 p5 p114 p113 p112 p4 p17:V)(m:M):R:=
  bp (pur (aNilCheck p0) m) fun x39 m=>
  bp (pur (aFieldAddr 2 x39) m) fun x40 m=>
  bp (pur (aLoad false 1 x40 m) m) fun x41 m=>
  bp (pur (aFieldAddr 0 p21) m) fun x42 m=>
  bp (pur (aLoad false 1 x42 m) m) fun x43 m=>
  bp (pur (aIndexAddrSl 12 x41 x43) m) fun x44 m=>
  bp (pur (aFieldAddr 3 x44) m) fun x45 m=>
  bp (pur (aLoad false 1 x45 m) m) fun x46 m=>
  bp (pur (aFieldAddr 1 p21) m) fun x47 m=>
  bp (pur (aLoad false 1 x47 m) m) fun x48 m=>
  bp (pur (aIndexAddrSl 11 x46 x48) m) fun x49 m=>
  bp (pur (aFieldAddr 2 x49) m) fun x50 m=>
  bp (pur (aLoad false 1 x50 m) m) fun x51 m=>
  Qud G k0 p8 x51 p16 p9 p5 p21 p114 p113 p112 p0 p4 p17 m
def Quf (G:Gt)(k0:V → V → V → V → V → V → V → V → V → V → M → R)(p112 p114 p0 p8 p16 p9 p5 p113 p4 p17:V)(m:M):R:=
  bp (pur (aIndexAddrSl 2 p112 p114) m) fun x52 m=>
  bp (pur (aLoad true 2 x52 m) m) fun x53 m=>
  bp (some (aNew Qw Q1x m)) fun x54 m=>
  bp (unt (aStore 2 x54 x53 m)) fun _ m=>
  Que G k0 p0 x54 p8 p16 p9 p5 p114 p113 p112 p4 p17 m
def Qug (G:Gt)(k0:V → V → V → V → V → V → V → V → V → V → M → R)(p115 p112 p114 p0 p8 p16 p9 p5 p113 p4 p17:V)(m:M):R:=
  brb p115
  (Quf G k0 p112 p114 p0 p8 p16 p9 p5 p113 p4 p17 m)
  (Quc G p17 p9 p8 p4 m)
def Q1v (G:Gt):Nat → V → V → V → V → V → V → V → V → V → V → M → R
 | 0,_,_,_,_,_,_,_,_,_,_,_=>none
 | i + 1,p114,p113,p112,p0,p8,p16,p9,p5,p17,p4,m=>
  bp (pur (bin .lss false true .int p114 p113) m) fun x55 m=>
  Qug G (Q1v G i) x55 p112 p114 p0 p8 p16 p9 p5 p113 p4 p17 m
def Quh (G:Gt)(p114 p113 p112 p0 p8 p16 p9 p5 p17 p4:V)(m:M):R:=
  Q1v G G.rds p114 p113 p112 p0 p8 p16 p9 p5 p17 p4 m
def Qui (G:Gt)(p18 p0 p8 p16 p9 p5 p17 p4:V)(m:M):R:=
  bp (pur (lenK 1 p18 m) m) fun x56 m=>
  Quh G (.int .i64 0) x56 p18 p0 p8 p16 p9 p5 p17 p4 m
def Quj (G:Gt)(p0 p7 p14 p8 p16 p9 p5 p17 p4:V)(m:M):R:=
  bp (pur (aNilCheck p0) m) fun x57 m=>
  bp (pur (aFieldAddr 1 x57) m) fun x58 m=>
  bp (pur (aLoad false 1 x58 m) m) fun x59 m=>
  bp (pur (aFieldAddr 0 p7) m) fun x60 m=>
  bp (pur (aLoad false 1 x60 m) m) fun x61 m=>
  bp (pur (aBuild Q1x [(0,1),(1,1)] [(0,x61),(1,p14)]) m) fun x62 m=>
  bp (G.tab Q10c [x59] m) fun x63 m=>
  ckB (again (pur (aLoad false 1 x60 m) m) x61 && true)
  (bp (G.tab Q14r [x63,x62] m) fun x64 m=>
  bp (pur (aExtract x64 0) m) fun x65 m=>
  bp (pur (aExtract x64 1) m) fun x66 m=>
  Qui G x65 p0 p8 p16 p9 p5 p17 p4 m)
def Qvn (G:Gt)(p16 p0 p7 p14 p8 p9 p5 p4:V)(m:M):R:=
  Quj G p0 p7 p14 p8 p16 p9 p5 p16 p4 m
def Qvo (G:Gt)(p4 p9 p16 p0 p7 p14 p8 p5:V)(m:M):R:=
  bp (pur (aLoad true 5 p9 m) m) fun x67 m=>
  bp (evCall G.tab p4 [(.int .u8 3),x67] m) fun x68 m=>
  Qvn G p16 p0 p7 p14 p8 p9 p5 p4 m
def Qvp (G:Gt)(p0 p16 p9 p4 p7 p14 p8 p5:V)(m:M):R:=
  bp (pur (aNilCheck p0) m) fun x69 m=>
  bp (pur (aFieldAddr 0 x69) m) fun x70 m=>
  bp (pur (aLoad false 1 x70 m) m) fun x71 m=>
  bp (G.tab Qoo [x71,p16] m) fun x72 m=>
  bp (pur (aExtract x72 0) m) fun x73 m=>
  bp (pur (aExtract x72 1) m) fun x74 m=>
  bp (G.tab Q1 [p0,x73,x74] m) fun x75 m=>
  bp (pur (aFieldAddr 4 p9) m) fun x76 m=>
  bp (unt (aStore 1 x76 x75 m)) fun _ m=>
  Qvo G p4 p9 p16 p0 p7 p14 p8 p5 m
def Qjh (G:Gt)(p0 p12 p15 p9 p4 p7 p14 p8 p5:V)(m:M):R:=
  bp (pur (aLoad true 12 p12 m) m) fun x77 m=>
  bp (pur (aFieldAddr 6 p15) m) fun x78 m=>
  bp (pur (aLoad false 1 x78 m) m) fun x79 m=>
  bp (G.tab Qd9 [p0,x77,x79] m) fun x80 m=>
  Qvp G p0 x80 p9 p4 p7 p14 p8 p5 m
def Qvq (G:Gt)(p0 p12 p13 p15 p9 p4 p7 p14 p8 p5:V)(m:M):R:=
  bp (pur (aLoad true 12 p12 m) m) fun x81 m=>
  bp (pur (aFieldAddr 7 p13) m) fun x82 m=>
  bp (pur (aLoad false 1 x82 m) m) fun x83 m=>
  bp (pur (bin .eql true true .int x83 (.int .u8 1)) m) fun x84 m=>
  brb x84
  (bp (pur (aFieldAddr 7 p15) m) fun x85 m=>
  bp (pur (aLoad false 1 x85 m) m) fun x86 m=>
  bp (pur (bin .eql true true .int x86 (.int .u8 2)) m) fun x87 m=>
  bp (G.tab Qd4 [p0,x81,x87,(.bool false)] m) fun x88 m=>
  bp (pur (aFieldAddr 3 p9) m) fun x89 m=>
  bp (unt (aStore 1 x89 x88 m)) fun _ m=>
  Qjh G p0 p12 p15 p9 p4 p7 p14 p8 p5 m)
  (bp (G.tab Qd4 [p0,x81,(.bool false),(.bool false)] m) fun x90 m=>
  bp (pur (aFieldAddr 3 p9) m) fun x91 m=>
  bp (unt (aStore 1 x91 x90 m)) fun _ m=>
  Qjh G p0 p12 p15 p9 p4 p7 p14 p8 p5 m)
def Qvr (G:Gt)(p12 p14 p0 p13 p9 p4 p7 p8 p5:V)(m:M):R:=
  bp (pur (aFieldAddr 3 p12) m) fun x92 m=>
  bp (pur (aLoad false 1 x92 m) m) fun x93 m=>
  bp (pur (aIndexAddrSl 11 x93 p14) m) fun x94 m=>
  bp (pur (aLoad true 11 x94 m) m) fun x95 m=>
  bp (some (aNew Q1r Q7y m)) fun x96 m=>
  bp (unt (aStore 11 x96 x95 m)) fun _ m=>
  Qvq G p0 p12 p13 x96 p9 p4 p7 p14 p8 p5 m
def Qi1 (G:Gt)(p52 p0 p9 p4 p12 p14 p13 p7 p8 p5:V)(m:M):R:=
  brb p52
  (bp (pur (aNilCheck p0) m) fun x97 m=>
  bp (pur (aFieldAddr 3 x97) m) fun x98 m=>
  bp (pur (aLoad false 1 x98 m) m) fun x99 m=>
  bp (pur (aFieldAddr 3 p9) m) fun x100 m=>
  bp (unt (aStore 1 x100 x99 m)) fun _ m=>
  bp (pur (aFieldAddr 4 p9) m) fun x101 m=>
  bp (unt (aStore 1 x101 (.int .i64 1) m)) fun _ m=>
  bp (pur (aLoad true 5 p9 m) m) fun x102 m=>
  bp (evCall G.tab p4 [(.int .u8 7),x102] m) fun x103 m=>
  some (.tuple ⟨[]⟩,m))
  (Qvr G p12 p14 p0 p13 p9 p4 p7 p8 p5 m)
def Qvs (G:Gt)(p14 p12 p0 p9 p4 p13 p7 p8 p5:V)(m:M):R:=
  bp (pur (bin .lss true true .int p14 (.int .i64 0)) m) fun x104 m=>
  brb x104
  (Qi1 G (.bool true) p0 p9 p4 p12 p14 p13 p7 p8 p5 m)
  (bp (pur (aFieldAddr 3 p12) m) fun x105 m=>
  bp (pur (aLoad false 1 x105 m) m) fun x106 m=>
  bp (pur (aIndexAddrSl 11 x106 p14) m) fun x107 m=>
  bp (pur (aLoad true 11 x107 m) m) fun x108 m=>
  bp (G.tab Qt7 [x108] m) fun x109 m=>
  bp (pur (un .not x109) m) fun x110 m=>
  Qi1 G x110 p0 p9 p4 p12 p14 p13 p7 p8 p5 m)
def Qvt (G:Gt)(p12 p8 p0 p9 p4 p13 p7 p5:V)(m:M):R:=
  bp (pur (aFieldAddr 3 p12) m) fun x111 m=>
  bp (pur (aLoad false 1 x111 m) m) fun x112 m=>
  bp (G.tab Q4e [x112,(.func (.func Qvu) ⟨[]⟩ ⟨[p8]⟩)] m) fun x113 m=>
  Qvs G x113 p12 p0 p9 p4 p13 p7 p8 p5 m
def Qvv (G:Gt)(p12 p7 p8 p0 p9 p4 p5:V)(m:M):R:=
  bp (pur (aFieldAddr 3 p12) m) fun x114 m=>
  bp (pur (aLoad false 1 x114 m) m) fun x115 m=>
  bp (pur (aFieldAddr 1 p7) m) fun x116 m=>
  bp (pur (aLoad false 1 x116 m) m) fun x117 m=>
  bp (pur (aIndexAddrSl 11 x115 x117) m) fun x118 m=>
  bp (pur (aLoad true 11 x118 m) m) fun x119 m=>
  bp (some (aNew Q1r Q7y m)) fun x120 m=>
  bp (unt (aStore 11 x120 x119 m)) fun _ m=>
  Qvt G p12 p8 p0 p9 p4 x120 p7 p5 m
def Qvw (G:Gt)(p0 p7 p8 p9 p4 p5:V)(m:M):R:=
  bp (pur (aNilCheck p0) m) fun x121 m=>
  bp (pur (aFieldAddr 2 x121) m) fun x122 m=>
  bp (pur (aLoad false 1 x122 m) m) fun x123 m=>
  bp (pur (aFieldAddr 0 p7) m) fun x124 m=>
  bp (pur (aLoad false 1 x124 m) m) fun x125 m=>
  bp (pur (aIndexAddrSl 12 x123 x125) m) fun x126 m=>
  bp (pur (aLoad true 12 x126 m) m) fun x127 m=>
  bp (some (aNew Qx Q1b m)) fun x128 m=>
  bp (unt (aStore 12 x128 x127 m)) fun _ m=>
  Qvv G x128 p7 p8 p0 p9 p4 p5 m
def Qmp (G:Gt)(p1 p2 p3 p0 p4 p5:V)(m:M):R:=
  bp (some (aNew Qw (Value.cells p1).toList m)) fun x129 m=>
  bp (some (aNew Q10r (Value.cells p2).toList m)) fun x130 m=>
  bp (some (aNew Q5b (Value.cells p3).toList m)) fun x131 m=>
  Qvw G p0 x129 x130 x131 p4 p5 m
theorem Q1eh (G:Gt)(a0 a1 a2 a3 a4 a5:V)(m:M):ef G Tryz.f68 [a0,a1,a2,a3,a4,a5] m = Qmp G a1 a2 a3 a0 a4 a5 m:=
  evFn_of (r:=fun r m=>Qmp G (r 1) (r 2) (r 3) (r 0) (r 4) (r 5) m) rfl rfl (tr (seqQ (f:=fun r m=>Qvw G (r 0) (r 7) (r 8) (r 9) (r 4) (r 5) m) (tr (seqQ (f:=fun r m=>Qvv G (r 12) (r 7) (r 8) (r 0) (r 9) (r 4) (r 5) m) (tr (seqQ (f:=fun r m=>Qvt G (r 12) (r 8) (r 0) (r 9) (r 4) (r 13) (r 7) (r 5) m) (tr (seqQ (f:=fun r m=>Qvs G (r 14) (r 12) (r 0) (r 9) (r 4) (r 13) (r 7) (r 8) (r 5) m) (tr (tr (seqQ (f:=fun r m=>Qvr G (r 12) (r 14) (r 0) (r 13) (r 9) (r 4) (r 7) (r 8) (r 5) m) (tr (seqQ (f:=fun r m=>Qvq G (r 0) (r 12) (r 13) (r 15) (r 9) (r 4) (r 7) (r 14) (r 8) (r 5) m) (tr (seqQ (f:=fun r m=>Qjh G (r 0) (r 12) (r 15) (r 9) (r 4) (r 7) (r 14) (r 8) (r 5) m) (tr (seqQ (f:=fun r m=>Qvp G (r 0) (r 16) (r 9) (r 4) (r 7) (r 14) (r 8) (r 5) m) (tr (seqQ (f:=fun r m=>Qvo G (r 4) (r 9) (r 16) (r 0) (r 7) (r 14) (r 8) (r 5) m) (tr (seqQ (f:=fun r m=>Qvn G (r 16) (r 0) (r 7) (r 14) (r 8) (r 9) (r 5) (r 4) m) (tr (seqQ (f:=fun r m=>Quj G (r 0) (r 7) (r 14) (r 8) (r 16) (r 9) (r 5) (r 17) (r 4) m) (tr (seqQ (f:=fun r m=>Qui G (r 18) (r 0) (r 8) (r 16) (r 9) (r 5) (r 17) (r 4) m) (tr (tr (seqQ (f:=fun r m=>Quc G (r 17) (r 9) (r 8) (r 4) m) (fun r m=>by kernel_rfl)) (seqQ (f:=fun r m=>Quh G (r 114) (r 113) (r 112) (r 0) (r 8) (r 16) (r 9) (r 5) (r 17) (r 4) m) (tr (blockQ (loopQ (fun i r m=>Q1v G i (r 114) (r 113) (r 112) (r 0) (r 8) (r 16) (r 9) (r 5) (r 17) (r 4) m) (fun _ _=>rfl) (fun i0=>tr (seqQ (f:=fun r m=>Qug G (Q1v G i0) (r 115) (r 112) (r 114) (r 0) (r 8) (r 16) (r 9) (r 5) (r 113) (r 4) (r 17) m) (tr (seqQ (f:=fun r m=>Quf G (Q1v G i0) (r 112) (r 114) (r 0) (r 8) (r 16) (r 9) (r 5) (r 113) (r 4) (r 17) m) (tr (tr (seqQ (f:=fun r m=>Qhz G (Q1v G i0) (r 114) (r 113) (r 112) (r 0) (r 8) (r 16) (r 9) (r 5) (r 17) (r 4) m) (fun r m=>by kernel_rfl)) (blockQ (seqQ (f:=fun r m=>Que G (Q1v G i0) (r 0) (r 21) (r 8) (r 16) (r 9) (r 5) (r 114) (r 113) (r 112) (r 4) (r 17) m) (tr (seqQ (f:=fun r m=>Qud G (Q1v G i0) (r 8) (r 22) (r 16) (r 9) (r 5) (r 21) (r 114) (r 113) (r 112) (r 0) (r 4) (r 17) m) (tr (seqQ (f:=fun r m=>Qi0 G (Q1v G i0) (r 5) (r 21) (r 9) (r 114) (r 113) (r 112) (r 0) (r 8) (r 16) (r 17) (r 4) m) (fun r m=>by kernel_rfl)) (fun r m=>by kernel_rfl))) (fun r m=>by kernel_rfl))))) (fun r m=>by kernel_rfl))) (fun r m=>by kernel_rfl))) (fun r m=>by kernel_rfl)))) (fun r m=>by kernel_rfl)))) (fun r m=>by kernel_rfl))) (fun r m=>by kernel_rfl))) (fun r m=>by kernel_rfl))) (fun r m=>by kernel_rfl))) (fun r m=>by kernel_rfl))) (fun r m=>by kernel_rfl))) (fun r m=>by kernel_rfl))) (fun r m=>by kernel_rfl))) (seqQ (f:=fun r m=>Qi1 G (r 52) (r 0) (r 9) (r 4) (r 12) (r 14) (r 13) (r 7) (r 8) (r 5) m) (fun r m=>by kernel_rfl))) (fun r m=>by kernel_rfl))) (fun r m=>by kernel_rfl))) (fun r m=>by kernel_rfl))) (fun r m=>by kernel_rfl))) (fun r m=>by kernel_rfl)) m
def Q1dz:En:=⟨Q10s,Tryz.f68,Tryz.func68,by kernel_rfl,arg6 (fun G a0 a1 a2 a3 a4 a5 m=>Qmp G a1 a2 a3 a0 a4 a5 m),okarg6 Q1eh⟩
def Q3e (G:Gt)(p0 p1:V)(m:M):R:=
  bp (pur (lenK 1 p0 m) m) fun x0 m=>
  bp (conv (.int .u64) x0 m) fun x1 m=>
  bp (G.tab Qb3 [x1] m) fun x2 m=>
  bp (G.tab Q39 [p0,(.int .i64 0),x0,x2,p1] m) fun x3 m=>
  some (.tuple ⟨[]⟩,m)
theorem Qkt (G:Gt)(a0 a1:V)(m:M):ef G Tryz.f69 [a0,a1] m = Q3e G a0 a1 m:=
  evFn_of (r:=fun r m=>Q3e G (r 0) (r 1) m) rfl rfl (fun r m=>by kernel_rfl) m
def Qkj:En:=⟨Q7z,Tryz.f69,Tryz.func69,by kernel_rfl,arg2 Q3e,okarg2 Qkt⟩
def Qpc (G:Gt)(p0 p1:V)(m:M):R:=
  bp (some (aNew Q2f (Value.cells p0).toList m)) fun x0 m=>
  bp (pur (aLoad false 1 x0 m) m) fun x1 m=>
  bp (aBuildSlice Q7o [(.int .i64 0)] 1 1 [(0,p1)] m) fun x2 m=>
  bp (G.tab Q29 [x1,x2] m) fun x3 m=>
  bp (pur (bin .neq true true .int x3 (.int .i64 0)) m) fun x4 m=>
  brb x4
  (some (.tuple ⟨[(.slice none 0 0),x3]⟩,m))
  (bp (some (aNew Q1pl [(.slice none 0 0)] m)) fun x5 m=>
  bp (pur (aLoad false 1 x0 m) m) fun x6 m=>
  bp (conv (.int .i32) p1 m) fun x7 m=>
  bp (G.tab Q175 [x6,x7,(.func (.func Qy3) ⟨[]⟩ ⟨[x5,x0]⟩)] m) fun x8 m=>
  bp (pur (aLoad false 1 x5 m) m) fun x9 m=>
  bp (G.tab Qua [x9] m) fun x10 m=>
  bp (pur (aLoad false 1 x5 m) m) fun x11 m=>
  bp (G.tab Qo7 [x11] m) fun x12 m=>
  some (.tuple ⟨[x12,(.int .i64 0)]⟩,m))
theorem Q1fv (G:Gt)(a0 a1:V)(m:M):ef G Tryz.f73 [a0,a1] m = Qpc G a0 a1 m:=
  evFn_of (r:=fun r m=>Qpc G (r 0) (r 1) m) rfl rfl (fun r m=>by kernel_rfl) m
def Q1fb:En:=⟨Qos,Tryz.f73,Tryz.func73,by kernel_rfl,arg2 Qpc,okarg2 Q1fv⟩
def Qgm (G:Gt)(m:M):R:=
  some ((.int .i64 0),m)
def Q12 (G:Gt):Nat → V → V → V → V → M → R
 | 0,_,_,_,_,_=>none
 | i + 1,p11,p10,p9,p0,m=>
  bp (pur (bin .lss false true .int p11 p10) m) fun x0 m=>
  brb x0
  (bp (pur (aIndexAddrSl 1 p9 p11) m) fun x1 m=>
  bp (pur (aLoad false 1 x1 m) m) fun x2 m=>
  bp (pur (aNilCheck p0) m) fun x3 m=>
  bp (pur (aFieldAddr 5 x3) m) fun x4 m=>
  bp (pur (aLoad false 1 x4 m) m) fun x5 m=>
  bp (pur (aLookup .int (.bool false) false x5 x2 m) m) fun x6 m=>
  bp (pur (un .not x6) m) fun x7 m=>
  brb x7
  (some ((.int .i64 1),m))
  (bp (pur (bin .add true true .int p11 (.int .i64 1)) m) fun x8 m=>
  (Q12 G i) x8 p10 p9 p0 m))
  (Qgm G m)
def Qgn (G:Gt)(p11 p10 p9 p0:V)(m:M):R:=
  Q12 G G.rds p11 p10 p9 p0 m
def Qgo (G:Gt)(p1 p0:V)(m:M):R:=
  bp (pur (lenK 1 p1 m) m) fun x9 m=>
  Qgn G (.int .i64 0) x9 p1 p0 m
def Qgp (G:Gt)(p0 p1:V)(m:M):R:=
  bp (pur (binP m .eql true true .ptr p0 (.pointer none)) m) fun x10 m=>
  brb x10
  (some ((.int .i64 2),m))
  (Qgo G p1 p0 m)
def Q2i (G:Gt)(p0 p1:V)(m:M):R:=
  Qgp G p0 p1 m
theorem Q1ju (G:Gt)(a0 a1:V)(m:M):ef G Tryz.f74 [a0,a1] m = Q2i G a0 a1 m:=
  evFn_of (r:=fun r m=>Q2i G (r 0) (r 1) m) rfl rfl (tr (seqQ (f:=fun r m=>Qgp G (r 0) (r 1) m) (tr (seqQ (f:=fun r m=>Qgo G (r 1) (r 0) m) (tr (tr (seqQ (f:=fun r m=>Qgm G m) (fun r m=>by kernel_rfl)) (seqQ (f:=fun r m=>Qgn G (r 11) (r 10) (r 9) (r 0) m) (tr (blockQ (loopQ (fun i r m=>Q12 G i (r 11) (r 10) (r 9) (r 0) m) (fun _ _=>rfl) (fun i0=>fun r m=>by kernel_rfl))) (fun r m=>by kernel_rfl)))) (fun r m=>by kernel_rfl))) (fun r m=>by kernel_rfl))) (fun r m=>by kernel_rfl)) m
def Qto:En:=⟨Q29,Tryz.f74,Tryz.func74,by kernel_rfl,arg2 Q2i,okarg2 Q1ju⟩
def Qpd (G:Gt)(p6:V)(m:M):R:=
  some (p6,m)
def Q137 (G:Gt)(p0 p5 p9:V)(m:M):R:=
  bp (pur (aLoad false 1 p5 m) m) fun x0 m=>
  bp (G.tab Q177 [p0,x0] m) fun x1 m=>
  brb x1
  (bp (G.tab Qa2 [p9,(.func (.func Q135) ⟨[]⟩ ⟨[p5]⟩)] m) fun x2 m=>
  bp (pur (un .not x2) m) fun x3 m=>
  Qpd G x3 m)
  (Qpd G (.bool false) m)
def Q138 (G:Gt)(p0 p1 p5:V)(m:M):R:=
  bp (G.tab Qos [p0,p1] m) fun x4 m=>
  bp (pur (aExtract x4 0) m) fun x5 m=>
  bp (pur (aExtract x4 1) m) fun x6 m=>
  Q137 G p0 p5 x5 m
def Qpe (G:Gt)(k0:V → V → V → V → V → V → M → R)(p28 p13 p12 p11 p5 p0 p1:V)(m:M):R:=
  brb p28
  (some ((.bool false),m))
  (bp (pur (bin .add true true .int p13 (.int .i64 1)) m) fun x7 m=>
  k0 x7 p12 p11 p5 p0 p1 m)
def Q139 (G:Gt)(k0:V → V → V → V → V → V → M → R)(p7 p8 p5 p13 p12 p11 p0 p1:V)(m:M):R:=
  bp (pur (bin .gtr true true .int p7 (.int .i64 0)) m) fun x8 m=>
  brb x8
  (bp (pur (aLoad false 1 p5 m) m) fun x9 m=>
  bp (pur (bin .sub true true .int p7 (.int .i64 1)) m) fun x10 m=>
  bp (pur (aIndexAddrSl 1 x9 x10) m) fun x11 m=>
  bp (pur (aLoad false 1 x11 m) m) fun x12 m=>
  bp (pur (bin .leq false true .int p8 x12) m) fun x13 m=>
  Qpe G k0 x13 p13 p12 p11 p5 p0 p1 m)
  (Qpe G k0 (.bool false) p13 p12 p11 p5 p0 p1 m)
def Q13a (G:Gt)(k0:V → V → V → V → V → V → M → R)(p13 p11 p5 p12 p0 p1:V)(m:M):R:=
  bp (pur (aIndexAddrSl 1 p11 p13) m) fun x14 m=>
  bp (pur (aLoad false 1 x14 m) m) fun x15 m=>
  Q139 G k0 p13 x15 p5 p13 p12 p11 p0 p1 m
def Q13b (G:Gt)(k0:V → V → V → V → V → V → M → R)(p14 p13 p11 p5 p12 p0 p1:V)(m:M):R:=
  brb p14
  (Q13a G k0 p13 p11 p5 p12 p0 p1 m)
  (Q138 G p0 p1 p5 m)
def Q4x (G:Gt):Nat → V → V → V → V → V → V → M → R
 | 0,_,_,_,_,_,_,_=>none
 | i + 1,p13,p12,p11,p5,p0,p1,m=>
  bp (pur (bin .lss false true .int p13 p12) m) fun x16 m=>
  Q13b G (Q4x G i) x16 p13 p11 p5 p12 p0 p1 m
def Q13c (G:Gt)(p13 p12 p11 p5 p0 p1:V)(m:M):R:=
  Q4x G G.rds p13 p12 p11 p5 p0 p1 m
def Q13d (G:Gt)(p5 p0 p1:V)(m:M):R:=
  bp (pur (aLoad false 1 p5 m) m) fun x17 m=>
  bp (pur (lenK 1 x17 m) m) fun x18 m=>
  Q13c G (.int .i64 0) x18 x17 p5 p0 p1 m
def Quk (G:Gt)(p2 p0 p1:V)(m:M):R:=
  bp (some (aNew Q1pl (Value.cells p2).toList m)) fun x19 m=>
  Q13d G x19 p0 p1 m
theorem Q1jv (G:Gt)(a0 a1 a2:V)(m:M):ef G Tryz.f75 [a0,a1,a2] m = Quk G a2 a0 a1 m:=
  evFn_of (r:=fun r m=>Quk G (r 2) (r 0) (r 1) m) rfl rfl (tr (seqQ (f:=fun r m=>Q13d G (r 5) (r 0) (r 1) m) (tr (tr (seqQ (f:=fun r m=>Q138 G (r 0) (r 1) (r 5) m) (tr (seqQ (f:=fun r m=>Q137 G (r 0) (r 5) (r 9) m) (tr (seqQ (f:=fun r m=>Qpd G (r 6) m) (fun r m=>by kernel_rfl)) (fun r m=>by kernel_rfl))) (fun r m=>by kernel_rfl))) (seqQ (f:=fun r m=>Q13c G (r 13) (r 12) (r 11) (r 5) (r 0) (r 1) m) (tr (blockQ (loopQ (fun i r m=>Q4x G i (r 13) (r 12) (r 11) (r 5) (r 0) (r 1) m) (fun _ _=>rfl) (fun i0=>tr (seqQ (f:=fun r m=>Q13b G (Q4x G i0) (r 14) (r 13) (r 11) (r 5) (r 12) (r 0) (r 1) m) (tr (seqQ (f:=fun r m=>Q13a G (Q4x G i0) (r 13) (r 11) (r 5) (r 12) (r 0) (r 1) m) (tr (tr seqD (blockQ (seqQ (f:=fun r m=>Q139 G (Q4x G i0) (r 7) (r 8) (r 5) (r 13) (r 12) (r 11) (r 0) (r 1) m) (tr (seqQ (f:=fun r m=>Qpe G (Q4x G i0) (r 28) (r 13) (r 12) (r 11) (r 5) (r 0) (r 1) m) (fun r m=>by kernel_rfl)) (fun r m=>by kernel_rfl))))) (fun r m=>by kernel_rfl))) (fun r m=>by kernel_rfl))) (fun r m=>by kernel_rfl)))) (fun r m=>by kernel_rfl)))) (fun r m=>by kernel_rfl))) (fun r m=>by kernel_rfl)) m
def Q1j6:En:=⟨Q16k,Tryz.f75,Tryz.func75,by kernel_rfl,arg3 (fun G a0 a1 a2 m=>Quk G a2 a0 a1 m),okarg3 Q1jv⟩
def Qpf (G:Gt)(p0 p1 p2:V)(m:M):R:=
  bp (pur (bin .lss true true .int p0 (.int .i32 2)) m) fun x0 m=>
  brb x0
  (bp (pur (aLoad false 1 p1 m) m) fun x1 m=>
  bp (pur (lenK 1 x1 m) m) fun x2 m=>
  some (x2,m))
  (bp (pur (aLoad false 1 p1 m) m) fun x3 m=>
  bp (pur (aLoad false 1 p2 m) m) fun x4 m=>
  bp (pur (aNilCheck x4) m) fun x5 m=>
  bp (pur (aFieldAddr 2 x5) m) fun x6 m=>
  bp (pur (aLoad false 1 x6 m) m) fun x7 m=>
  bp (pur (aIndexAddrSl 3 x7 p0) m) fun x8 m=>
  bp (pur (aFieldAddr 0 x8) m) fun x9 m=>
  bp (pur (aLoad false 1 x9 m) m) fun x10 m=>
  bp (conv (.int .i64) x10 m) fun x11 m=>
  bp (G.tab Qgk [x3,x11] m) fun x12 m=>
  some (x12,m))
theorem Q1fw (G:Gt)(a0 a1 a2:V)(m:M):ef G Tryz.f76 [a0,a1,a2] m = Qpf G a0 a1 a2 m:=
  evFn_of (r:=fun r m=>Qpf G (r 0) (r 1) (r 2) m) rfl rfl (fun r m=>by kernel_rfl) m
def Q1fj:En:=⟨Q12j,Tryz.f76,Tryz.func76,by kernel_rfl,arg3 Qpf,okarg3 Q1fw⟩
end
end Go.Ab.Sh

set_option linter.unusedVariables false
set_option maxRecDepth 100000
namespace Go.Ab.Sh
open Go Go.Ab Go.Proofs
noncomputable section
def Qoc (G:Gt)(m:M):R:=
  some ((.int .i64 (-1)),m)
def Qe3 (G:Gt):Nat → V → V → V → V → M → R
 | 0,_,_,_,_,_=>none
 | i + 1,p8,p7,p1,p0,m=>
  bp (pur (bin .lss false true .int p8 p7) m) fun x0 m=>
  brb x0
  (bp (pur (aIndexAddrSl 1 p0 p8) m) fun x1 m=>
  bp (pur (aLoad false 1 x1 m) m) fun x2 m=>
  bp (pur (bin .eql false true .int p1 x2) m) fun x3 m=>
  brb x3
  (some (p8,m))
  (bp (pur (bin .add true true .int p8 (.int .i64 1)) m) fun x4 m=>
  (Qe3 G i) x4 p7 p1 p0 m))
  (Qoc G m)
def Qod (G:Gt)(p8 p7 p1 p0:V)(m:M):R:=
  Qe3 G G.rds p8 p7 p1 p0 m
def Qoe (G:Gt)(p0 p1:V)(m:M):R:=
  bp (pur (lenK 1 p0 m) m) fun x5 m=>
  Qod G (.int .i64 0) x5 p1 p0 m
def Qgq (G:Gt)(p0 p1:V)(m:M):R:=
  Qoe G p0 p1 m
theorem Q19e (G:Gt)(a0 a1:V)(m:M):ef G Tryz.f77 [a0,a1] m = Qgq G a0 a1 m:=
  evFn_of (r:=fun r m=>Qgq G (r 0) (r 1) m) rfl rfl (tr (seqQ (f:=fun r m=>Qoe G (r 0) (r 1) m) (tr (tr (seqQ (f:=fun r m=>Qoc G m) (fun r m=>by kernel_rfl)) (seqQ (f:=fun r m=>Qod G (r 8) (r 7) (r 1) (r 0) m) (tr (blockQ (loopQ (fun i r m=>Qe3 G i (r 8) (r 7) (r 1) (r 0) m) (fun _ _=>rfl) (fun i0=>fun r m=>by kernel_rfl))) (fun r m=>by kernel_rfl)))) (fun r m=>by kernel_rfl))) (fun r m=>by kernel_rfl)) m
def Q192:En:=⟨Qgk,Tryz.f77,Tryz.func77,by kernel_rfl,arg2 Qgq,okarg2 Q19e⟩
def Qyd (G:Gt)(p1 p0 p9 p6:V)(m:M):R:=
  bp (pur (aLoad false 1 p1 m) m) fun x0 m=>
  bp (pur (aLoad true 2 p9 m) m) fun x1 m=>
  bp (unt (aMapUpdate .int x0 p0 x1 m)) fun _ m=>
  bp (pur (aLoad true 2 p9 m) m) fun x2 m=>
  bp (unt (aStore 2 p6 x2 m)) fun _ m=>
  ob (ob (aLoad true 2 p6 m) fun v=>ob (some []) fun l=>some (v :: l)) fun l=>some (resVal l,m)
def Qku (G:Gt):Nat → V → V → V → V → V → V → V → V → V → M → R
 | 0,_,_,_,_,_,_,_,_,_,_=>none
 | i + 1,p41,p40,p39,p3,p4,p0,p9,p1,p6,m=>
  bp (pur (bin .lss false true .int p41 p40) m) fun x3 m=>
  brb x3
  (bp (pur (aIndexAddrSl 1 p39 p41) m) fun x4 m=>
  bp (pur (aLoad false 1 x4 m) m) fun x5 m=>
  bp (pur (aLoad false 1 p3 m) m) fun x6 m=>
  bp (pur (aLoad false 1 p4 m) m) fun x7 m=>
  bp (pur (aLoad false 1 p4 m) m) fun x8 m=>
  bp (some (aNew Qd5 Q31 m)) fun x9 m=>
  bp (evCall G.tab x6 [x5] m) fun x10 m=>
  ckB (again (pur (aLoad false 1 p4 m) m) x7 && (again (pur (aLoad false 1 p4 m) m) x8 && true))
  (bp (evCall G.tab x7 [x5] m) fun x11 m=>
  ckB (again (pur (aLoad false 1 p4 m) m) x8 && true)
  (bp (evCall G.tab x8 [p0] m) fun x12 m=>
  bp (pur (bin .sub false true .int x11 x12) m) fun x13 m=>
  bp (pur (bin .sub true true .int x13 (.int .i64 1)) m) fun x14 m=>
  bp (G.tab Q1cw [x10,x14] m) fun x15 m=>
  bp (unt (aStore 2 x9 x15 m)) fun _ m=>
  bp (pur (aFieldAddr 1 p9) m) fun x16 m=>
  bp (pur (aLoad false 1 x16 m) m) fun x17 m=>
  bp (pur (aFieldAddr 1 x9) m) fun x18 m=>
  bp (pur (aLoad false 1 x18 m) m) fun x19 m=>
  bp (G.tab Q18p [x17,x19,(.int .u64 0)] m) fun x20 m=>
  bp (pur (aExtract x20 0) m) fun x21 m=>
  bp (pur (aExtract x20 1) m) fun x22 m=>
  bp (pur (aFieldAddr 0 p9) m) fun x23 m=>
  bp (pur (aLoad false 1 x23 m) m) fun x24 m=>
  bp (pur (aFieldAddr 0 x9) m) fun x25 m=>
  bp (pur (aLoad false 1 x25 m) m) fun x26 m=>
  bp (pur (bin .add false true .int x24 x26) m) fun x27 m=>
  bp (pur (bin .add false true .int x27 x22) m) fun x28 m=>
  bp (pur (aBuild Q31 [(0,1),(1,1)] [(0,x28),(1,x21)]) m) fun x29 m=>
  bp (unt (aStore 2 p9 x29 m)) fun _ m=>
  bp (pur (bin .add true true .int p41 (.int .i64 1)) m) fun x30 m=>
  (Qku G i) x30 p40 p39 p3 p4 p0 p9 p1 p6 m)))
  (Qyd G p1 p0 p9 p6 m)
def Qye (G:Gt)(p41 p40 p39 p3 p4 p0 p9 p1 p6:V)(m:M):R:=
  Qku G G.rds p41 p40 p39 p3 p4 p0 p9 p1 p6 m
def Qyf (G:Gt)(p2 p0 p3 p4 p9 p1 p6:V)(m:M):R:=
  bp (pur (aLoad false 1 p2 m) m) fun x31 m=>
  bp (pur (aNilCheck x31) m) fun x32 m=>
  bp (pur (aFieldAddr 2 x32) m) fun x33 m=>
  bp (pur (aLoad false 1 x33 m) m) fun x34 m=>
  bp (pur (aIndexAddrSl 3 x34 p0) m) fun x35 m=>
  bp (pur (aFieldAddr 1 x35) m) fun x36 m=>
  bp (pur (aLoad false 1 x36 m) m) fun x37 m=>
  bp (pur (aLoad false 1 p2 m) m) fun x38 m=>
  bp (pur (aNilCheck x38) m) fun x39 m=>
  bp (pur (aFieldAddr 2 x39) m) fun x40 m=>
  bp (pur (aLoad false 1 x40 m) m) fun x41 m=>
  bp (pur (aIndexAddrSl 3 x41 p0) m) fun x42 m=>
  bp (pur (aFieldAddr 2 x42) m) fun x43 m=>
  bp (pur (aLoad false 1 x43 m) m) fun x44 m=>
  bp (aBuildSlice Q2z [(.int .i32 0)] 1 2 [(0,x37),(1,x44)] m) fun x45 m=>
  bp (pur (lenK 1 x45 m) m) fun x46 m=>
  Qye G (.int .i64 0) x46 x45 p3 p4 p0 p9 p1 p6 m
def Qyg (G:Gt)(p2 p0 p3 p4 p1 p6:V)(m:M):R:=
  bp (some (aNew Qd5 Q31 m)) fun x47 m=>
  Qyf G p2 p0 p3 p4 x47 p1 p6 m
def Qyh (G:Gt)(p1 p0 p6 p2 p3 p4:V)(m:M):R:=
  bp (pur (aLoad false 1 p1 m) m) fun x48 m=>
  bp (pur (aLookup .int (.agg #[(.int .u64 0),(.int .u64 0)]) true x48 p0 m) m) fun x49 m=>
  bp (pur (aExtract x49 0) m) fun x50 m=>
  bp (pur (aExtract x49 1) m) fun x51 m=>
  bp (some (aNew Qd5 Q31 m)) fun x52 m=>
  bp (unt (aStore 2 x52 x50 m)) fun _ m=>
  brb x51
  (bp (pur (aLoad true 2 x52 m) m) fun x53 m=>
  bp (unt (aStore 2 p6 x53 m)) fun _ m=>
  ob (ob (aLoad true 2 p6 m) fun v=>ob (some []) fun l=>some (v :: l)) fun l=>some (resVal l,m))
  (Qyg G p2 p0 p3 p4 p1 p6 m)
def Qpg (G:Gt)(p1 p0 p2 p3 p4:V)(m:M):R:=
  bp (some (aNew Qd5 Q31 m)) fun x54 m=>
  Qyh G p1 p0 x54 p2 p3 p4 m
theorem Q1fx (G:Gt)(a0 a1 a2 a3 a4:V)(m:M):ef G Tryz.f78 [a0,a1,a2,a3,a4] m = Qpg G a1 a0 a2 a3 a4 m:=
  evFn_of (r:=fun r m=>Qpg G (r 1) (r 0) (r 2) (r 3) (r 4) m) rfl rfl (tr (seqQ (f:=fun r m=>Qyh G (r 1) (r 0) (r 6) (r 2) (r 3) (r 4) m) (tr (seqQ (f:=fun r m=>Qyg G (r 2) (r 0) (r 3) (r 4) (r 1) (r 6) m) (tr (seqQ (f:=fun r m=>Qyf G (r 2) (r 0) (r 3) (r 4) (r 9) (r 1) (r 6) m) (tr (tr (seqQ (f:=fun r m=>Qyd G (r 1) (r 0) (r 9) (r 6) m) (fun r m=>by kernel_rfl)) (seqQ (f:=fun r m=>Qye G (r 41) (r 40) (r 39) (r 3) (r 4) (r 0) (r 9) (r 1) (r 6) m) (tr (blockQ (loopQ (fun i r m=>Qku G i (r 41) (r 40) (r 39) (r 3) (r 4) (r 0) (r 9) (r 1) (r 6) m) (fun _ _=>rfl) (fun i0=>fun r m=>by kernel_rfl))) (fun r m=>by kernel_rfl)))) (fun r m=>by kernel_rfl))) (fun r m=>by kernel_rfl))) (fun r m=>by kernel_rfl))) (fun r m=>by kernel_rfl)) m
def Q1fn:En:=⟨Q12k,Tryz.f78,Tryz.func78,by kernel_rfl,arg5 (fun G a0 a1 a2 a3 a4 m=>Qpg G a1 a0 a2 a3 a4 m),okarg5 Q1fx⟩
def Q17z (G:Gt)(p2 p1 p4:V)(m:M):R:=
  bp (pur (aFieldAddr 0 p2) m) fun x0 m=>
  bp (pur (aLoad false 1 x0 m) m) fun x1 m=>
  bp (pur (bin .shl false true .int x1 p1) m) fun x2 m=>
  bp (pur (aFieldAddr 1 p2) m) fun x3 m=>
  bp (pur (aLoad false 1 x3 m) m) fun x4 m=>
  bp (pur (bin .sub true true .int (.int .i64 64) p1) m) fun x5 m=>
  bp (pur (bin .shr false true .int x4 x5) m) fun x6 m=>
  bp (pur (bin .or false true .int x2 x6) m) fun x7 m=>
  bp (pur (aFieldAddr 1 p2) m) fun x8 m=>
  bp (pur (aLoad false 1 x8 m) m) fun x9 m=>
  bp (pur (bin .shl false true .int x9 p1) m) fun x10 m=>
  bp (pur (aBuild Q31 [(0,1),(1,1)] [(0,x7),(1,x10)]) m) fun x11 m=>
  bp (unt (aStore 2 p4 x11 m)) fun _ m=>
  ob (ob (aLoad true 2 p4 m) fun v=>ob (some []) fun l=>some (v :: l)) fun l=>some (resVal l,m)
def Q1gr (G:Gt)(p1 p2 p4:V)(m:M):R:=
  bp (pur (bin .geq true true .int p1 (.int .i64 64)) m) fun x12 m=>
  brb x12
  (bp (pur (aFieldAddr 1 p2) m) fun x13 m=>
  bp (pur (aLoad false 1 x13 m) m) fun x14 m=>
  bp (pur (aBuild Q31 [(0,1),(1,1)] [(0,x14)]) m) fun x15 m=>
  bp (pur (bin .sub true true .int p1 (.int .i64 64)) m) fun x16 m=>
  bp (unt (aStore 2 p2 x15 m)) fun _ m=>
  Q17z G p2 x16 p4 m)
  (Q17z G p2 p1 p4 m)
def Q1d5 (G:Gt)(p0 p1:V)(m:M):R:=
  bp (some (aNew Qd5 (Value.cells p0).toList m)) fun x17 m=>
  bp (some (aNew Qd5 Q31 m)) fun x18 m=>
  Q1gr G p1 x17 x18 m
theorem Q1ts (G:Gt)(a0 a1:V)(m:M):ef G Tryz.f79 [a0,a1] m = Q1d5 G a0 a1 m:=
  evFn_of (r:=fun r m=>Q1d5 G (r 0) (r 1) m) rfl rfl (tr (seqQ (f:=fun r m=>Q1gr G (r 1) (r 2) (r 4) m) (tr (seqQ (f:=fun r m=>Q17z G (r 2) (r 1) (r 4) m) (fun r m=>by kernel_rfl)) (fun r m=>by kernel_rfl))) (fun r m=>by kernel_rfl)) m
def Q1tn:En:=⟨Q1cw,Tryz.f79,Tryz.func79,by kernel_rfl,arg2 Q1d5,okarg2 Q1ts⟩
def Q15l (G:Gt)(p12 p2 p1:V)(m:M):R:=
  brb p12
  (some (.tuple ⟨[(.bool false),(.int .i64 1)]⟩,m))
  (bp (pur (aLoad true 5 p2 m) m) fun x0 m=>
  bp (G.tab Q1e8 [x0] m) fun x1 m=>
  bp (some (aNew Q1d3 Q1d4 m)) fun x2 m=>
  bp (unt (aStore 13 x2 x1 m)) fun _ m=>
  bp (pur (bin .quo true true .int p1 (.int .i64 8)) m) fun x3 m=>
  bp (pur (aIndexAddrArr 13 1 x2 x3) m) fun x4 m=>
  bp (pur (aLoad false 1 x4 m) m) fun x5 m=>
  bp (pur (bin .rem true true .int p1 (.int .i64 8)) m) fun x6 m=>
  bp (pur (bin .sub true true .int (.int .i64 7) x6) m) fun x7 m=>
  bp (pur (bin .shr false true .int x5 x7) m) fun x8 m=>
  bp (pur (bin .and true true .int x8 (.int .u8 1)) m) fun x9 m=>
  bp (pur (bin .eql true true .int x9 (.int .u8 1)) m) fun x10 m=>
  some (.tuple ⟨[x10,(.int .i64 0)]⟩,m))
def Q1ei (G:Gt)(p1 p2:V)(m:M):R:=
  bp (pur (bin .lss true true .int p1 (.int .i64 0)) m) fun x11 m=>
  brb x11
  (Q15l G (.bool true) p2 p1 m)
  (bp (pur (bin .geq true true .int p1 (.int .i64 104)) m) fun x12 m=>
  Q15l G x12 p2 p1 m)
def Q1as (G:Gt)(p0 p1:V)(m:M):R:=
  bp (some (aNew Q12n (Value.cells p0).toList m)) fun x13 m=>
  Q1ei G p1 x13 m
theorem Q1sm (G:Gt)(a0 a1:V)(m:M):ef G Tryz.f81 [a0,a1] m = Q1as G a0 a1 m:=
  evFn_of (r:=fun r m=>Q1as G (r 0) (r 1) m) rfl rfl (tr (seqQ (f:=fun r m=>Q1ei G (r 1) (r 2) m) (tr (tr seqD (seqQ (f:=fun r m=>Q15l G (r 12) (r 2) (r 1) m) (fun r m=>by kernel_rfl))) (fun r m=>by kernel_rfl))) (fun r m=>by kernel_rfl)) m
def Q1sc:En:=⟨Q1jh,Tryz.f81,Tryz.func81,by kernel_rfl,arg2 Q1as,okarg2 Q1sm⟩
def Q6i (G:Gt)(p0 p1 p2 p3:V)(m:M):R:=
  bp (pur (aNilCheck p0) m) fun x0 m=>
  bp (pur (aFieldAddr 2 x0) m) fun x1 m=>
  bp (pur (aLoad false 1 x1 m) m) fun x2 m=>
  bp (pur (aIndexAddrSl 3 x2 p1) m) fun x3 m=>
  bp (pur (aLoad true 3 x3 m) m) fun x4 m=>
  bp (some (aNew Qu Q8m m)) fun x5 m=>
  bp (unt (aStore 3 x5 x4 m)) fun _ m=>
  bp (pur (aFieldAddr 0 x5) m) fun x6 m=>
  bp (pur (aLoad false 1 x6 m) m) fun x7 m=>
  bp (pur (bin .neq false true .int x7 p2) m) fun x8 m=>
  brb x8
  (some (p1,m))
  (brb p3
  (bp (pur (aFieldAddr 2 x5) m) fun x9 m=>
  bp (pur (aLoad false 1 x9 m) m) fun x10 m=>
  some (x10,m))
  (bp (pur (aFieldAddr 1 x5) m) fun x11 m=>
  bp (pur (aLoad false 1 x11 m) m) fun x12 m=>
  some (x12,m)))
theorem Q1mz (G:Gt)(a0 a1 a2 a3:V)(m:M):ef G Tryz.f82 [a0,a1,a2,a3] m = Q6i G a0 a1 a2 a3 m:=
  evFn_of (r:=fun r m=>Q6i G (r 0) (r 1) (r 2) (r 3) m) rfl rfl (fun r m=>by kernel_rfl) m
def Qzv:En:=⟨Q64,Tryz.f82,Tryz.func82,by kernel_rfl,arg4 Q6i,okarg4 Q1mz⟩
def Q10d (G:Gt)(p0 p1 p2 p3:V)(m:M):R:=
  bp (aBuildSlice Q7o [(.int .i64 0)] 1 2 [(0,p1),(1,p2)] m) fun x0 m=>
  bp (G.tab Qb2 [p0,x0,(.slice none 0 0)] m) fun x1 m=>
  bp (pur (bin .neq true true .int x1 (.int .i64 0)) m) fun x2 m=>
  brb x2
  (some (.tuple ⟨[(.int .i64 0),x1]⟩,m))
  (bp (evCall G.tab p3 [p1,p2] m) fun x3 m=>
  bp (pur (aExtract x3 0) m) fun x4 m=>
  bp (pur (aExtract x3 1) m) fun x5 m=>
  some (.tuple ⟨[x4,x5]⟩,m))
theorem Q1n0 (G:Gt)(a0 a1 a2 a3:V)(m:M):ef G Tryz.f83 [a0,a1,a2,a3] m = Q10d G a0 a1 a2 a3 m:=
  evFn_of (r:=fun r m=>Q10d G (r 0) (r 1) (r 2) (r 3) m) rfl rfl (fun r m=>by kernel_rfl) m
def Q1mp:En:=⟨Qov,Tryz.f83,Tryz.func83,by kernel_rfl,arg4 Q10d,okarg4 Q1n0⟩
def Qhw (G:Gt)(p0 p1 p2:V)(m:M):R:=
  bp (G.tab Q2q [p0,p1,p2,(.int .i64 0)] m) fun x0 m=>
  bp (pur (aExtract x0 0) m) fun x1 m=>
  bp (pur (aExtract x0 1) m) fun x2 m=>
  some (.tuple ⟨[x1,x2]⟩,m)
theorem Q1n1 (G:Gt)(a0 a1 a2:V)(m:M):ef G Tryz.f84 [a0,a1,a2] m = Qhw G a0 a1 a2 m:=
  evFn_of (r:=fun r m=>Qhw G (r 0) (r 1) (r 2) m) rfl rfl (fun r m=>by kernel_rfl) m
def Qzs:En:=⟨Qhj,Tryz.f84,Tryz.func84,by kernel_rfl,arg3 Qhw,okarg3 Q1n1⟩
def Qk6 (G:Gt)(p0 p1 p2:V)(m:M):R:=
  bp (G.tab Q2q [p0,p1,(.int .i64 1),p2] m) fun x0 m=>
  bp (pur (aExtract x0 0) m) fun x1 m=>
  bp (pur (aExtract x0 1) m) fun x2 m=>
  some (.tuple ⟨[x1,x2]⟩,m)
theorem Q1o9 (G:Gt)(a0 a1 a2:V)(m:M):ef G Tryz.f85 [a0,a1,a2] m = Qk6 G a0 a1 a2 m:=
  evFn_of (r:=fun r m=>Qk6 G (r 0) (r 1) (r 2) m) rfl rfl (fun r m=>by kernel_rfl) m
def Q12g:En:=⟨Qso,Tryz.f85,Tryz.func85,by kernel_rfl,arg3 Qk6,okarg3 Q1o9⟩
def Qyi (G:Gt)(p2:V)(m:M):R:=
  bp (pur (aBuild Q65 [(0,1),(1,1)] []) m) fun x0 m=>
  bp (unt (aStore 2 p2 x0 m)) fun _ m=>
  ob (ob (aLoad true 2 p2 m) fun v=>ob (some [(.int .i64 0)]) fun l=>some (v :: l)) fun l=>some (resVal l,m)
def Qkv (G:Gt)(k0:V → V → V → V → M → R)(p5 p0 p4 p2:V)(m:M):R:=
  bp (pur (bin .add true true .int p5 (.int .i64 1)) m) fun x1 m=>
  k0 x1 p0 p4 p2 m
def Qji (G:Gt)(k0:V → V → V → V → M → R)(p36 p0 p5 p2 p4:V)(m:M):R:=
  brb p36
  (bp (G.tab Q18q [p0,p5] m) fun x3 m=>
  bp (unt (aStore 2 p2 x3 m)) fun _ m=>
  ob (ob (aLoad true 2 p2 m) fun v=>ob (some [(.int .i64 70)]) fun l=>some (v :: l)) fun l=>some (resVal l,m))
  (Qkv G k0 p5 p0 p4 p2 m)
def Qyj (G:Gt)(k0:V → V → V → V → M → R)(p24 p4 p5 p0 p2:V)(m:M):R:=
  brb p24
  (bp (pur (bin .add true true .int p4 (.int .i64 1)) m) fun x2 m=>
  Qkv G k0 p5 p0 x2 p2 m)
  (bp (pur (aIndexStr p0 p5) m) fun x4 m=>
  bp (pur (bin .lss true true .int x4 (.int .u8 32)) m) fun x5 m=>
  brb x5
  (Qji G k0 (.bool true) p0 p5 p2 p4 m)
  (bp (pur (aIndexStr p0 p5) m) fun x6 m=>
  bp (pur (bin .gtr true true .int x6 (.int .u8 126)) m) fun x7 m=>
  Qji G k0 x7 p0 p5 p2 p4 m))
def Qyk (G:Gt)(k0:V → V → V → V → M → R)(p0 p5 p4 p2:V)(m:M):R:=
  bp (pur (aIndexStr p0 p5) m) fun x8 m=>
  bp (pur (bin .eql true true .int x8 (.int .u8 10)) m) fun x9 m=>
  Qyj G k0 x9 p4 p5 p0 p2 m
def Qyl (G:Gt)(k0:V → V → V → V → M → R)(p4 p0 p5 p2:V)(m:M):R:=
  bp (pur (bin .gtr true true .int p4 (.int .i64 4096)) m) fun x10 m=>
  brb x10
  (bp (G.tab Q18q [p0,p5] m) fun x11 m=>
  bp (unt (aStore 2 p2 x11 m)) fun _ m=>
  ob (ob (aLoad true 2 p2 m) fun v=>ob (some [(.int .i64 3)]) fun l=>some (v :: l)) fun l=>some (resVal l,m))
  (Qyk G k0 p0 p5 p4 p2 m)
def Q2j (G:Gt):Nat → V → V → V → V → M → R
 | 0,_,_,_,_,_=>none
 | i + 1,p5,p0,p4,p2,m=>
  bp (pur (lenK 0 p0 m) m) fun x12 m=>
  bp (pur (bin .lss false true .int p5 x12) m) fun x13 m=>
  brb x13
  (Qyl G (Q2j G i) p4 p0 p5 p2 m)
  (Qyi G p2 m)
def Qym (G:Gt)(p5 p0 p4 p2:V)(m:M):R:=
  Q2j G G.rds p5 p0 p4 p2 m
def Qyn (G:Gt)(p0 p4 p2:V)(m:M):R:=
  Qym G (.int .i64 0) p0 p4 p2 m
def Qyo (G:Gt)(p0 p2:V)(m:M):R:=
  Qyn G p0 (.int .i64 1) p2 m
def Qyp (G:Gt)(p0 p2:V)(m:M):R:=
  bp (pur (lenK 0 p0 m) m) fun x14 m=>
  bp (pur (bin .gtr true true .int x14 (.int .i64 65536)) m) fun x15 m=>
  brb x15
  (bp (pur (aBuild Q65 [(0,1),(1,1)] []) m) fun x16 m=>
  bp (unt (aStore 2 p2 x16 m)) fun _ m=>
  ob (ob (aLoad true 2 p2 m) fun v=>ob (some [(.int .i64 3)]) fun l=>some (v :: l)) fun l=>some (resVal l,m))
  (Qyo G p0 p2 m)
def Qph (G:Gt)(p0:V)(m:M):R:=
  bp (some (aNew Qo0 Q65 m)) fun x17 m=>
  Qyp G p0 x17 m
theorem Q1fy (G:Gt)(a0:V)(m:M):ef G Tryz.f88 [a0] m = Qph G a0 m:=
  evFn_of (r:=fun r m=>Qph G (r 0) m) rfl rfl (tr (seqQ (f:=fun r m=>Qyp G (r 0) (r 2) m) (tr (seqQ (f:=fun r m=>Qyo G (r 0) (r 2) m) (tr (seqQ (f:=fun r m=>Qyn G (r 0) (r 4) (r 2) m) (tr (tr (seqQ (f:=fun r m=>Qyi G (r 2) m) (fun r m=>by kernel_rfl)) (seqQ (f:=fun r m=>Qym G (r 5) (r 0) (r 4) (r 2) m) (tr (blockQ (loopQ (fun i r m=>Q2j G i (r 5) (r 0) (r 4) (r 2) m) (fun _ _=>rfl) (fun i0=>tr (seqQ (f:=fun r m=>Qyl G (Q2j G i0) (r 4) (r 0) (r 5) (r 2) m) (tr (tr (seqQ (f:=fun r m=>Qkv G (Q2j G i0) (r 5) (r 0) (r 4) (r 2) m) (fun r m=>by kernel_rfl)) (blockQ (seqQ (f:=fun r m=>Qyk G (Q2j G i0) (r 0) (r 5) (r 4) (r 2) m) (tr (seqQ (f:=fun r m=>Qyj G (Q2j G i0) (r 24) (r 4) (r 5) (r 0) (r 2) m) (tr (condQ (refQ) (seqQ (f:=fun r m=>Qji G (Q2j G i0) (r 36) (r 0) (r 5) (r 2) (r 4) m) (fun r m=>by kernel_rfl))) (fun r m=>by kernel_rfl))) (fun r m=>by kernel_rfl))))) (fun r m=>by kernel_rfl))) (fun r m=>by kernel_rfl)))) (fun r m=>by kernel_rfl)))) (fun r m=>by kernel_rfl))) (fun r m=>by kernel_rfl))) (fun r m=>by kernel_rfl))) (fun r m=>by kernel_rfl)) m
def Q1fh:En:=⟨Q12r,Tryz.f88,Tryz.func88,by kernel_rfl,arg1 Qph,okarg1 Q1fy⟩
end
end Go.Ab.Sh
