/-
  Functions of the program as plain definitions. No conditions.
-/
import Derived.Test.YtoahkkdbdiamcaaGreatDoorAb5
import Derived.Test.YtoahkkdbdiamcaaGreatDoorZ
import Derived.KernelRfl
import Derived.Test.YtoahkkdbdiamcaaGreatDoorProg
set_option linter.unusedVariables false
set_option maxRecDepth 100000
namespace Go.Ab.Sh
open Go Go.Ab Go.Proofs
noncomputable section
def Qvx (G:Gt)(p5 p4:V)(m:M):R:=
  bp (pur (aFieldAddr 8 p5) m) fun x0 m=>
  bp (pur (aLoad false 1 x0 m) m) fun x1 m=>
  bp (G.tab Qag [x1,(.func (.func Q1hn) #[] #[])] m) fun x2 m=>
  bp (pur (aLoad true 9 p5 m) m) fun x3 m=>
  bp (unt (aStore 9 p4 x3 m)) fun _ m=>
  ob (ob (aLoad true 9 p4 m) fun v=>ob (some []) fun l=>some (v :: l)) fun l=>some (resVal l,m)
def Qvy (G:Gt)(k0:V → V → V → V → M → R)(p27 p5 p195 p2 p4:V)(m:M):R:=
  bp (pur (aFieldAddr 2 p27) m) fun x4 m=>
  bp (pur (aLoad false 1 x4 m) m) fun x5 m=>
  bp (pur (lenK 1 x5 m) m) fun x6 m=>
  bp (pur (bin .gtr true true .int x6 (.int .i64 0)) m) fun x7 m=>
  brb x7
  (bp (pur (aFieldAddr 8 p5) m) fun x8 m=>
  bp (pur (aLoad false 1 x8 m) m) fun x9 m=>
  bp (pur (aLoad true 3 p27 m) m) fun x10 m=>
  bp (aBuildSlice Q14k Q14l 3 1 [(0,x10)] m) fun x11 m=>
  bp (apS Q14k 3 40 x9 x11 m) fun x12 m=>
  bp (pur (aFieldAddr 8 p5) m) fun x13 m=>
  bp (unt (aStore 1 x13 x12 m)) fun _ m=>
  k0 p195 p2 p5 p4 m)
  (k0 p195 p2 p5 p4 m)
def Qjl (G:Gt)(k1:V → V → V → V → V → V → V → V → M → R)(p205 p204 p203 p2 p27 p5 p195 p4:V)(m:M):R:=
  bp (pur (bin .add true true .int p205 (.int .i64 1)) m) fun x14 m=>
  k1 x14 p204 p203 p2 p27 p5 p195 p4 m
def Qvz (G:Gt)(k1:V → V → V → V → V → V → V → V → M → R)(p203 p205 p2 p27 p204 p5 p195 p4:V)(m:M):R:=
  bp (pur (aIndexAddrSl 5 p203 p205) m) fun x15 m=>
  bp (pur (aLoad true 5 x15 m) m) fun x16 m=>
  bp (some (aNew Q8s Qkk m)) fun x17 m=>
  bp (unt (aStore 5 x17 x16 m)) fun _ m=>
  bp (pur (aLoad false 1 p2 m) m) fun x18 m=>
  bp (pur (aLoad true 5 x17 m) m) fun x19 m=>
  bp (G.tab Qg1 [x18,x19,(.int .i64 1)] m) fun x20 m=>
  bp (pur (bin .neq true true .int x20 (.int .i64 0)) m) fun x21 m=>
  brb x21
  (bp (pur (aFieldAddr 2 p27) m) fun x22 m=>
  bp (pur (aLoad false 1 x22 m) m) fun x23 m=>
  bp (pur (aLoad true 5 x17 m) m) fun x24 m=>
  bp (aBuildSlice Q8s Qkk 5 1 [(0,x24)] m) fun x25 m=>
  bp (apS Q8s 5 40 x23 x25 m) fun x26 m=>
  bp (pur (aFieldAddr 2 p27) m) fun x27 m=>
  bp (unt (aStore 1 x27 x26 m)) fun _ m=>
  Qjl G k1 p205 p204 p203 p2 p27 p5 p195 p4 m)
  (Qjl G k1 p205 p204 p203 p2 p27 p5 p195 p4 m)
def Qw0 (G:Gt)(k1:V → V → V → V → V → V → V → V → M → R)(k0:V → V → V → V → M → R)(p206 p203 p205 p2 p27 p204 p5 p195 p4:V)(m:M):R:=
  brb p206
  (Qvz G k1 p203 p205 p2 p27 p204 p5 p195 p4 m)
  (Qvy G k0 p27 p5 p195 p2 p4 m)
def Q4a (G:Gt)(k0:V → V → V → V → M → R):Nat → V → V → V → V → V → V → V → V → M → R
 | 0,_,_,_,_,_,_,_,_,_=>none
 | i + 1,p205,p204,p203,p2,p27,p5,p195,p4,m=>
  bp (pur (bin .lss false true .int p205 p204) m) fun x28 m=>
  Qw0 G (Q4a G k0 i) k0 x28 p203 p205 p2 p27 p204 p5 p195 p4 m
def Qw1 (G:Gt)(k0:V → V → V → V → M → R)(p205 p204 p203 p2 p27 p5 p195 p4:V)(m:M):R:=
  Q4a G k0 G.rds p205 p204 p203 p2 p27 p5 p195 p4 m
def Qw2 (G:Gt)(k0:V → V → V → V → M → R)(p26 p2 p27 p5 p195 p4:V)(m:M):R:=
  bp (pur (lenK 1 p26 m) m) fun x29 m=>
  Qw1 G k0 (.int .i64 0) x29 p26 p2 p27 p5 p195 p4 m
def Qw3 (G:Gt)(k0:V → V → V → V → M → R)(p25 p26 p2 p5 p195 p4:V)(m:M):R:=
  bp (pur (aLoad true 2 p25 m) m) fun x30 m=>
  bp (pur (aBuild Q14l [(0,2),(2,1)] [(0,x30)]) m) fun x31 m=>
  bp (some (aNew Q14k Q14l m)) fun x32 m=>
  bp (unt (aStore 3 x32 x31 m)) fun _ m=>
  Qw2 G k0 p26 p2 x32 p5 p195 p4 m
def Qw4 (G:Gt)(k0:V → V → V → V → M → R)(p195 p2 p5 p4:V)(m:M):R:=
  bp (pur (aEntry p195 m) m) fun x33 m=>
  bp (pur (aExtract x33 0) m) fun x34 m=>
  bp (pur (aExtract x33 1) m) fun x35 m=>
  bp (some (aNew Q7 Qo m)) fun x36 m=>
  bp (unt (aStore 2 x36 x34 m)) fun _ m=>
  Qw3 G k0 x36 x35 p2 p5 p195 p4 m
def Qw5 (G:Gt)(k0:V → V → V → V → M → R)(p197 p195 p2 p5 p4:V)(m:M):R:=
  brb p197
  (Qw4 G k0 p195 p2 p5 p4 m)
  (Qvx G p5 p4 m)
def Qv (G:Gt):Nat → V → V → V → V → M → R
 | 0,_,_,_,_,_=>none
 | i + 1,p195,p2,p5,p4,m=>
  bp (aNextMap p195 m) fun x37 m=>
  bp (pur (aExtract x37 0) m) fun x38 m=>
  Qw5 G (Qv G i) x38 p195 p2 p5 p4 m
def Qw6 (G:Gt)(p195 p2 p5 p4:V)(m:M):R:=
  Qv G G.rds p195 p2 p5 p4 m
def Qw7 (G:Gt)(p18 p2 p5 p4:V)(m:M):R:=
  bp (aRangeMap p18 m) fun x39 m=>
  Qw6 G x39 p2 p5 p4 m
def Qw8 (G:Gt)(p11 p15 p18 p2 p5 p4:V)(m:M):R:=
  bp (evCall G.tab p11 [(.int .u8 4),p15] m) fun x40 m=>
  Qw7 G p18 p2 p5 p4 m
def Qjm (G:Gt)(k0:V → V → V → V → V → V → V → V → V → V → V → V → V → M → R)(p130 p129 p128 p2 p15 p11 p3 p8 p9 p10 p18 p5 p4:V)(m:M):R:=
  bp (pur (bin .add true true .int p130 (.int .i64 1)) m) fun x41 m=>
  k0 x41 p129 p128 p2 p15 p11 p3 p8 p9 p10 p18 p5 p4 m
def Qjn (G:Gt)(k0:V → V → V → V → V → V → V → V → V → V → V → V → V → M → R):Nat → V → V → V → V → V → V → V → V → V → V → V → V → V → V → V → V → V → M → R
 | 0,_,_,_,_,_,_,_,_,_,_,_,_,_,_,_,_,_,_=>none
 | i + 1,p175,p174,p173,p2,p3,p8,p9,p22,p10,p18,p130,p129,p128,p15,p11,p5,p4,m=>
  bp (pur (bin .lss false true .int p175 p174) m) fun x42 m=>
  brb x42
  (bp (pur (aIndexAddrSl 2 p173 p175) m) fun x43 m=>
  bp (pur (aLoad true 2 x43 m) m) fun x44 m=>
  bp (some (aNew Qeh Qk0 m)) fun x45 m=>
  bp (unt (aStore 2 x45 x44 m)) fun _ m=>
  bp (pur (aLoad false 1 p2 m) m) fun x46 m=>
  bp (pur (aLoad true 2 p3 m) m) fun x47 m=>
  bp (pur (aLoad true 2 x45 m) m) fun x48 m=>
  bp (pur (aLoad false 1 p8 m) m) fun x49 m=>
  bp (pur (aLoad false 1 p9 m) m) fun x50 m=>
  bp (pur (aBuild Qkk [(0,1),(1,1),(2,1),(3,1),(4,1)] [(0,x49),(1,x50),(2,p22)]) m) fun x51 m=>
  bp (pur (aLoad false 1 p10 m) m) fun x52 m=>
  bp (G.tab Q160 [x46,x47,x48,x51,x52,p18] m) fun x53 m=>
  bp (pur (bin .add true true .int p175 (.int .i64 1)) m) fun x54 m=>
  (Qjn G k0 i) x54 p174 p173 p2 p3 p8 p9 p22 p10 p18 p130 p129 p128 p15 p11 p5 p4 m)
  (Qjm G k0 p130 p129 p128 p2 p15 p11 p3 p8 p9 p10 p18 p5 p4 m)
def Qw9 (G:Gt)(k0:V → V → V → V → V → V → V → V → V → V → V → V → V → M → R)(p175 p174 p173 p2 p3 p8 p9 p22 p10 p18 p130 p129 p128 p15 p11 p5 p4:V)(m:M):R:=
  Qjn G k0 G.rds p175 p174 p173 p2 p3 p8 p9 p22 p10 p18 p130 p129 p128 p15 p11 p5 p4 m
def Qwa (G:Gt)(k0:V → V → V → V → V → V → V → V → V → V → V → V → V → M → R)(p20 p2 p3 p8 p9 p22 p10 p18 p130 p129 p128 p15 p11 p5 p4:V)(m:M):R:=
  bp (pur (aFieldAddr 3 p20) m) fun x55 m=>
  bp (pur (aLoad false 1 x55 m) m) fun x56 m=>
  bp (pur (lenK 1 x56 m) m) fun x57 m=>
  Qw9 G k0 (.int .i64 0) x57 x56 p2 p3 p8 p9 p22 p10 p18 p130 p129 p128 p15 p11 p5 p4 m
def Qwb (G:Gt)(k0:V → V → V → V → V → V → V → V → V → V → V → V → V → M → R)(p20 p11 p22 p130 p129 p128 p2 p15 p3 p8 p9 p10 p18 p5 p4:V)(m:M):R:=
  bp (pur (aFieldAddr 2 p20) m) fun x58 m=>
  bp (pur (aLoad false 1 x58 m) m) fun x59 m=>
  brb x59
  (bp (evCall G.tab p11 [(.int .u8 5),p22] m) fun x60 m=>
  Qjm G k0 p130 p129 p128 p2 p15 p11 p3 p8 p9 p10 p18 p5 p4 m)
  (Qwa G k0 p20 p2 p3 p8 p9 p22 p10 p18 p130 p129 p128 p15 p11 p5 p4 m)
def Qwc (G:Gt)(k0:V → V → V → V → V → V → V → V → V → V → V → V → V → M → R)(p2 p15 p21 p20 p11 p22 p130 p129 p128 p3 p8 p9 p10 p18 p5 p4:V)(m:M):R:=
  bp (pur (aLoad false 1 p2 m) m) fun x61 m=>
  bp (pur (aLoad false 1 p2 m) m) fun x62 m=>
  bp (pur (aNilCheck x62) m) fun x63 m=>
  bp (pur (aFieldAddr 0 x63) m) fun x64 m=>
  bp (pur (aLoad false 1 x64 m) m) fun x65 m=>
  bp (G.tab Q11e [x65,p15,p21] m) fun x66 m=>
  ckB (again (pur (aLoad false 1 p2 m) m) x61 && true)
  (bp (pur (aExtract x66 0) m) fun x67 m=>
  bp (pur (aExtract x66 1) m) fun x68 m=>
  bp (G.tab Qb [x61,x67,x68] m) fun x69 m=>
  Qwb G k0 p20 p11 p22 p130 p129 p128 p2 x69 p3 p8 p9 p10 p18 p5 p4 m)
def Qwd (G:Gt)(k0:V → V → V → V → V → V → V → V → V → V → V → V → V → M → R)(p2 p15 p21 p20 p11 p130 p129 p128 p3 p8 p9 p10 p18 p5 p4:V)(m:M):R:=
  bp (pur (aLoad false 1 p2 m) m) fun x70 m=>
  bp (pur (aLoad false 1 p2 m) m) fun x71 m=>
  bp (pur (aNilCheck x71) m) fun x72 m=>
  bp (pur (aFieldAddr 0 x72) m) fun x73 m=>
  bp (pur (aLoad false 1 x73 m) m) fun x74 m=>
  bp (G.tab Qc5 [x74,p15,p21] m) fun x75 m=>
  ckB (again (pur (aLoad false 1 p2 m) m) x70 && true)
  (bp (pur (aExtract x75 0) m) fun x76 m=>
  bp (pur (aExtract x75 1) m) fun x77 m=>
  bp (G.tab Qb [x70,x76,x77] m) fun x78 m=>
  Qwc G k0 p2 p15 p21 p20 p11 x78 p130 p129 p128 p3 p8 p9 p10 p18 p5 p4 m)
def Qwe (G:Gt)(k0:V → V → V → V → V → V → V → V → V → V → V → V → V → M → R)(p2 p20 p15 p11 p130 p129 p128 p3 p8 p9 p10 p18 p5 p4:V)(m:M):R:=
  bp (pur (aLoad false 1 p2 m) m) fun x79 m=>
  bp (pur (aLoad false 1 p2 m) m) fun x80 m=>
  bp (pur (aNilCheck x80) m) fun x81 m=>
  bp (pur (aFieldAddr 0 x81) m) fun x82 m=>
  bp (pur (aLoad false 1 x82 m) m) fun x83 m=>
  bp (pur (aFieldAddr 0 p20) m) fun x84 m=>
  bp (pur (aLoad true 2 x84 m) m) fun x85 m=>
  bp (G.tab Quq [x83,(.int .i64 1),x85] m) fun x86 m=>
  ckB (again (pur (aLoad false 1 p2 m) m) x79 && true)
  (bp (pur (aExtract x86 0) m) fun x87 m=>
  bp (pur (aExtract x86 1) m) fun x88 m=>
  bp (G.tab Qb [x79,x87,x88] m) fun x89 m=>
  Qwd G k0 p2 p15 x89 p20 p11 p130 p129 p128 p3 p8 p9 p10 p18 p5 p4 m)
def Qwf (G:Gt)(k0:V → V → V → V → V → V → V → V → V → V → V → V → V → M → R)(p128 p130 p2 p15 p11 p129 p3 p8 p9 p10 p18 p5 p4:V)(m:M):R:=
  bp (pur (aIndexAddrSl 4 p128 p130) m) fun x90 m=>
  bp (pur (aLoad true 4 x90 m) m) fun x91 m=>
  bp (some (aNew Q3f Qaf m)) fun x92 m=>
  bp (unt (aStore 4 x92 x91 m)) fun _ m=>
  Qwe G k0 p2 x92 p15 p11 p130 p129 p128 p3 p8 p9 p10 p18 p5 p4 m
def Qwg (G:Gt)(k0:V → V → V → V → V → V → V → V → V → V → V → V → V → M → R)(p131 p128 p130 p2 p15 p11 p129 p3 p8 p9 p10 p18 p5 p4:V)(m:M):R:=
  brb p131
  (Qwf G k0 p128 p130 p2 p15 p11 p129 p3 p8 p9 p10 p18 p5 p4 m)
  (Qw8 G p11 p15 p18 p2 p5 p4 m)
def Q10 (G:Gt):Nat → V → V → V → V → V → V → V → V → V → V → V → V → V → M → R
 | 0,_,_,_,_,_,_,_,_,_,_,_,_,_,_=>none
 | i + 1,p130,p129,p128,p2,p15,p11,p3,p8,p9,p10,p18,p5,p4,m=>
  bp (pur (bin .lss false true .int p130 p129) m) fun x93 m=>
  Qwg G (Q10 G i) x93 p128 p130 p2 p15 p11 p129 p3 p8 p9 p10 p18 p5 p4 m
def Qwh (G:Gt)(p130 p129 p128 p2 p15 p11 p3 p8 p9 p10 p18 p5 p4:V)(m:M):R:=
  Q10 G G.rds p130 p129 p128 p2 p15 p11 p3 p8 p9 p10 p18 p5 p4 m
def Qwi (G:Gt)(p16 p2 p15 p11 p3 p8 p9 p10 p18 p5 p4:V)(m:M):R:=
  bp (pur (lenK 1 p16 m) m) fun x94 m=>
  Qwh G (.int .i64 0) x94 p16 p2 p15 p11 p3 p8 p9 p10 p18 p5 p4 m
def Qwj (G:Gt)(p16 p2 p15 p11 p3 p8 p9 p10 p5 p4:V)(m:M):R:=
  bp (some (aMakeMap m)) fun x95 m=>
  Qwi G p16 p2 p15 p11 p3 p8 p9 p10 x95 p5 p4 m
def Qwk (G:Gt)(p16 p2 p15 p11 p3 p8 p9 p10 p5 p4:V)(m:M):R:=
  bp (G.tab Qdw [p16,(.func (.func Qxm) #[] #[])] m) fun x96 m=>
  Qwj G p16 p2 p15 p11 p3 p8 p9 p10 p5 p4 m
def Qwl (G:Gt)(p2 p3 p7 p15 p11 p8 p9 p10 p5 p4:V)(m:M):R:=
  bp (pur (aLoad false 1 p2 m) m) fun x97 m=>
  bp (pur (aNilCheck x97) m) fun x98 m=>
  bp (pur (aFieldAddr 1 x98) m) fun x99 m=>
  bp (pur (aLoad false 1 x99 m) m) fun x100 m=>
  bp (pur (aFieldAddr 0 p3) m) fun x101 m=>
  bp (pur (aLoad false 1 x101 m) m) fun x102 m=>
  bp (pur (aFieldAddr 1 p7) m) fun x103 m=>
  bp (pur (aLoad false 1 x103 m) m) fun x104 m=>
  bp (G.tab Q1a8 [x100,x102,x104] m) fun x105 m=>
  bp (pur (aExtract x105 0) m) fun x106 m=>
  bp (pur (aExtract x105 1) m) fun x107 m=>
  Qwk G x106 p2 p15 p11 p3 p8 p9 p10 p5 p4 m
def Qwm (G:Gt)(p2 p12 p3 p7 p11 p8 p9 p10 p5 p4:V)(m:M):R:=
  bp (pur (aLoad false 1 p2 m) m) fun x108 m=>
  bp (pur (aLoad false 1 p2 m) m) fun x109 m=>
  bp (pur (aNilCheck x109) m) fun x110 m=>
  bp (pur (aFieldAddr 0 x110) m) fun x111 m=>
  bp (pur (aLoad false 1 x111 m) m) fun x112 m=>
  bp (G.tab Qse [x112,p12] m) fun x113 m=>
  ckB (again (pur (aLoad false 1 p2 m) m) x108 && true)
  (bp (pur (aExtract x113 0) m) fun x114 m=>
  bp (pur (aExtract x113 1) m) fun x115 m=>
  bp (G.tab Qb [x108,x114,x115] m) fun x116 m=>
  Qwl G p2 p3 p7 x116 p11 p8 p9 p10 p5 p4 m)
def Qwn (G:Gt)(p11 p12 p2 p3 p7 p8 p9 p10 p5 p4:V)(m:M):R:=
  bp (evCall G.tab p11 [(.int .u8 1),p12] m) fun x117 m=>
  Qwm G p2 p12 p3 p7 p11 p8 p9 p10 p5 p4 m
def Qjo (G:Gt)(k0:V → V → V → V → V → V → V → V → V → V → V → V → V → M → R)(p72 p71 p70 p7 p2 p12 p11 p3 p8 p9 p10 p5 p4:V)(m:M):R:=
  bp (pur (bin .add true true .int p72 (.int .i64 1)) m) fun x118 m=>
  k0 x118 p71 p70 p7 p2 p12 p11 p3 p8 p9 p10 p5 p4 m
def Qjp (G:Gt)(k0:V → V → V → V → V → V → V → V → V → V → V → V → V → M → R)(p84 p2 p12 p14 p72 p71 p70 p7 p11 p3 p8 p9 p10 p5 p4:V)(m:M):R:=
  brb p84
  (bp (pur (aLoad false 1 p2 m) m) fun x119 m=>
  bp (pur (aLoad false 1 p2 m) m) fun x120 m=>
  bp (pur (aNilCheck x120) m) fun x121 m=>
  bp (pur (aFieldAddr 0 x121) m) fun x122 m=>
  bp (pur (aLoad false 1 x122 m) m) fun x123 m=>
  bp (pur (aLoad false 1 p2 m) m) fun x124 m=>
  bp (pur (aFieldAddr 2 p14) m) fun x125 m=>
  bp (pur (aLoad false 1 x125 m) m) fun x126 m=>
  bp (G.tab Qpm [x124,x126] m) fun x127 m=>
  ckB (again (pur (aLoad false 1 p2 m) m) x119 && (again (pur (aLoad false 1 p2 m) m) x120 && (again (pur (aLoad false 1 x122 m) m) x123 && true)))
  (bp (G.tab Qnh [x123,p12,x127] m) fun x128 m=>
  ckB (again (pur (aLoad false 1 p2 m) m) x119 && true)
  (bp (pur (aExtract x128 0) m) fun x129 m=>
  bp (pur (aExtract x128 1) m) fun x130 m=>
  bp (G.tab Qb [x119,x129,x130] m) fun x131 m=>
  Qjo G k0 p72 p71 p70 p7 p2 x131 p11 p3 p8 p9 p10 p5 p4 m)))
  (Qjo G k0 p72 p71 p70 p7 p2 p12 p11 p3 p8 p9 p10 p5 p4 m)
def Qwo (G:Gt)(k0:V → V → V → V → V → V → V → V → V → V → V → V → V → M → R)(p14 p7 p2 p12 p72 p71 p70 p11 p3 p8 p9 p10 p5 p4:V)(m:M):R:=
  bp (pur (aLoad true 11 p14 m) m) fun x132 m=>
  bp (G.tab Ql6 [x132] m) fun x133 m=>
  brb x133
  (bp (pur (aFieldAddr 1 p14) m) fun x134 m=>
  bp (pur (aLoad false 1 x134 m) m) fun x135 m=>
  bp (pur (aFieldAddr 1 p7) m) fun x136 m=>
  bp (pur (aLoad false 1 x136 m) m) fun x137 m=>
  bp (pur (bin .eql false true .str x135 x137) m) fun x138 m=>
  Qjp G k0 x138 p2 p12 p14 p72 p71 p70 p7 p11 p3 p8 p9 p10 p5 p4 m)
  (Qjp G k0 (.bool false) p2 p12 p14 p72 p71 p70 p7 p11 p3 p8 p9 p10 p5 p4 m)
def Qwp (G:Gt)(k0:V → V → V → V → V → V → V → V → V → V → V → V → V → M → R)(p70 p72 p7 p2 p12 p71 p11 p3 p8 p9 p10 p5 p4:V)(m:M):R:=
  bp (pur (aIndexAddrSl 11 p70 p72) m) fun x139 m=>
  bp (pur (aLoad true 11 x139 m) m) fun x140 m=>
  bp (some (aNew Q1d Q47 m)) fun x141 m=>
  bp (unt (aStore 11 x141 x140 m)) fun _ m=>
  Qwo G k0 x141 p7 p2 p12 p72 p71 p70 p11 p3 p8 p9 p10 p5 p4 m
def Qwq (G:Gt)(k0:V → V → V → V → V → V → V → V → V → V → V → V → V → M → R)(p73 p70 p72 p7 p2 p12 p71 p11 p3 p8 p9 p10 p5 p4:V)(m:M):R:=
  brb p73
  (Qwp G k0 p70 p72 p7 p2 p12 p71 p11 p3 p8 p9 p10 p5 p4 m)
  (Qwn G p11 p12 p2 p3 p7 p8 p9 p10 p5 p4 m)
def Q2f (G:Gt):Nat → V → V → V → V → V → V → V → V → V → V → V → V → V → M → R
 | 0,_,_,_,_,_,_,_,_,_,_,_,_,_,_=>none
 | i + 1,p72,p71,p70,p7,p2,p12,p11,p3,p8,p9,p10,p5,p4,m=>
  bp (pur (bin .lss false true .int p72 p71) m) fun x142 m=>
  Qwq G (Q2f G i) x142 p70 p72 p7 p2 p12 p71 p11 p3 p8 p9 p10 p5 p4 m
def Qwr (G:Gt)(p72 p71 p70 p7 p2 p12 p11 p3 p8 p9 p10 p5 p4:V)(m:M):R:=
  Q2f G G.rds p72 p71 p70 p7 p2 p12 p11 p3 p8 p9 p10 p5 p4 m
def Qxn (G:Gt)(p6 p7 p2 p12 p11 p3 p8 p9 p10 p5 p4:V)(m:M):R:=
  bp (pur (aFieldAddr 3 p6) m) fun x143 m=>
  bp (pur (aLoad false 1 x143 m) m) fun x144 m=>
  bp (pur (lenK 1 x144 m) m) fun x145 m=>
  Qwr G (.int .i64 0) x145 x144 p7 p2 p12 p11 p3 p8 p9 p10 p5 p4 m
def Qxo (G:Gt)(p6 p7 p2 p11 p3 p8 p9 p10 p5 p4:V)(m:M):R:=
  Qxn G p6 p7 p2 (.int .i64 0) p11 p3 p8 p9 p10 p5 p4 m
def Qxp (G:Gt)(p10 p8 p9 p2 p6 p7 p3 p5 p4:V)(m:M):R:=
  let x146:V:=(.func (.func Qxq) ⟨[]⟩ ⟨[p10,p8,p9,p2]⟩)
  Qxo G p6 p7 p2 x146 p3 p8 p9 p10 p5 p4 m
def Qxr (G:Gt)(p2 p5 p8 p9 p6 p7 p3 p4:V)(m:M):R:=
  bp (some (aNew Q1gj [.nilFunc] m)) fun x147 m=>
  bp (unt (aStore 1 x147 (.func (.func Qxs) ⟨[]⟩ ⟨[p2,p5]⟩) m)) fun _ m=>
  Qxp G x147 p8 p9 p2 p6 p7 p3 p5 p4 m
def Qxt (G:Gt)(p2 p6 p7 p5 p8 p3 p4:V)(m:M):R:=
  bp (pur (aLoad false 1 p2 m) m) fun x148 m=>
  bp (pur (aLoad true 12 p6 m) m) fun x149 m=>
  bp (pur (aFieldAddr 7 p7) m) fun x150 m=>
  bp (pur (aLoad false 1 x150 m) m) fun x151 m=>
  bp (pur (bin .eql true true .int x151 (.int .u8 2)) m) fun x152 m=>
  bp (G.tab Qg2 [x148,x149,x152,(.bool true)] m) fun x153 m=>
  bp (some (aNew Qcu [(.int .i64 0)] m)) fun x154 m=>
  bp (unt (aStore 1 x154 x153 m)) fun _ m=>
  Qxr G p2 p5 p8 x154 p6 p7 p3 p4 m
def Qxu (G:Gt)(p2 p8 p5 p6 p7 p3 p4:V)(m:M):R:=
  bp (pur (aLoad false 1 p2 m) m) fun x155 m=>
  bp (pur (aLoad false 1 p2 m) m) fun x156 m=>
  bp (pur (aNilCheck x156) m) fun x157 m=>
  bp (pur (aFieldAddr 0 x157) m) fun x158 m=>
  bp (pur (aLoad false 1 x158 m) m) fun x159 m=>
  bp (pur (aLoad false 1 p8 m) m) fun x160 m=>
  bp (pur (aFieldAddr 0 p5) m) fun x161 m=>
  bp (G.tab Qse [x159,x160] m) fun x162 m=>
  ckB (again (pur (aLoad false 1 p2 m) m) x155 && true)
  (bp (pur (aExtract x162 0) m) fun x163 m=>
  bp (pur (aExtract x162 1) m) fun x164 m=>
  bp (G.tab Qb [x155,x163,x164] m) fun x165 m=>
  bp (pur (aIndexAddrArr 8 1 x161 (.int .u8 2)) m) fun x166 m=>
  bp (unt (aStore 1 x166 x165 m)) fun _ m=>
  Qxt G p2 p6 p7 p5 p8 p3 p4 m)
def Qxv (G:Gt)(p2 p6 p7 p5 p3 p4:V)(m:M):R:=
  bp (pur (aLoad false 1 p2 m) m) fun x167 m=>
  bp (pur (aLoad true 12 p6 m) m) fun x168 m=>
  bp (pur (aFieldAddr 5 p7) m) fun x169 m=>
  bp (pur (aLoad false 1 x169 m) m) fun x170 m=>
  bp (G.tab Qgh [x167,x168,x170] m) fun x171 m=>
  bp (some (aNew Qcu [(.int .i64 0)] m)) fun x172 m=>
  bp (unt (aStore 1 x172 x171 m)) fun _ m=>
  Qxu G p2 x172 p5 p6 p7 p3 p4 m
def Qxw (G:Gt)(p6 p3 p2 p5 p4:V)(m:M):R:=
  bp (pur (aFieldAddr 3 p6) m) fun x173 m=>
  bp (pur (aLoad false 1 x173 m) m) fun x174 m=>
  bp (pur (aFieldAddr 1 p3) m) fun x175 m=>
  bp (pur (aLoad false 1 x175 m) m) fun x176 m=>
  bp (pur (aIndexAddrSl 11 x174 x176) m) fun x177 m=>
  bp (pur (aLoad true 11 x177 m) m) fun x178 m=>
  bp (some (aNew Q1d Q47 m)) fun x179 m=>
  bp (unt (aStore 11 x179 x178 m)) fun _ m=>
  Qxv G p2 p6 x179 p5 p3 p4 m
def Qxx (G:Gt)(p2 p3 p5 p4:V)(m:M):R:=
  bp (pur (aLoad false 1 p2 m) m) fun x180 m=>
  bp (pur (aNilCheck x180) m) fun x181 m=>
  bp (pur (aFieldAddr 2 x181) m) fun x182 m=>
  bp (pur (aLoad false 1 x182 m) m) fun x183 m=>
  bp (pur (aFieldAddr 0 p3) m) fun x184 m=>
  bp (pur (aLoad false 1 x184 m) m) fun x185 m=>
  bp (pur (aIndexAddrSl 12 x183 x185) m) fun x186 m=>
  bp (pur (aLoad true 12 x186 m) m) fun x187 m=>
  bp (some (aNew Qx Q1e m)) fun x188 m=>
  bp (unt (aStore 12 x188 x187 m)) fun _ m=>
  Qxw G x188 p3 p2 p5 p4 m
def Qxy (G:Gt)(p2 p3 p4:V)(m:M):R:=
  bp (some (aNew Qnb Qei m)) fun x189 m=>
  Qxx G p2 p3 x189 p4 m
def Qo7 (G:Gt)(p0 p1:V)(m:M):R:=
  bp (some (aNew Q1uc (Value.cells p0).toList m)) fun x190 m=>
  bp (some (aNew Q7 (Value.cells p1).toList m)) fun x191 m=>
  bp (some (aNew Qnb Qei m)) fun x192 m=>
  Qxy G x190 x191 x192 m
theorem Q1km (G:Gt)(a0 a1:V)(m:M):ef G Tryz.f58 [a0,a1] m = Qo7 G a0 a1 m:=
  evFn_of (r:=fun r m=>Qo7 G (r 0) (r 1) m) rfl rfl (tr (seqQ (f:=fun r m=>Qxy G (r 2) (r 3) (r 4) m) (tr (seqQ (f:=fun r m=>Qxx G (r 2) (r 3) (r 5) (r 4) m) (tr (seqQ (f:=fun r m=>Qxw G (r 6) (r 3) (r 2) (r 5) (r 4) m) (tr (seqQ (f:=fun r m=>Qxv G (r 2) (r 6) (r 7) (r 5) (r 3) (r 4) m) (tr (seqQ (f:=fun r m=>Qxu G (r 2) (r 8) (r 5) (r 6) (r 7) (r 3) (r 4) m) (tr (seqQ (f:=fun r m=>Qxt G (r 2) (r 6) (r 7) (r 5) (r 8) (r 3) (r 4) m) (tr (seqQ (f:=fun r m=>Qxr G (r 2) (r 5) (r 8) (r 9) (r 6) (r 7) (r 3) (r 4) m) (tr (seqQ (f:=fun r m=>Qxp G (r 10) (r 8) (r 9) (r 2) (r 6) (r 7) (r 3) (r 5) (r 4) m) (tr (seqQ (f:=fun r m=>Qxo G (r 6) (r 7) (r 2) (r 11) (r 3) (r 8) (r 9) (r 10) (r 5) (r 4) m) (tr (seqQ (f:=fun r m=>Qxn G (r 6) (r 7) (r 2) (r 12) (r 11) (r 3) (r 8) (r 9) (r 10) (r 5) (r 4) m) (tr (tr (seqQ (f:=fun r m=>Qwn G (r 11) (r 12) (r 2) (r 3) (r 7) (r 8) (r 9) (r 10) (r 5) (r 4) m) (tr (seqQ (f:=fun r m=>Qwm G (r 2) (r 12) (r 3) (r 7) (r 11) (r 8) (r 9) (r 10) (r 5) (r 4) m) (tr (seqQ (f:=fun r m=>Qwl G (r 2) (r 3) (r 7) (r 15) (r 11) (r 8) (r 9) (r 10) (r 5) (r 4) m) (tr (seqQ (f:=fun r m=>Qwk G (r 16) (r 2) (r 15) (r 11) (r 3) (r 8) (r 9) (r 10) (r 5) (r 4) m) (tr (seqQ (f:=fun r m=>Qwj G (r 16) (r 2) (r 15) (r 11) (r 3) (r 8) (r 9) (r 10) (r 5) (r 4) m) (tr (seqQ (f:=fun r m=>Qwi G (r 16) (r 2) (r 15) (r 11) (r 3) (r 8) (r 9) (r 10) (r 18) (r 5) (r 4) m) (tr (tr (seqQ (f:=fun r m=>Qw8 G (r 11) (r 15) (r 18) (r 2) (r 5) (r 4) m) (tr (seqQ (f:=fun r m=>Qw7 G (r 18) (r 2) (r 5) (r 4) m) (tr (tr (seqQ (f:=fun r m=>Qvx G (r 5) (r 4) m) (fun r m=>by kernel_rfl)) (seqQ (f:=fun r m=>Qw6 G (r 195) (r 2) (r 5) (r 4) m) (tr (blockQ (loopQ (fun i r m=>Qv G i (r 195) (r 2) (r 5) (r 4) m) (fun _ _=>rfl) (fun i0=>tr (seqQ (f:=fun r m=>Qw5 G (Qv G i0) (r 197) (r 195) (r 2) (r 5) (r 4) m) (tr (seqQ (f:=fun r m=>Qw4 G (Qv G i0) (r 195) (r 2) (r 5) (r 4) m) (tr (blockQ (seqQ (f:=fun r m=>Qw3 G (Qv G i0) (r 25) (r 26) (r 2) (r 5) (r 195) (r 4) m) (tr (seqQ (f:=fun r m=>Qw2 G (Qv G i0) (r 26) (r 2) (r 27) (r 5) (r 195) (r 4) m) (tr (tr (seqQ (f:=fun r m=>Qvy G (Qv G i0) (r 27) (r 5) (r 195) (r 2) (r 4) m) (fun r m=>by kernel_rfl)) (seqQ (f:=fun r m=>Qw1 G (Qv G i0) (r 205) (r 204) (r 203) (r 2) (r 27) (r 5) (r 195) (r 4) m) (tr (blockQ (loopQ (fun i r m=>Q4a G (Qv G i0) i (r 205) (r 204) (r 203) (r 2) (r 27) (r 5) (r 195) (r 4) m) (fun _ _=>rfl) (fun i1=>tr (seqQ (f:=fun r m=>Qw0 G (Q4a G (Qv G i0) i1) (Qv G i0) (r 206) (r 203) (r 205) (r 2) (r 27) (r 204) (r 5) (r 195) (r 4) m) (tr (seqQ (f:=fun r m=>Qvz G (Q4a G (Qv G i0) i1) (r 203) (r 205) (r 2) (r 27) (r 204) (r 5) (r 195) (r 4) m) (tr (seqQ (f:=fun r m=>Qjl G (Q4a G (Qv G i0) i1) (r 205) (r 204) (r 203) (r 2) (r 27) (r 5) (r 195) (r 4) m) (fun r m=>by kernel_rfl)) (fun r m=>by kernel_rfl))) (fun r m=>by kernel_rfl))) (fun r m=>by kernel_rfl)))) (fun r m=>by kernel_rfl)))) (fun r m=>by kernel_rfl))) (fun r m=>by kernel_rfl)))) (fun r m=>by kernel_rfl))) (fun r m=>by kernel_rfl))) (fun r m=>by kernel_rfl)))) (fun r m=>by kernel_rfl)))) (fun r m=>by kernel_rfl))) (fun r m=>by kernel_rfl))) (seqQ (f:=fun r m=>Qwh G (r 130) (r 129) (r 128) (r 2) (r 15) (r 11) (r 3) (r 8) (r 9) (r 10) (r 18) (r 5) (r 4) m) (tr (blockQ (loopQ (fun i r m=>Q10 G i (r 130) (r 129) (r 128) (r 2) (r 15) (r 11) (r 3) (r 8) (r 9) (r 10) (r 18) (r 5) (r 4) m) (fun _ _=>rfl) (fun i0=>tr (seqQ (f:=fun r m=>Qwg G (Q10 G i0) (r 131) (r 128) (r 130) (r 2) (r 15) (r 11) (r 129) (r 3) (r 8) (r 9) (r 10) (r 18) (r 5) (r 4) m) (tr (seqQ (f:=fun r m=>Qwf G (Q10 G i0) (r 128) (r 130) (r 2) (r 15) (r 11) (r 129) (r 3) (r 8) (r 9) (r 10) (r 18) (r 5) (r 4) m) (tr (tr (seqQ (f:=fun r m=>Qjm G (Q10 G i0) (r 130) (r 129) (r 128) (r 2) (r 15) (r 11) (r 3) (r 8) (r 9) (r 10) (r 18) (r 5) (r 4) m) (fun r m=>by kernel_rfl)) (blockQ (seqQ (f:=fun r m=>Qwe G (Q10 G i0) (r 2) (r 20) (r 15) (r 11) (r 130) (r 129) (r 128) (r 3) (r 8) (r 9) (r 10) (r 18) (r 5) (r 4) m) (tr (seqQ (f:=fun r m=>Qwd G (Q10 G i0) (r 2) (r 15) (r 21) (r 20) (r 11) (r 130) (r 129) (r 128) (r 3) (r 8) (r 9) (r 10) (r 18) (r 5) (r 4) m) (tr (seqQ (f:=fun r m=>Qwc G (Q10 G i0) (r 2) (r 15) (r 21) (r 20) (r 11) (r 22) (r 130) (r 129) (r 128) (r 3) (r 8) (r 9) (r 10) (r 18) (r 5) (r 4) m) (tr (seqQ (f:=fun r m=>Qwb G (Q10 G i0) (r 20) (r 11) (r 22) (r 130) (r 129) (r 128) (r 2) (r 15) (r 3) (r 8) (r 9) (r 10) (r 18) (r 5) (r 4) m) (tr (seqQ (f:=fun r m=>Qwa G (Q10 G i0) (r 20) (r 2) (r 3) (r 8) (r 9) (r 22) (r 10) (r 18) (r 130) (r 129) (r 128) (r 15) (r 11) (r 5) (r 4) m) (tr (seqQ (f:=fun r m=>Qw9 G (Q10 G i0) (r 175) (r 174) (r 173) (r 2) (r 3) (r 8) (r 9) (r 22) (r 10) (r 18) (r 130) (r 129) (r 128) (r 15) (r 11) (r 5) (r 4) m) (tr (blockQ (loopQ (fun i r m=>Qjn G (Q10 G i0) i (r 175) (r 174) (r 173) (r 2) (r 3) (r 8) (r 9) (r 22) (r 10) (r 18) (r 130) (r 129) (r 128) (r 15) (r 11) (r 5) (r 4) m) (fun _ _=>rfl) (fun i1=>fun r m=>by kernel_rfl))) (fun r m=>by kernel_rfl))) (fun r m=>by kernel_rfl))) (fun r m=>by kernel_rfl))) (fun r m=>by kernel_rfl))) (fun r m=>by kernel_rfl))) (fun r m=>by kernel_rfl))))) (fun r m=>by kernel_rfl))) (fun r m=>by kernel_rfl))) (fun r m=>by kernel_rfl)))) (fun r m=>by kernel_rfl)))) (fun r m=>by kernel_rfl))) (fun r m=>by kernel_rfl))) (fun r m=>by kernel_rfl))) (fun r m=>by kernel_rfl))) (fun r m=>by kernel_rfl))) (fun r m=>by kernel_rfl))) (seqQ (f:=fun r m=>Qwr G (r 72) (r 71) (r 70) (r 7) (r 2) (r 12) (r 11) (r 3) (r 8) (r 9) (r 10) (r 5) (r 4) m) (tr (blockQ (loopQ (fun i r m=>Q2f G i (r 72) (r 71) (r 70) (r 7) (r 2) (r 12) (r 11) (r 3) (r 8) (r 9) (r 10) (r 5) (r 4) m) (fun _ _=>rfl) (fun i0=>tr (seqQ (f:=fun r m=>Qwq G (Q2f G i0) (r 73) (r 70) (r 72) (r 7) (r 2) (r 12) (r 71) (r 11) (r 3) (r 8) (r 9) (r 10) (r 5) (r 4) m) (tr (seqQ (f:=fun r m=>Qwp G (Q2f G i0) (r 70) (r 72) (r 7) (r 2) (r 12) (r 71) (r 11) (r 3) (r 8) (r 9) (r 10) (r 5) (r 4) m) (tr (tr (seqQ (f:=fun r m=>Qjo G (Q2f G i0) (r 72) (r 71) (r 70) (r 7) (r 2) (r 12) (r 11) (r 3) (r 8) (r 9) (r 10) (r 5) (r 4) m) (fun r m=>by kernel_rfl)) (blockQ (seqQ (f:=fun r m=>Qwo G (Q2f G i0) (r 14) (r 7) (r 2) (r 12) (r 72) (r 71) (r 70) (r 11) (r 3) (r 8) (r 9) (r 10) (r 5) (r 4) m) (tr (seqQ (f:=fun r m=>Qjp G (Q2f G i0) (r 84) (r 2) (r 12) (r 14) (r 72) (r 71) (r 70) (r 7) (r 11) (r 3) (r 8) (r 9) (r 10) (r 5) (r 4) m) (fun r m=>by kernel_rfl)) (fun r m=>by kernel_rfl))))) (fun r m=>by kernel_rfl))) (fun r m=>by kernel_rfl))) (fun r m=>by kernel_rfl)))) (fun r m=>by kernel_rfl)))) (fun r m=>by kernel_rfl))) (fun r m=>by kernel_rfl))) (fun r m=>by kernel_rfl))) (fun r m=>by kernel_rfl))) (fun r m=>by kernel_rfl))) (fun r m=>by kernel_rfl))) (fun r m=>by kernel_rfl))) (fun r m=>by kernel_rfl))) (fun r m=>by kernel_rfl))) (fun r m=>by kernel_rfl))) (fun r m=>by kernel_rfl)) m
def Q1ki:En:=⟨Q12h,Tryz.f58,Tryz.func58,by kernel_rfl,arg2 Qo7,okarg2 Q1km⟩
end
end Go.Ab.Sh

set_option linter.unusedVariables false
set_option maxRecDepth 100000
namespace Go.Ab.Sh
open Go Go.Ab Go.Proofs
noncomputable section
def Q1jj (G:Gt)(m:M):R:=
  some (.tuple ⟨[(.string ⟨#[]⟩),(.int .i64 0)]⟩,m)
def Q1jk (G:Gt)(k0:V → V → V → M → R)(p22 p21 p20:V)(m:M):R:=
  bp (pur (bin .add true true .int p22 (.int .i64 1)) m) fun x0 m=>
  k0 x0 p21 p20 m
def Q154 (G:Gt)(k0:V → V → V → M → R):Nat → V → V → V → V → V → V → M → R
 | 0,_,_,_,_,_,_,_=>none
 | i + 1,p40,p39,p5,p22,p21,p20,m=>
  bp (pur (bin .lss false true .int p40 p39) m) fun x1 m=>
  brb x1
  (bp (pur (aFieldAddr 3 p5) m) fun x2 m=>
  bp (pur (aLoad false 1 x2 m) m) fun x3 m=>
  bp (evCall G.tab x3 [p40] m) fun x4 m=>
  bp (pur (bin .eql true true .int x4 (.int .i64 1)) m) fun x5 m=>
  brb x5
  (bp (pur (aFieldAddr 0 p5) m) fun x6 m=>
  bp (pur (aLoad false 1 x6 m) m) fun x7 m=>
  bp (pur (bin .add true true .str x7 (.string ⟨#[32]⟩)) m) fun x8 m=>
  bp (G.tab Q1c2 [p40] m) fun x9 m=>
  ckB (again (pur (aLoad false 1 x6 m) m) x7 && true)
  (bp (pur (bin .add false true .str x8 x9) m) fun x10 m=>
  some (.tuple ⟨[x10,(.int .i64 121)]⟩,m)))
  (bp (pur (bin .eql true true .int x4 (.int .i64 2)) m) fun x11 m=>
  brb x11
  (bp (pur (aFieldAddr 0 p5) m) fun x12 m=>
  bp (pur (aLoad false 1 x12 m) m) fun x13 m=>
  bp (pur (bin .add true true .str x13 (.string ⟨#[32]⟩)) m) fun x14 m=>
  bp (G.tab Q1c2 [p40] m) fun x15 m=>
  ckB (again (pur (aLoad false 1 x12 m) m) x13 && true)
  (bp (pur (bin .add false true .str x14 x15) m) fun x16 m=>
  some (.tuple ⟨[x16,(.int .i64 120)]⟩,m)))
  (bp (pur (bin .add true true .int p40 (.int .i64 1)) m) fun x17 m=>
  (Q154 G k0 i) x17 p39 p5 p22 p21 p20 m)))
  (Q1jk G k0 p22 p21 p20 m)
def Q1ho (G:Gt)(k0:V → V → V → M → R)(p40 p39 p5 p22 p21 p20:V)(m:M):R:=
  Q154 G k0 G.rds p40 p39 p5 p22 p21 p20 m
def Q1hp (G:Gt)(k0:V → V → V → M → R)(p5 p22 p21 p20:V)(m:M):R:=
  bp (pur (aFieldAddr 1 p5) m) fun x18 m=>
  bp (pur (aLoad false 1 x18 m) m) fun x19 m=>
  Q1ho G k0 (.int .i64 0) x19 p5 p22 p21 p20 m
def Q1jl (G:Gt)(k0:V → V → V → M → R)(p5 p22 p21 p20:V)(m:M):R:=
  bp (pur (aFieldAddr 1 p5) m) fun x20 m=>
  bp (pur (aLoad false 1 x20 m) m) fun x21 m=>
  bp (pur (aFieldAddr 2 p5) m) fun x22 m=>
  bp (pur (aLoad false 1 x22 m) m) fun x23 m=>
  bp (pur (bin .gtr false true .int x21 x23) m) fun x24 m=>
  brb x24
  (bp (pur (aFieldAddr 0 p5) m) fun x25 m=>
  bp (pur (aLoad false 1 x25 m) m) fun x26 m=>
  bp (pur (bin .add true true .str x26 (.string ⟨#[32]⟩)) m) fun x27 m=>
  bp (pur (aFieldAddr 2 p5) m) fun x28 m=>
  bp (pur (aLoad false 1 x28 m) m) fun x29 m=>
  bp (G.tab Q1c2 [x29] m) fun x30 m=>
  ckB (again (pur (aLoad false 1 x25 m) m) x26 && true)
  (bp (pur (bin .add false true .str x27 x30) m) fun x31 m=>
  some (.tuple ⟨[x31,(.int .i64 121)]⟩,m)))
  (Q1hp G k0 p5 p22 p21 p20 m)
def Q1jm (G:Gt)(k0:V → V → V → M → R)(p20 p22 p21:V)(m:M):R:=
  bp (pur (aIndexAddrSl 4 p20 p22) m) fun x32 m=>
  bp (pur (aLoad true 4 x32 m) m) fun x33 m=>
  bp (some (aNew Q1s9 Q67 m)) fun x34 m=>
  bp (unt (aStore 4 x34 x33 m)) fun _ m=>
  Q1jl G k0 x34 p22 p21 p20 m
def Q1jn (G:Gt)(k0:V → V → V → M → R)(p23 p20 p22 p21:V)(m:M):R:=
  brb p23
  (Q1jm G k0 p20 p22 p21 m)
  (Q1jj G m)
def Q56 (G:Gt):Nat → V → V → V → M → R
 | 0,_,_,_,_=>none
 | i + 1,p22,p21,p20,m=>
  bp (pur (bin .lss false true .int p22 p21) m) fun x35 m=>
  Q1jn G (Q56 G i) x35 p20 p22 p21 m
def Q1jo (G:Gt)(p22 p21 p20:V)(m:M):R:=
  Q56 G G.rds p22 p21 p20 m
def Q1jp (G:Gt)(p1:V)(m:M):R:=
  bp (pur (aLoad true 12 p1 m) m) fun x36 m=>
  bp (G.tab Q1jq [x36] m) fun x37 m=>
  bp (pur (lenK 1 x37 m) m) fun x38 m=>
  Q1jo G (.int .i64 0) x38 x37 m
def Q155 (G:Gt)(p18 p1:V)(m:M):R:=
  brb p18
  (some (.tuple ⟨[(.string ⟨#[107,105,110,100]⟩),(.int .i64 121)]⟩,m))
  (Q1jp G p1 m)
def Q1jr (G:Gt)(p1:V)(m:M):R:=
  bp (pur (aFieldAddr 1 p1) m) fun x39 m=>
  bp (pur (aLoad false 1 x39 m) m) fun x40 m=>
  bp (pur (bin .neq true true .int x40 (.int .u8 1)) m) fun x41 m=>
  brb x41
  (bp (pur (aFieldAddr 1 p1) m) fun x42 m=>
  bp (pur (aLoad false 1 x42 m) m) fun x43 m=>
  bp (pur (bin .neq true true .int x43 (.int .u8 2)) m) fun x44 m=>
  Q155 G x44 p1 m)
  (Q155 G (.bool false) p1 m)
def Q1js (G:Gt)(p1:V)(m:M):R:=
  bp (pur (aFieldAddr 0 p1) m) fun x45 m=>
  bp (pur (aLoad false 1 x45 m) m) fun x46 m=>
  bp (G.tab Q1hq [x46] m) fun x47 m=>
  bp (pur (un .not x47) m) fun x48 m=>
  brb x48
  (some (.tuple ⟨[(.string ⟨#[110,97,109,101]⟩),(.int .i64 121)]⟩,m))
  (Q1jr G p1 m)
def Q1el (G:Gt)(p0:V)(m:M):R:=
  bp (some (aNew Qx (Value.cells p0).toList m)) fun x49 m=>
  Q1js G x49 m
theorem Q20q (G:Gt)(a0:V)(m:M):ef G Tryz.f59 [a0] m = Q1el G a0 m:=
  evFn_of (r:=fun r m=>Q1el G (r 0) m) rfl rfl (tr (seqQ (f:=fun r m=>Q1js G (r 1) m) (tr (seqQ (f:=fun r m=>Q1jr G (r 1) m) (tr (tr (seqQ (f:=fun r m=>Q1jp G (r 1) m) (tr (tr (seqQ (f:=fun r m=>Q1jj G m) (fun r m=>by kernel_rfl)) (seqQ (f:=fun r m=>Q1jo G (r 22) (r 21) (r 20) m) (tr (blockQ (loopQ (fun i r m=>Q56 G i (r 22) (r 21) (r 20) m) (fun _ _=>rfl) (fun i0=>tr (seqQ (f:=fun r m=>Q1jn G (Q56 G i0) (r 23) (r 20) (r 22) (r 21) m) (tr (seqQ (f:=fun r m=>Q1jm G (Q56 G i0) (r 20) (r 22) (r 21) m) (tr (tr (seqQ (f:=fun r m=>Q1jk G (Q56 G i0) (r 22) (r 21) (r 20) m) (fun r m=>by kernel_rfl)) (blockQ (seqQ (f:=fun r m=>Q1jl G (Q56 G i0) (r 5) (r 22) (r 21) (r 20) m) (tr (seqQ (f:=fun r m=>Q1hp G (Q56 G i0) (r 5) (r 22) (r 21) (r 20) m) (tr (seqQ (f:=fun r m=>Q1ho G (Q56 G i0) (r 40) (r 39) (r 5) (r 22) (r 21) (r 20) m) (tr (blockQ (loopQ (fun i r m=>Q154 G (Q56 G i0) i (r 40) (r 39) (r 5) (r 22) (r 21) (r 20) m) (fun _ _=>rfl) (fun i1=>fun r m=>by kernel_rfl))) (fun r m=>by kernel_rfl))) (fun r m=>by kernel_rfl))) (fun r m=>by kernel_rfl))))) (fun r m=>by kernel_rfl))) (fun r m=>by kernel_rfl))) (fun r m=>by kernel_rfl)))) (fun r m=>by kernel_rfl)))) (fun r m=>by kernel_rfl))) (seqQ (f:=fun r m=>Q155 G (r 18) (r 1) m) (fun r m=>by kernel_rfl))) (fun r m=>by kernel_rfl))) (fun r m=>by kernel_rfl))) (fun r m=>by kernel_rfl)) m
def Q20f:En:=⟨Q1om,Tryz.f59,Tryz.func59,by kernel_rfl,arg1 Q1el,okarg1 Q20q⟩
def Q18e (G:Gt)(p2:V)(m:M):R:=
  some (p2,m)
def Q1jt (G:Gt)(p1:V)(m:M):R:=
  bp (pur (aFieldAddr 4 p1) m) fun x0 m=>
  bp (pur (aLoad false 1 x0 m) m) fun x1 m=>
  bp (pur (un .not x1) m) fun x2 m=>
  brb x2
  (bp (pur (aLoad true 11 p1 m) m) fun x3 m=>
  bp (G.tab Q1fe [x3] m) fun x4 m=>
  Q18e G x4 m)
  (Q18e G (.bool false) m)
def Q1em (G:Gt)(p0:V)(m:M):R:=
  bp (some (aNew Q1d (Value.cells p0).toList m)) fun x5 m=>
  Q1jt G x5 m
theorem Q20r (G:Gt)(a0:V)(m:M):ef G Tryz.f60 [a0] m = Q1em G a0 m:=
  evFn_of (r:=fun r m=>Q1em G (r 0) m) rfl rfl (tr (seqQ (f:=fun r m=>Q1jt G (r 1) m) (tr (seqQ (f:=fun r m=>Q18e G (r 2) m) (fun r m=>by kernel_rfl)) (fun r m=>by kernel_rfl))) (fun r m=>by kernel_rfl)) m
def Q20l:En:=⟨Q1on,Tryz.f60,Tryz.func60,by kernel_rfl,arg1 Q1em,okarg1 Q20r⟩
def Q1hr (G:Gt)(p0:V)(m:M):R:=
  bp (some (aNew Qx (Value.cells p0).toList m)) fun x0 m=>
  bp (some (aNew Qx Q1e m)) fun x1 m=>
  bp (pur (aLoad true 12 x0 m) m) fun x2 m=>
  bp (G.tab Q1sa [x2] m) fun x3 m=>
  bp (unt (aStore 12 x0 x3 m)) fun _ m=>
  bp (pur (aFieldAddr 2 x0) m) fun x4 m=>
  bp (pur (aLoad false 1 x4 m) m) fun x5 m=>
  bp (G.tab Qni [x5] m) fun x6 m=>
  bp (pur (aFieldAddr 3 x0) m) fun x7 m=>
  bp (pur (aLoad false 1 x7 m) m) fun x8 m=>
  bp (G.tab Qws [x8,(.func (.func Q18f) #[] #[])] m) fun x9 m=>
  bp (pur (aFieldAddr 4 x0) m) fun x10 m=>
  bp (pur (aLoad false 1 x10 m) m) fun x11 m=>
  bp (G.tab Qtm [x11,(.func (.func Q1hs) #[] #[])] m) fun x12 m=>
  bp (pur (aFieldAddr 7 x0) m) fun x13 m=>
  bp (pur (aLoad false 1 x13 m) m) fun x14 m=>
  bp (G.tab Qnj [x14,(.func (.func Q1dc) #[] #[])] m) fun x15 m=>
  bp (pur (aFieldAddr 8 x0) m) fun x16 m=>
  bp (pur (aLoad false 1 x16 m) m) fun x17 m=>
  bp (G.tab Qk1 [x17,(.func (.func Q1a9) #[] #[])] m) fun x18 m=>
  bp (pur (aFieldAddr 9 x0) m) fun x19 m=>
  bp (pur (aLoad false 1 x19 m) m) fun x20 m=>
  bp (G.tab Qtn [x20,(.func (.func Q1ht) #[] #[])] m) fun x21 m=>
  bp (pur (aFieldAddr 6 x0) m) fun x22 m=>
  bp (pur (aLoad false 1 x22 m) m) fun x23 m=>
  bp (G.tab Q7n [x23,(.func (.func Q1ud) #[] #[])] m) fun x24 m=>
  bp (pur (aLoad true 12 x0 m) m) fun x25 m=>
  bp (unt (aStore 12 x1 x25 m)) fun _ m=>
  ob (ob (aLoad true 12 x1 m) fun v=>ob (some []) fun l=>some (v :: l)) fun l=>some (resVal l,m)
theorem Q226 (G:Gt)(a0:V)(m:M):ef G Tryz.f61 [a0] m = Q1hr G a0 m:=
  evFn_of (r:=fun r m=>Q1hr G (r 0) m) rfl rfl (fun r m=>by kernel_rfl) m
def Q222:En:=⟨Q1sb,Tryz.f61,Tryz.func61,by kernel_rfl,arg1 Q1hr,okarg1 Q226⟩
def Qig (G:Gt)(p1 p0:V)(m:M):R:=
  bp (some (aNew Q1j3 (Value.cells p1).toList m)) fun x0 m=>
  bp (G.tab Q7o [p0,(.func (.func Qpn) ⟨[]⟩ ⟨[x0]⟩)] m) fun x1 m=>
  some (.tuple ⟨[]⟩,m)
theorem Q1en (G:Gt)(a0 a1:V)(m:M):ef G Tryz.f62 [a0,a1] m = Qig G a1 a0 m:=
  evFn_of (r:=fun r m=>Qig G (r 1) (r 0) m) rfl rfl (fun r m=>by kernel_rfl) m
def Q1ef:En:=⟨Qto,Tryz.f62,Tryz.func62,by kernel_rfl,arg2 (fun G a0 a1 m=>Qig G a1 a0 m),okarg2 Q1en⟩
def Qxz (G:Gt)(p0:V)(m:M):R:=
  bp (some (aNew Qx (Value.cells p0).toList m)) fun x0 m=>
  bp (pur (aFieldAddr 0 x0) m) fun x1 m=>
  bp (pur (aLoad false 1 x1 m) m) fun x2 m=>
  some (x2,m)
theorem Q1sc (G:Gt)(a0:V)(m:M):ef G Tryz.f63 [a0] m = Qxz G a0 m:=
  evFn_of (r:=fun r m=>Qxz G (r 0) m) rfl rfl (fun r m=>by kernel_rfl) m
def Q1ri:En:=⟨Q1dd,Tryz.f63,Tryz.func63,by kernel_rfl,arg1 Qxz,okarg1 Q1sc⟩
def Q18g (G:Gt)(p11 p4 p0 p1:V)(m:M):R:=
  brb p11
  (bp (pur (aBuild Q2d [(0,1),(1,1)] []) m) fun x0 m=>
  bp (unt (aStore 2 p4 x0 m)) fun _ m=>
  ob (ob (aLoad true 2 p4 m) fun v=>ob (some [(.int .i64 1)]) fun l=>some (v :: l)) fun l=>some (resVal l,m))
  (bp (G.tab Q14m [p1] m) fun x1 m=>
  bp (pur (bin .andNot false true .int p0 x1) m) fun x2 m=>
  bp (pur (aBuild Q2d [(0,1),(1,1)] [(0,x2),(1,p1)]) m) fun x3 m=>
  bp (unt (aStore 2 p4 x3 m)) fun _ m=>
  ob (ob (aLoad true 2 p4 m) fun v=>ob (some [(.int .i64 0)]) fun l=>some (v :: l)) fun l=>some (resVal l,m))
def Q1ju (G:Gt)(p1 p4 p0:V)(m:M):R:=
  bp (pur (bin .lss true true .int p1 (.int .i64 0)) m) fun x4 m=>
  brb x4
  (Q18g G (.bool true) p4 p0 p1 m)
  (bp (pur (bin .gtr true true .int p1 (.int .i64 32)) m) fun x5 m=>
  Q18g G x5 p4 p0 p1 m)
def Q1eo (G:Gt)(p1 p0:V)(m:M):R:=
  bp (some (aNew Q1x Q2d m)) fun x6 m=>
  Q1ju G p1 x6 p0 m
theorem Q20s (G:Gt)(a0 a1:V)(m:M):ef G Tryz.f64 [a0,a1] m = Q1eo G a1 a0 m:=
  evFn_of (r:=fun r m=>Q1eo G (r 1) (r 0) m) rfl rfl (tr (seqQ (f:=fun r m=>Q1ju G (r 1) (r 4) (r 0) m) (tr (tr seqD (seqQ (f:=fun r m=>Q18g G (r 11) (r 4) (r 0) (r 1) m) (fun r m=>by kernel_rfl))) (fun r m=>by kernel_rfl))) (fun r m=>by kernel_rfl)) m
def Q20i:En:=⟨Q1ep,Tryz.f64,Tryz.func64,by kernel_rfl,arg2 (fun G a0 a1 m=>Q1eo G a1 a0 m),okarg2 Q20s⟩
def Q161 (G:Gt)(k0:V → V → V → V → M → R)(p13 p12 p11 p0:V)(m:M):R:=
  bp (pur (bin .add true true .int p13 (.int .i64 1)) m) fun x0 m=>
  k0 x0 p12 p11 p0 m
def Q12i (G:Gt)(k1:V → V → V → V → V → V → V → V → M → R)(p21 p20 p19 p0 p3 p13 p12 p11:V)(m:M):R:=
  bp (pur (bin .add true true .int p21 (.int .i64 1)) m) fun x1 m=>
  k1 x1 p20 p19 p0 p3 p13 p12 p11 m
def Qo8 (G:Gt)(k1:V → V → V → V → V → V → V → V → M → R):Nat → V → V → V → V → V → V → V → V → V → V → V → M → R
 | 0,_,_,_,_,_,_,_,_,_,_,_,_=>none
 | i + 1,p29,p28,p0,p3,p5,p21,p20,p19,p13,p12,p11,m=>
  bp (pur (bin .lss false true .int p29 p28) m) fun x2 m=>
  brb x2
  (bp (evCall G.tab p0 [p3,p5,p29] m) fun x3 m=>
  bp (pur (bin .add true true .int p29 (.int .i64 1)) m) fun x4 m=>
  (Qo8 G k1 i) x4 p28 p0 p3 p5 p21 p20 p19 p13 p12 p11 m)
  (Q12i G k1 p21 p20 p19 p0 p3 p13 p12 p11 m)
def Q12j (G:Gt)(k1:V → V → V → V → V → V → V → V → M → R)(p29 p28 p0 p3 p5 p21 p20 p19 p13 p12 p11:V)(m:M):R:=
  Qo8 G k1 G.rds p29 p28 p0 p3 p5 p21 p20 p19 p13 p12 p11 m
def Q12k (G:Gt)(k1:V → V → V → V → V → V → V → V → M → R)(p6 p0 p3 p5 p21 p20 p19 p13 p12 p11:V)(m:M):R:=
  bp (pur (aFieldAddr 4 p6) m) fun x5 m=>
  bp (pur (aLoad false 1 x5 m) m) fun x6 m=>
  bp (pur (lenK 1 x6 m) m) fun x7 m=>
  Q12j G k1 (.int .i64 0) x7 p0 p3 p5 p21 p20 p19 p13 p12 p11 m
def Q162 (G:Gt)(k1:V → V → V → V → V → V → V → V → M → R)(p21 p19 p0 p3 p20 p13 p12 p11:V)(m:M):R:=
  bp (pur (aIndexAddrSl 6 p19 p21) m) fun x8 m=>
  bp (pur (aLoad true 6 x8 m) m) fun x9 m=>
  bp (some (aNew Qy0 Q163 m)) fun x10 m=>
  bp (unt (aStore 6 x10 x9 m)) fun _ m=>
  Q12k G k1 x10 p0 p3 p21 p21 p20 p19 p13 p12 p11 m
def Q164 (G:Gt)(k1:V → V → V → V → V → V → V → V → M → R)(k0:V → V → V → V → M → R)(p22 p21 p19 p0 p3 p20 p13 p12 p11:V)(m:M):R:=
  brb p22
  (Q162 G k1 p21 p19 p0 p3 p20 p13 p12 p11 m)
  (Q161 G k0 p13 p12 p11 p0 m)
def Q2o (G:Gt)(k0:V → V → V → V → M → R):Nat → V → V → V → V → V → V → V → V → M → R
 | 0,_,_,_,_,_,_,_,_,_=>none
 | i + 1,p21,p20,p19,p0,p3,p13,p12,p11,m=>
  bp (pur (bin .lss false true .int p21 p20) m) fun x11 m=>
  Q164 G (Q2o G k0 i) k0 x11 p21 p19 p0 p3 p20 p13 p12 p11 m
def Q165 (G:Gt)(k0:V → V → V → V → M → R)(p21 p20 p19 p0 p3 p13 p12 p11:V)(m:M):R:=
  Q2o G k0 G.rds p21 p20 p19 p0 p3 p13 p12 p11 m
def Q166 (G:Gt)(k0:V → V → V → V → M → R)(p4 p0 p3 p13 p12 p11:V)(m:M):R:=
  bp (pur (aFieldAddr 11 p4) m) fun x12 m=>
  bp (pur (aLoad false 1 x12 m) m) fun x13 m=>
  bp (pur (lenK 1 x13 m) m) fun x14 m=>
  Q165 G k0 (.int .i64 0) x14 x13 p0 p3 p13 p12 p11 m
def Q167 (G:Gt)(k0:V → V → V → V → M → R)(p13 p11 p0 p12:V)(m:M):R:=
  bp (pur (aIndexAddrSl 12 p11 p13) m) fun x15 m=>
  bp (pur (aLoad true 12 x15 m) m) fun x16 m=>
  bp (some (aNew Qx Q1e m)) fun x17 m=>
  bp (unt (aStore 12 x17 x16 m)) fun _ m=>
  Q166 G k0 x17 p0 p13 p13 p12 p11 m
def Q168 (G:Gt)(k0:V → V → V → V → M → R)(p14 p13 p11 p0 p12:V)(m:M):R:=
  brb p14
  (Q167 G k0 p13 p11 p0 p12 m)
  (some (.tuple ⟨[]⟩,m))
def Qz (G:Gt):Nat → V → V → V → V → M → R
 | 0,_,_,_,_,_=>none
 | i + 1,p13,p12,p11,p0,m=>
  bp (pur (bin .lss false true .int p13 p12) m) fun x18 m=>
  Q168 G (Qz G i) x18 p13 p11 p0 p12 m
def Q169 (G:Gt)(p13 p12 p11 p0:V)(m:M):R:=
  Qz G G.rds p13 p12 p11 p0 m
def Qur (G:Gt)(p1 p0:V)(m:M):R:=
  bp (pur (aLoad false 1 p1 m) m) fun x19 m=>
  bp (pur (aNilCheck x19) m) fun x20 m=>
  bp (pur (aFieldAddr 0 x20) m) fun x21 m=>
  bp (pur (aLoad false 1 x21 m) m) fun x22 m=>
  bp (pur (lenK 1 x22 m) m) fun x23 m=>
  Q169 G (.int .i64 0) x23 x22 p0 m
theorem Q1qq (G:Gt)(a0 a1:V)(m:M):ef G Tryz.f65 [a0,a1] m = Qur G a1 a0 m:=
  evFn_of (r:=fun r m=>Qur G (r 1) (r 0) m) rfl rfl (tr (seqQ (f:=fun r m=>Q169 G (r 13) (r 12) (r 11) (r 0) m) (tr (blockQ (loopQ (fun i r m=>Qz G i (r 13) (r 12) (r 11) (r 0) m) (fun _ _=>rfl) (fun i0=>tr (seqQ (f:=fun r m=>Q168 G (Qz G i0) (r 14) (r 13) (r 11) (r 0) (r 12) m) (tr (seqQ (f:=fun r m=>Q167 G (Qz G i0) (r 13) (r 11) (r 0) (r 12) m) (tr (tr (seqQ (f:=fun r m=>Q161 G (Qz G i0) (r 13) (r 12) (r 11) (r 0) m) (fun r m=>by kernel_rfl)) (blockQ (seqQ (f:=fun r m=>Q166 G (Qz G i0) (r 4) (r 0) (r 3) (r 13) (r 12) (r 11) m) (tr (seqQ (f:=fun r m=>Q165 G (Qz G i0) (r 21) (r 20) (r 19) (r 0) (r 3) (r 13) (r 12) (r 11) m) (tr (blockQ (loopQ (fun i r m=>Q2o G (Qz G i0) i (r 21) (r 20) (r 19) (r 0) (r 3) (r 13) (r 12) (r 11) m) (fun _ _=>rfl) (fun i1=>tr (seqQ (f:=fun r m=>Q164 G (Q2o G (Qz G i0) i1) (Qz G i0) (r 22) (r 21) (r 19) (r 0) (r 3) (r 20) (r 13) (r 12) (r 11) m) (tr (seqQ (f:=fun r m=>Q162 G (Q2o G (Qz G i0) i1) (r 21) (r 19) (r 0) (r 3) (r 20) (r 13) (r 12) (r 11) m) (tr (tr (seqQ (f:=fun r m=>Q12i G (Q2o G (Qz G i0) i1) (r 21) (r 20) (r 19) (r 0) (r 3) (r 13) (r 12) (r 11) m) (fun r m=>by kernel_rfl)) (blockQ (seqQ (f:=fun r m=>Q12k G (Q2o G (Qz G i0) i1) (r 6) (r 0) (r 3) (r 5) (r 21) (r 20) (r 19) (r 13) (r 12) (r 11) m) (tr (seqQ (f:=fun r m=>Q12j G (Q2o G (Qz G i0) i1) (r 29) (r 28) (r 0) (r 3) (r 5) (r 21) (r 20) (r 19) (r 13) (r 12) (r 11) m) (tr (blockQ (loopQ (fun i r m=>Qo8 G (Q2o G (Qz G i0) i1) i (r 29) (r 28) (r 0) (r 3) (r 5) (r 21) (r 20) (r 19) (r 13) (r 12) (r 11) m) (fun _ _=>rfl) (fun i2=>fun r m=>by kernel_rfl))) (fun r m=>by kernel_rfl))) (fun r m=>by kernel_rfl))))) (fun r m=>by kernel_rfl))) (fun r m=>by kernel_rfl))) (fun r m=>by kernel_rfl)))) (fun r m=>by kernel_rfl))) (fun r m=>by kernel_rfl))))) (fun r m=>by kernel_rfl))) (fun r m=>by kernel_rfl))) (fun r m=>by kernel_rfl)))) (fun r m=>by kernel_rfl))) (fun r m=>by kernel_rfl)) m
def Q1q8:En:=⟨Q1aa,Tryz.f65,Tryz.func65,by kernel_rfl,arg2 (fun G a0 a1 m=>Qur G a1 a0 m),okarg2 Q1qq⟩
end
end Go.Ab.Sh
