/-
  Functions of the program as plain definitions. No conditions.
-/
import Derived.Test.YthlpkjlpdmfgiaaGreatDoorAb5
import Derived.Test.YthlpkjlpdmfgiaaGreatDoorZ
import Derived.KernelRfl
import Derived.Test.YthlpkjlpdmfgiaaGreatDoorProg
set_option linter.unusedVariables false
set_option maxRecDepth 100000
namespace Go.Ab.Sh
open Go Go.Ab Go.Proofs
noncomputable section
def Q14 (G:Gt)(p0:V)(m:M):R:=
  some (p0,m)
def Qlg (G:Gt)(p22 p24 p26 p28 p30 p32 p34 p35 p36:V)(m:M):R:=
  bp (pur (bin .eql true true .int p22 (.int .i64 1)) m) fun x0 m=>
  brb x0
  (bp (pur (bin .eql true true .int p24 (.int .i64 1)) m) fun x1 m=>
  brb x1
  (bp (pur (bin .eql true true .int p26 (.int .i64 1)) m) fun x2 m=>
  brb x2
  (bp (pur (bin .eql true true .int p28 (.int .i64 1)) m) fun x3 m=>
  brb x3
  (bp (pur (bin .eql true true .int p30 (.int .i64 1)) m) fun x4 m=>
  brb x4
  (bp (pur (bin .eql true true .int p32 (.int .i64 1)) m) fun x5 m=>
  brb x5
  (bp (pur (bin .eql true true .int p34 (.int .i64 1)) m) fun x6 m=>
  brb x6
  (bp (pur (bin .eql true true .int p35 (.int .i64 0)) m) fun x7 m=>
  brb x7
  (bp (pur (bin .eql true true .int p36 (.int .i64 0)) m) fun x8 m=>
  Q14 G x8 m)
  (Q14 G (.bool false) m))
  (Q14 G (.bool false) m))
  (Q14 G (.bool false) m))
  (Q14 G (.bool false) m))
  (Q14 G (.bool false) m))
  (Q14 G (.bool false) m))
  (Q14 G (.bool false) m))
  (Q14 G (.bool false) m)
def Qbx (G:Gt)(p252 p22 p24 p26 p28 p30 p32 p34 p35 p36:V)(m:M):R:=
  brb p252
  (some ((.bool false),m))
  (Qlg G p22 p24 p26 p28 p30 p32 p34 p35 p36 m)
def Qlh (G:Gt)(p44 p43 p45 p22 p24 p26 p28 p30 p32 p34 p35 p36:V)(m:M):R:=
  bp (pur (bin .neq true true .int p44 (.int .i64 0)) m) fun x9 m=>
  brb x9
  (Qbx G (.bool true) p22 p24 p26 p28 p30 p32 p34 p35 p36 m)
  (bp (pur (bin .neq false true .int p43 p45) m) fun x10 m=>
  Qbx G x10 p22 p24 p26 p28 p30 p32 p34 p35 p36 m)
def Qli (G:Gt)(p19 p2 p44 p43 p22 p24 p26 p28 p30 p32 p34 p35 p36:V)(m:M):R:=
  bp (pur (aLoad true 2 p2 m) m) fun x11 m=>
  bp (G.tab Q3c [p19,x11,(.int .u8 1)] m) fun x12 m=>
  bp (pur (aExtract x12 0) m) fun x13 m=>
  bp (pur (aExtract x12 1) m) fun x14 m=>
  Qlh G p44 p43 x13 p22 p24 p26 p28 p30 p32 p34 p35 p36 m
def Qlj (G:Gt)(p41 p2 p19 p22 p24 p26 p28 p30 p32 p34 p35 p36:V)(m:M):R:=
  bp (pur (aLoad true 2 p2 m) m) fun x15 m=>
  bp (G.tab Q3c [p41,x15,(.int .u8 1)] m) fun x16 m=>
  bp (pur (aExtract x16 0) m) fun x17 m=>
  bp (pur (aExtract x16 1) m) fun x18 m=>
  Qli G p19 p2 x18 x17 p22 p24 p26 p28 p30 p32 p34 p35 p36 m
def Q3q (G:Gt)(p233 p41 p2 p19 p22 p24 p26 p28 p30 p32 p34 p35 p36:V)(m:M):R:=
  brb p233
  (some ((.bool false),m))
  (Qlj G p41 p2 p19 p22 p24 p26 p28 p30 p32 p34 p35 p36 m)
def Qlk (G:Gt)(p38 p40 p42 p41 p19 p2 p22 p24 p26 p28 p30 p32 p34 p35 p36:V)(m:M):R:=
  bp (pur (bin .neq true true .int p38 (.int .i64 2)) m) fun x19 m=>
  brb x19
  (Q3q G (.bool true) p41 p2 p19 p22 p24 p26 p28 p30 p32 p34 p35 p36 m)
  (bp (pur (bin .neq true true .int p40 (.int .i64 2)) m) fun x20 m=>
  brb x20
  (Q3q G (.bool true) p41 p2 p19 p22 p24 p26 p28 p30 p32 p34 p35 p36 m)
  (bp (pur (bin .neq true true .int p42 (.int .i64 0)) m) fun x21 m=>
  brb x21
  (Q3q G (.bool true) p41 p2 p19 p22 p24 p26 p28 p30 p32 p34 p35 p36 m)
  (bp (G.tab Q27 [p41] m) fun x22 m=>
  bp (G.tab Q27 [p19] m) fun x23 m=>
  bp (pur (binP m .neq false true .ptr x22 x23) m) fun x24 m=>
  Q3q G x24 p41 p2 p19 p22 p24 p26 p28 p30 p32 p34 p35 p36 m)))
def Qll (G:Gt)(p19 p38 p40 p2 p22 p24 p26 p28 p30 p32 p34 p35 p36:V)(m:M):R:=
  bp (G.tab Q27 [p19] m) fun x25 m=>
  bp (G.tab Q13 [] m) fun x26 m=>
  bp (G.tab Qys [x25,x26] m) fun x27 m=>
  bp (pur (aExtract x27 0) m) fun x28 m=>
  bp (pur (aExtract x27 1) m) fun x29 m=>
  Qlk G p38 p40 x29 x28 p19 p2 p22 p24 p26 p28 p30 p32 p34 p35 p36 m
def Qlm (G:Gt)(p19 p38 p2 p22 p24 p26 p28 p30 p32 p34 p35 p36:V)(m:M):R:=
  bp (G.tab Q27 [p19] m) fun x30 m=>
  bp (G.tab Qys [x30,(.pointer none)] m) fun x31 m=>
  bp (pur (aExtract x31 0) m) fun x32 m=>
  bp (pur (aExtract x31 1) m) fun x33 m=>
  Qll G p19 p38 x33 p2 p22 p24 p26 p28 p30 p32 p34 p35 p36 m
def Qln (G:Gt)(p19 p2 p22 p24 p26 p28 p30 p32 p34 p35 p36:V)(m:M):R:=
  bp (G.tab Q13 [] m) fun x34 m=>
  bp (G.tab Qys [(.pointer none),x34] m) fun x35 m=>
  bp (pur (aExtract x35 0) m) fun x36 m=>
  bp (pur (aExtract x35 1) m) fun x37 m=>
  Qlm G p19 x37 p2 p22 p24 p26 p28 p30 p32 p34 p35 p36 m
def Qlo (G:Gt)(p19 p2 p22 p24 p26 p28 p30 p32 p34:V)(m:M):R:=
  bp (pur (aLoad true 2 p2 m) m) fun x38 m=>
  bp (G.tab Qd7 [p19,x38,(.int .i64 0),(.int .i64 0)] m) fun x39 m=>
  bp (pur (aExtract x39 0) m) fun x40 m=>
  bp (pur (aExtract x39 1) m) fun x41 m=>
  Qln G p19 p2 p22 p24 p26 p28 p30 p32 p34 x40 x41 m
def Qlp (G:Gt)(p19 p2 p22 p24 p26 p28 p30 p32:V)(m:M):R:=
  bp (pur (aLoad true 2 p2 m) m) fun x42 m=>
  bp (G.tab Qd7 [p19,x42,(.int .i64 (-1)),(.int .i64 1)] m) fun x43 m=>
  bp (pur (aExtract x43 0) m) fun x44 m=>
  bp (pur (aExtract x43 1) m) fun x45 m=>
  Qlo G p19 p2 p22 p24 p26 p28 p30 p32 x45 m
def Qlq (G:Gt)(p19 p2 p22 p24 p26 p28 p30:V)(m:M):R:=
  bp (pur (aLoad true 2 p2 m) m) fun x46 m=>
  bp (G.tab Qag [p19,x46,(.int .i64 0),(.int .i64 (-1))] m) fun x47 m=>
  bp (pur (aExtract x47 0) m) fun x48 m=>
  bp (pur (aExtract x47 1) m) fun x49 m=>
  Qlp G p19 p2 p22 p24 p26 p28 p30 x49 m
def Qlr (G:Gt)(p19 p2 p22 p24 p26 p28:V)(m:M):R:=
  bp (pur (aLoad true 2 p2 m) m) fun x50 m=>
  bp (G.tab Qag [p19,x50,(.int .i64 1),(.int .i64 1)] m) fun x51 m=>
  bp (pur (aExtract x51 0) m) fun x52 m=>
  bp (pur (aExtract x51 1) m) fun x53 m=>
  Qlq G p19 p2 p22 p24 p26 p28 x53 m
def Qls (G:Gt)(p19 p2 p22 p24 p26:V)(m:M):R:=
  bp (pur (aBuild Q1x [(0,1),(1,1)] [(1,(.int .i64 (-1)))]) m) fun x54 m=>
  bp (G.tab Qd8 [p19,x54] m) fun x55 m=>
  bp (pur (aExtract x55 0) m) fun x56 m=>
  bp (pur (aExtract x55 1) m) fun x57 m=>
  Qlr G p19 p2 p22 p24 p26 x57 m
def Qlt (G:Gt)(p19 p2 p22 p24:V)(m:M):R:=
  bp (pur (aLoad true 2 p2 m) m) fun x58 m=>
  bp (G.tab Q3c [p19,x58,(.int .u8 8)] m) fun x59 m=>
  bp (pur (aExtract x59 0) m) fun x60 m=>
  bp (pur (aExtract x59 1) m) fun x61 m=>
  Qls G p19 p2 p22 p24 x61 m
def Qlu (G:Gt)(p19 p2 p22:V)(m:M):R:=
  bp (pur (aLoad true 2 p2 m) m) fun x62 m=>
  bp (G.tab Q3c [p19,x62,(.int .u8 0)] m) fun x63 m=>
  bp (pur (aExtract x63 0) m) fun x64 m=>
  bp (pur (aExtract x63 1) m) fun x65 m=>
  Qlt G p19 p2 p22 x65 m
def Qlv (G:Gt)(p19 p2:V)(m:M):R:=
  bp (pur (aBuild Q1x [(0,1),(1,1)] [(0,(.int .i64 2))]) m) fun x66 m=>
  bp (G.tab Q3c [p19,x66,(.int .u8 1)] m) fun x67 m=>
  bp (pur (aExtract x67 0) m) fun x68 m=>
  bp (pur (aExtract x67 1) m) fun x69 m=>
  Qlu G p19 p2 x69 m
def Qo (G:Gt)(p150 p19 p2:V)(m:M):R:=
  brb p150
  (some ((.bool false),m))
  (Qlv G p19 p2 m)
def Qlw (G:Gt)(p4 p6 p8 p10 p12 p14 p16 p18 p20 p1 p19 p2:V)(m:M):R:=
  bp (pur (bin .neq true true .int p4 (.int .i64 2)) m) fun x70 m=>
  brb x70
  (Qo G (.bool true) p19 p2 m)
  (bp (pur (bin .neq true true .int p6 (.int .i64 2)) m) fun x71 m=>
  brb x71
  (Qo G (.bool true) p19 p2 m)
  (bp (pur (bin .neq true true .int p8 (.int .i64 2)) m) fun x72 m=>
  brb x72
  (Qo G (.bool true) p19 p2 m)
  (bp (pur (bin .neq true true .int p10 (.int .i64 2)) m) fun x73 m=>
  brb x73
  (Qo G (.bool true) p19 p2 m)
  (bp (pur (bin .neq true true .int p12 (.int .i64 2)) m) fun x74 m=>
  brb x74
  (Qo G (.bool true) p19 p2 m)
  (bp (pur (bin .neq true true .int p14 (.int .i64 1)) m) fun x75 m=>
  brb x75
  (Qo G (.bool true) p19 p2 m)
  (bp (pur (bin .neq true true .int p16 (.int .i64 3)) m) fun x76 m=>
  brb x76
  (Qo G (.bool true) p19 p2 m)
  (bp (pur (bin .neq true true .int p18 (.int .i64 1)) m) fun x77 m=>
  brb x77
  (Qo G (.bool true) p19 p2 m)
  (bp (pur (bin .neq true true .int p20 (.int .i64 0)) m) fun x78 m=>
  brb x78
  (Qo G (.bool true) p19 p2 m)
  (bp (G.tab Q27 [p1] m) fun x79 m=>
  bp (pur (binP m .neq true true .ptr x79 (.pointer none)) m) fun x80 m=>
  brb x80
  (Qo G (.bool true) p19 p2 m)
  (bp (G.tab Qw0 [p1] m) fun x81 m=>
  bp (pur (lenK 1 x81 m) m) fun x82 m=>
  bp (pur (bin .neq true true .int x82 (.int .i64 0)) m) fun x83 m=>
  Qo G x83 p19 p2 m))))))))))
def Qlx (G:Gt)(p4 p6 p8 p10 p12 p14 p16 p18 p1 p2:V)(m:M):R:=
  bp (G.tab Q13 [] m) fun x84 m=>
  bp (G.tab Qi4 [x84,(.int .i64 4194304)] m) fun x85 m=>
  bp (pur (aExtract x85 0) m) fun x86 m=>
  bp (pur (aExtract x85 1) m) fun x87 m=>
  Qlw G p4 p6 p8 p10 p12 p14 p16 p18 x87 p1 x86 p2 m
def Qly (G:Gt)(p4 p6 p8 p10 p12 p14 p16 p1 p2:V)(m:M):R:=
  bp (G.tab Q13 [] m) fun x88 m=>
  bp (G.tab Qi4 [x88,(.int .i64 4194305)] m) fun x89 m=>
  bp (pur (aExtract x89 0) m) fun x90 m=>
  bp (pur (aExtract x89 1) m) fun x91 m=>
  Qlx G p4 p6 p8 p10 p12 p14 p16 x91 p1 p2 m
def Qmv (G:Gt)(p4 p6 p8 p10 p12 p14 p1 p2:V)(m:M):R:=
  bp (G.tab Q13 [] m) fun x92 m=>
  bp (G.tab Qi4 [x92,(.int .i64 0)] m) fun x93 m=>
  bp (pur (aExtract x93 0) m) fun x94 m=>
  bp (pur (aExtract x93 1) m) fun x95 m=>
  Qly G p4 p6 p8 p10 p12 p14 x95 p1 p2 m
def Qmw (G:Gt)(p4 p6 p8 p10 p12 p1 p2:V)(m:M):R:=
  bp (G.tab Q13 [] m) fun x96 m=>
  bp (G.tab Qi4 [x96,(.int .i64 (-1))] m) fun x97 m=>
  bp (pur (aExtract x97 0) m) fun x98 m=>
  bp (pur (aExtract x97 1) m) fun x99 m=>
  Qmv G p4 p6 p8 p10 p12 x99 p1 p2 m
def Qmx (G:Gt)(p4 p6 p8 p10 p1 p2:V)(m:M):R:=
  bp (G.tab Qi4 [(.pointer none),(.int .i64 5)] m) fun x100 m=>
  bp (pur (aExtract x100 0) m) fun x101 m=>
  bp (pur (aExtract x100 1) m) fun x102 m=>
  Qmw G p4 p6 p8 p10 x102 p1 p2 m
def Qmy (G:Gt)(p1 p2 p4 p6 p8:V)(m:M):R:=
  bp (pur (aLoad true 2 p2 m) m) fun x103 m=>
  bp (G.tab Qd7 [p1,x103,(.int .i64 0),(.int .i64 1)] m) fun x104 m=>
  bp (pur (aExtract x104 0) m) fun x105 m=>
  bp (pur (aExtract x104 1) m) fun x106 m=>
  Qmx G p4 p6 p8 x106 p1 p2 m
def Qmz (G:Gt)(p1 p2 p4 p6:V)(m:M):R:=
  bp (pur (aLoad true 2 p2 m) m) fun x107 m=>
  bp (G.tab Qag [p1,x107,(.int .i64 0),(.int .i64 1)] m) fun x108 m=>
  bp (pur (aExtract x108 0) m) fun x109 m=>
  bp (pur (aExtract x108 1) m) fun x110 m=>
  Qmy G p1 p2 p4 p6 x110 m
def Qn0 (G:Gt)(p1 p2 p4:V)(m:M):R:=
  bp (pur (aLoad true 2 p2 m) m) fun x111 m=>
  bp (G.tab Qd8 [p1,x111] m) fun x112 m=>
  bp (pur (aExtract x112 0) m) fun x113 m=>
  bp (pur (aExtract x112 1) m) fun x114 m=>
  Qmz G p1 p2 p4 x114 m
def Qn1 (G:Gt)(p1 p2:V)(m:M):R:=
  bp (pur (aLoad true 2 p2 m) m) fun x115 m=>
  bp (G.tab Q3c [p1,x115,(.int .u8 1)] m) fun x116 m=>
  bp (pur (aExtract x116 0) m) fun x117 m=>
  bp (pur (aExtract x116 1) m) fun x118 m=>
  Qn0 G p1 p2 x118 m
def Qn2 (G:Gt)(p1:V)(m:M):R:=
  bp (pur (aBuild Q1x [(0,1),(1,1)] [(0,(.int .i64 0)),(1,(.int .i64 1))]) m) fun x119 m=>
  bp (some (aNew Qw Q1x m)) fun x120 m=>
  bp (unt (aStore 2 x120 x119 m)) fun _ m=>
  Qn1 G p1 x120 m
def Qn3 (G:Gt)(m:M):R:=
  Qn2 G (.pointer none) m
def Qn4 (G:Gt)(m:M):R:=
  bp (G.tab Qpl [] m) fun x121 m=>
  bp (pur (un .not x121) m) fun x122 m=>
  pkB x122 (.bool true) (.bool false) m fun x123 m=>
  pkB x123 (.bool true) (.bool false) m fun x124 m=>
  pkB x124 (.bool true) (.bool false) m fun x125 m=>
  pkB x125 (.bool true) (.bool false) m fun x126 m=>
  brb x126
  (some ((.bool false),m))
  (Qn3 G m)
def Qff (G:Gt)(m:M):R:=
  Qn4 G m
theorem Q181 (G:Gt)(m:M):ef G Tryz.f3 [] m = Qff G m:=
  evFn_of (r:=fun r m=>Qff G m) rfl rfl (tr (seqQ (f:=fun r m=>Qn4 G m) (tr (seqQ (f:=fun r m=>Qn3 G m) (tr (seqQ (f:=fun r m=>Qn2 G (r 1) m) (tr (seqQ (f:=fun r m=>Qn1 G (r 1) (r 2) m) (tr (seqQ (f:=fun r m=>Qn0 G (r 1) (r 2) (r 4) m) (tr (seqQ (f:=fun r m=>Qmz G (r 1) (r 2) (r 4) (r 6) m) (tr (seqQ (f:=fun r m=>Qmy G (r 1) (r 2) (r 4) (r 6) (r 8) m) (tr (seqQ (f:=fun r m=>Qmx G (r 4) (r 6) (r 8) (r 10) (r 1) (r 2) m) (tr (seqQ (f:=fun r m=>Qmw G (r 4) (r 6) (r 8) (r 10) (r 12) (r 1) (r 2) m) (tr (seqQ (f:=fun r m=>Qmv G (r 4) (r 6) (r 8) (r 10) (r 12) (r 14) (r 1) (r 2) m) (tr (seqQ (f:=fun r m=>Qly G (r 4) (r 6) (r 8) (r 10) (r 12) (r 14) (r 16) (r 1) (r 2) m) (tr (seqQ (f:=fun r m=>Qlx G (r 4) (r 6) (r 8) (r 10) (r 12) (r 14) (r 16) (r 18) (r 1) (r 2) m) (tr (seqQ (f:=fun r m=>Qlw G (r 4) (r 6) (r 8) (r 10) (r 12) (r 14) (r 16) (r 18) (r 20) (r 1) (r 19) (r 2) m) (tr (tr (seqQ (f:=fun r m=>Qlv G (r 19) (r 2) m) (tr (seqQ (f:=fun r m=>Qlu G (r 19) (r 2) (r 22) m) (tr (seqQ (f:=fun r m=>Qlt G (r 19) (r 2) (r 22) (r 24) m) (tr (seqQ (f:=fun r m=>Qls G (r 19) (r 2) (r 22) (r 24) (r 26) m) (tr (seqQ (f:=fun r m=>Qlr G (r 19) (r 2) (r 22) (r 24) (r 26) (r 28) m) (tr (seqQ (f:=fun r m=>Qlq G (r 19) (r 2) (r 22) (r 24) (r 26) (r 28) (r 30) m) (tr (seqQ (f:=fun r m=>Qlp G (r 19) (r 2) (r 22) (r 24) (r 26) (r 28) (r 30) (r 32) m) (tr (seqQ (f:=fun r m=>Qlo G (r 19) (r 2) (r 22) (r 24) (r 26) (r 28) (r 30) (r 32) (r 34) m) (tr (seqQ (f:=fun r m=>Qln G (r 19) (r 2) (r 22) (r 24) (r 26) (r 28) (r 30) (r 32) (r 34) (r 35) (r 36) m) (tr (seqQ (f:=fun r m=>Qlm G (r 19) (r 38) (r 2) (r 22) (r 24) (r 26) (r 28) (r 30) (r 32) (r 34) (r 35) (r 36) m) (tr (seqQ (f:=fun r m=>Qll G (r 19) (r 38) (r 40) (r 2) (r 22) (r 24) (r 26) (r 28) (r 30) (r 32) (r 34) (r 35) (r 36) m) (tr (seqQ (f:=fun r m=>Qlk G (r 38) (r 40) (r 42) (r 41) (r 19) (r 2) (r 22) (r 24) (r 26) (r 28) (r 30) (r 32) (r 34) (r 35) (r 36) m) (tr (tr (seqQ (f:=fun r m=>Qlj G (r 41) (r 2) (r 19) (r 22) (r 24) (r 26) (r 28) (r 30) (r 32) (r 34) (r 35) (r 36) m) (tr (seqQ (f:=fun r m=>Qli G (r 19) (r 2) (r 44) (r 43) (r 22) (r 24) (r 26) (r 28) (r 30) (r 32) (r 34) (r 35) (r 36) m) (tr (seqQ (f:=fun r m=>Qlh G (r 44) (r 43) (r 45) (r 22) (r 24) (r 26) (r 28) (r 30) (r 32) (r 34) (r 35) (r 36) m) (tr (tr (seqQ (f:=fun r m=>Qlg G (r 22) (r 24) (r 26) (r 28) (r 30) (r 32) (r 34) (r 35) (r 36) m) (tr (seqQ (f:=fun r m=>Q14 G (r 0) m) (fun r m=>by kernel_rfl)) (fun r m=>by kernel_rfl))) (seqQ (f:=fun r m=>Qbx G (r 252) (r 22) (r 24) (r 26) (r 28) (r 30) (r 32) (r 34) (r 35) (r 36) m) (fun r m=>by kernel_rfl))) (fun r m=>by kernel_rfl))) (fun r m=>by kernel_rfl))) (fun r m=>by kernel_rfl))) (seqQ (f:=fun r m=>Q3q G (r 233) (r 41) (r 2) (r 19) (r 22) (r 24) (r 26) (r 28) (r 30) (r 32) (r 34) (r 35) (r 36) m) (fun r m=>by kernel_rfl))) (fun r m=>by kernel_rfl))) (fun r m=>by kernel_rfl))) (fun r m=>by kernel_rfl))) (fun r m=>by kernel_rfl))) (fun r m=>by kernel_rfl))) (fun r m=>by kernel_rfl))) (fun r m=>by kernel_rfl))) (fun r m=>by kernel_rfl))) (fun r m=>by kernel_rfl))) (fun r m=>by kernel_rfl))) (fun r m=>by kernel_rfl))) (fun r m=>by kernel_rfl))) (seqQ (f:=fun r m=>Qo G (r 150) (r 19) (r 2) m) (fun r m=>by kernel_rfl))) (fun r m=>by kernel_rfl))) (fun r m=>by kernel_rfl))) (fun r m=>by kernel_rfl))) (fun r m=>by kernel_rfl))) (fun r m=>by kernel_rfl))) (fun r m=>by kernel_rfl))) (fun r m=>by kernel_rfl))) (fun r m=>by kernel_rfl))) (fun r m=>by kernel_rfl))) (fun r m=>by kernel_rfl))) (fun r m=>by kernel_rfl))) (fun r m=>by kernel_rfl))) (fun r m=>by kernel_rfl))) (fun r m=>by kernel_rfl)) m
def Q17j:En:=⟨Qfg,Tryz.f3,Tryz.func3,by kernel_rfl,arg0 (fun G  m=>Qff G m),okarg0 Q181⟩
def Qv (G:Gt)(p0:V)(m:M):R:=
  some (p0,m)
def Qyt (G:Gt)(p5 p7 p9 p11 p13 p15 p6 p8 p12 p14:V)(m:M):R:=
  bp (pur (bin .eql true true .int p5 (.int .i64 0)) m) fun x0 m=>
  brb x0
  (bp (pur (bin .eql true true .int p7 (.int .i64 0)) m) fun x1 m=>
  brb x1
  (bp (pur (bin .eql true true .int p9 (.int .i64 0)) m) fun x2 m=>
  brb x2
  (bp (pur (bin .eql true true .int p11 (.int .i64 0)) m) fun x3 m=>
  brb x3
  (bp (pur (bin .eql true true .int p13 (.int .i64 0)) m) fun x4 m=>
  brb x4
  (bp (pur (bin .eql true true .int p15 (.int .i64 0)) m) fun x5 m=>
  brb x5
  (bp (pur (aFieldAddr 0 p6) m) fun x6 m=>
  bp (pur (aLoad false 1 x6 m) m) fun x7 m=>
  bp (pur (bin .eql true true .int x7 (.int .u64 512)) m) fun x8 m=>
  brb x8
  (bp (pur (aFieldAddr 1 p6) m) fun x9 m=>
  bp (pur (aLoad false 1 x9 m) m) fun x10 m=>
  bp (pur (bin .eql true true .int x10 (.int .u64 0)) m) fun x11 m=>
  brb x11
  (bp (pur (lenK 1 p8 m) m) fun x12 m=>
  bp (pur (bin .eql true true .int x12 (.int .i64 1)) m) fun x13 m=>
  brb x13
  (bp (pur (aIndexAddrSl 2 p8 (.int .i64 0)) m) fun x14 m=>
  bp (pur (aFieldAddr 0 x14) m) fun x15 m=>
  bp (pur (aLoad false 1 x15 m) m) fun x16 m=>
  bp (pur (bin .eql true true .int x16 (.int .i64 1)) m) fun x17 m=>
  brb x17
  (bp (pur (aIndexAddrSl 2 p8 (.int .i64 0)) m) fun x18 m=>
  bp (pur (aFieldAddr 1 x18) m) fun x19 m=>
  bp (pur (aLoad false 1 x19 m) m) fun x20 m=>
  bp (pur (bin .eql true true .int x20 (.int .i64 0)) m) fun x21 m=>
  brb x21
  (brb p12
  (bp (pur (un .not p14) m) fun x22 m=>
  Qv G x22 m)
  (Qv G (.bool false) m))
  (Qv G (.bool false) m))
  (Qv G (.bool false) m))
  (Qv G (.bool false) m))
  (Qv G (.bool false) m))
  (Qv G (.bool false) m))
  (Qv G (.bool false) m))
  (Qv G (.bool false) m))
  (Qv G (.bool false) m))
  (Qv G (.bool false) m))
  (Qv G (.bool false) m))
  (Qv G (.bool false) m)
def Qyu (G:Gt)(p1 p10 p5 p7 p9 p11 p13 p6 p8 p12:V)(m:M):R:=
  bp (G.tab Q27 [p1] m) fun x23 m=>
  bp (pur (aBuild Q1jy [(0,1),(1,1),(2,1),(3,1),(4,1)] [(1,(.int .u32 167903239))]) m) fun x24 m=>
  bp (G.tab Q10f [x23,p10,x24] m) fun x25 m=>
  bp (pur (aExtract x25 0) m) fun x26 m=>
  bp (pur (aExtract x25 1) m) fun x27 m=>
  Qyt G p5 p7 p9 p11 p13 x27 p6 p8 p12 x26 m
def Qyv (G:Gt)(p1 p10 p5 p7 p9 p11 p6 p8:V)(m:M):R:=
  bp (G.tab Q27 [p1] m) fun x28 m=>
  bp (pur (aBuild Q1jy [(0,1),(1,1),(2,1),(3,1),(4,1)] [(1,(.int .u32 167903495))]) m) fun x29 m=>
  bp (G.tab Q10f [x28,p10,x29] m) fun x30 m=>
  bp (pur (aExtract x30 0) m) fun x31 m=>
  bp (pur (aExtract x30 1) m) fun x32 m=>
  Qyu G p1 p10 p5 p7 p9 p11 x32 p6 p8 x31 m
def Qyw (G:Gt)(p1 p3 p5 p7 p9 p6 p8:V)(m:M):R:=
  bp (pur (aLoad true 2 p3 m) m) fun x33 m=>
  bp (G.tab Qag [p1,x33,(.int .i64 0),(.int .i64 1)] m) fun x34 m=>
  bp (pur (aExtract x34 0) m) fun x35 m=>
  bp (pur (aExtract x34 1) m) fun x36 m=>
  Qyv G p1 x35 p5 p7 p9 x36 p6 p8 m
def Qyx (G:Gt)(p1 p3 p5 p7 p6:V)(m:M):R:=
  bp (pur (aLoad true 2 p3 m) m) fun x37 m=>
  bp (G.tab Qd8 [p1,x37] m) fun x38 m=>
  bp (pur (aExtract x38 0) m) fun x39 m=>
  bp (pur (aExtract x38 1) m) fun x40 m=>
  Qyw G p1 p3 p5 p7 x40 p6 x39 m
def Qyy (G:Gt)(p1 p4 p3 p5:V)(m:M):R:=
  bp (G.tab Q27 [p1] m) fun x41 m=>
  bp (G.tab Q17c [x41,p4] m) fun x42 m=>
  bp (pur (aExtract x42 0) m) fun x43 m=>
  bp (pur (aExtract x42 1) m) fun x44 m=>
  bp (some (aNew Qd5 Q31 m)) fun x45 m=>
  bp (unt (aStore 2 x45 x43 m)) fun _ m=>
  Qyx G p1 p3 p5 x44 x45 m
def Qyz (G:Gt)(p1 p3:V)(m:M):R:=
  bp (pur (aLoad true 2 p3 m) m) fun x46 m=>
  bp (G.tab Q3c [p1,x46,(.int .u8 1)] m) fun x47 m=>
  bp (pur (aExtract x47 0) m) fun x48 m=>
  bp (pur (aExtract x47 1) m) fun x49 m=>
  Qyy G p1 x48 p3 x49 m
def Qjk (G:Gt)(p27 p1 p3:V)(m:M):R:=
  brb p27
  (some ((.bool false),m))
  (Qyz G p1 p3 m)
def Qz0 (G:Gt)(p2 p1 p3:V)(m:M):R:=
  bp (pur (bin .neq true true .int p2 (.int .i64 0)) m) fun x50 m=>
  brb x50
  (Qjk G (.bool true) p1 p3 m)
  (bp (pur (binP m .eql true true .ptr p1 (.pointer none)) m) fun x51 m=>
  Qjk G x51 p1 p3 m)
def Qz1 (G:Gt)(p2 p1:V)(m:M):R:=
  bp (pur (aBuild Q1x [(0,1),(1,1)] [(0,(.int .i64 0)),(1,(.int .i64 1))]) m) fun x52 m=>
  bp (some (aNew Qw Q1x m)) fun x53 m=>
  bp (unt (aStore 2 x53 x52 m)) fun _ m=>
  Qz0 G p2 p1 x53 m
def Qz2 (G:Gt)(m:M):R:=
  bp (G.tab Q13 [] m) fun x54 m=>
  bp (G.tab Qi4 [x54,(.int .i64 4194304)] m) fun x55 m=>
  bp (pur (aExtract x55 0) m) fun x56 m=>
  bp (pur (aExtract x55 1) m) fun x57 m=>
  Qz1 G x57 x56 m
def Qpn (G:Gt)(m:M):R:=
  Qz2 G m
theorem Q1g1 (G:Gt)(m:M):ef G Tryz.f4 [] m = Qpn G m:=
  evFn_of (r:=fun r m=>Qpn G m) rfl rfl (tr (seqQ (f:=fun r m=>Qz2 G m) (tr (seqQ (f:=fun r m=>Qz1 G (r 2) (r 1) m) (tr (seqQ (f:=fun r m=>Qz0 G (r 2) (r 1) (r 3) m) (tr (tr (seqQ (f:=fun r m=>Qyz G (r 1) (r 3) m) (tr (seqQ (f:=fun r m=>Qyy G (r 1) (r 4) (r 3) (r 5) m) (tr (seqQ (f:=fun r m=>Qyx G (r 1) (r 3) (r 5) (r 7) (r 6) m) (tr (seqQ (f:=fun r m=>Qyw G (r 1) (r 3) (r 5) (r 7) (r 9) (r 6) (r 8) m) (tr (seqQ (f:=fun r m=>Qyv G (r 1) (r 10) (r 5) (r 7) (r 9) (r 11) (r 6) (r 8) m) (tr (seqQ (f:=fun r m=>Qyu G (r 1) (r 10) (r 5) (r 7) (r 9) (r 11) (r 13) (r 6) (r 8) (r 12) m) (tr (seqQ (f:=fun r m=>Qyt G (r 5) (r 7) (r 9) (r 11) (r 13) (r 15) (r 6) (r 8) (r 12) (r 14) m) (tr (seqQ (f:=fun r m=>Qv G (r 0) m) (fun r m=>by kernel_rfl)) (fun r m=>by kernel_rfl))) (fun r m=>by kernel_rfl))) (fun r m=>by kernel_rfl))) (fun r m=>by kernel_rfl))) (fun r m=>by kernel_rfl))) (fun r m=>by kernel_rfl))) (fun r m=>by kernel_rfl))) (seqQ (f:=fun r m=>Qjk G (r 27) (r 1) (r 3) m) (fun r m=>by kernel_rfl))) (fun r m=>by kernel_rfl))) (fun r m=>by kernel_rfl))) (fun r m=>by kernel_rfl))) (fun r m=>by kernel_rfl)) m
def Q1ff:En:=⟨Qpl,Tryz.f4,Tryz.func4,by kernel_rfl,arg0 (fun G  m=>Qpn G m),okarg0 Q1g1⟩
end
end Go.Ab.Sh

set_option linter.unusedVariables false
set_option maxRecDepth 100000
namespace Go.Ab.Sh
open Go Go.Ab Go.Proofs
noncomputable section
def Qkx (G:Gt)(p20 p2 p8:V)(m:M):R:=
  brb p20
  (some (.tuple ⟨[(.int .i64 0),(.int .i64 1)]⟩,m))
  (bp (pur (aFieldAddr 0 p8) m) fun x0 m=>
  bp (pur (aIndexAddrArr 8 1 x0 p2) m) fun x1 m=>
  bp (pur (aLoad false 1 x1 m) m) fun x2 m=>
  some (.tuple ⟨[x2,(.int .i64 0)]⟩,m))
def Qz3 (G:Gt)(p16 p9 p2 p8:V)(m:M):R:=
  brb p16
  (some (.tuple ⟨[(.int .i64 0),p9]⟩,m))
  (bp (pur (bin .lss true true .int p2 (.int .u8 1)) m) fun x3 m=>
  brb x3
  (Qkx G (.bool true) p2 p8 m)
  (bp (pur (bin .gtr true true .int p2 (.int .u8 7)) m) fun x4 m=>
  Qkx G x4 p2 p8 m))
def Qz4 (G:Gt)(p9 p2 p8:V)(m:M):R:=
  bp (pur (bin .neq true true .int p9 (.int .i64 0)) m) fun x5 m=>
  Qz3 G x5 p9 p2 p8 m
def Qz5 (G:Gt)(p0 p4 p2:V)(m:M):R:=
  bp (pur (aLoad true 2 p4 m) m) fun x6 m=>
  bp (G.tab Qiq [p0,x6] m) fun x7 m=>
  bp (pur (aExtract x7 0) m) fun x8 m=>
  bp (pur (aExtract x7 1) m) fun x9 m=>
  bp (some (aNew Qfa Q8l m)) fun x10 m=>
  bp (unt (aStore 9 x10 x8 m)) fun _ m=>
  Qz4 G x9 p2 x10 m
def Qpo (G:Gt)(p1 p0 p2:V)(m:M):R:=
  bp (some (aNew Qw (Value.cells p1).toList m)) fun x11 m=>
  Qz5 G p0 x11 p2 m
theorem Q1g2 (G:Gt)(a0 a1 a2:V)(m:M):ef G Tryz.f5 [a0,a1,a2] m = Qpo G a1 a0 a2 m:=
  evFn_of (r:=fun r m=>Qpo G (r 1) (r 0) (r 2) m) rfl rfl (tr (seqQ (f:=fun r m=>Qz5 G (r 0) (r 4) (r 2) m) (tr (seqQ (f:=fun r m=>Qz4 G (r 9) (r 2) (r 8) m) (tr (tr seqD (blockQ (seqQ (f:=fun r m=>Qz3 G (r 16) (r 9) (r 2) (r 8) m) (tr (condQ (refQ) (seqQ (f:=fun r m=>Qkx G (r 20) (r 2) (r 8) m) (fun r m=>by kernel_rfl))) (fun r m=>by kernel_rfl))))) (fun r m=>by kernel_rfl))) (fun r m=>by kernel_rfl))) (fun r m=>by kernel_rfl)) m
def Q1fa:En:=⟨Q3c,Tryz.f5,Tryz.func5,by kernel_rfl,arg3 (fun G a0 a1 a2 m=>Qpo G a1 a0 a2 m),okarg3 Q1g2⟩
def Qup (G:Gt)(p8 p7:V)(m:M):R:=
  some (.tuple ⟨[p8,p7]⟩,m)
def Qi5 (G:Gt):Nat → V → V → V → V → V → M → R
 | 0,_,_,_,_,_,_=>none
 | i + 1,p20,p19,p18,p8,p7,m=>
  bp (pur (bin .lss false true .int p20 p19) m) fun x0 m=>
  brb x0
  (bp (pur (aIndexAddrSl 3 p18 p20) m) fun x1 m=>
  bp (pur (aLoad true 3 x1 m) m) fun x2 m=>
  bp (some (aNew Qzk Qzl m)) fun x3 m=>
  bp (unt (aStore 3 x3 x2 m)) fun _ m=>
  bp (pur (aFieldAddr 0 x3) m) fun x4 m=>
  bp (pur (aLoad true 2 x4 m) m) fun x5 m=>
  bp (aBuildSlice Qw Q1x 2 1 [(0,x5)] m) fun x6 m=>
  bp (apS Qw 2 16 p8 x6 m) fun x7 m=>
  bp (pur (bin .add true true .int p20 (.int .i64 1)) m) fun x8 m=>
  (Qi5 G i) x8 p19 p18 x7 p7 m)
  (Qup G p8 p7 m)
def Quq (G:Gt)(p20 p19 p18 p8 p7:V)(m:M):R:=
  Qi5 G G.rds p20 p19 p18 p8 p7 m
def Qur (G:Gt)(p6 p8 p7:V)(m:M):R:=
  bp (pur (aFieldAddr 8 p6) m) fun x9 m=>
  bp (pur (aLoad false 1 x9 m) m) fun x10 m=>
  bp (pur (lenK 1 x10 m) m) fun x11 m=>
  Quq G (.int .i64 0) x11 x10 p8 p7 m
def Qus (G:Gt)(p6 p7:V)(m:M):R:=
  Qur G p6 (.slice none 0 0) p7 m
def Qut (G:Gt)(p0 p3:V)(m:M):R:=
  bp (pur (aLoad true 2 p3 m) m) fun x12 m=>
  bp (G.tab Qiq [p0,x12] m) fun x13 m=>
  bp (pur (aExtract x13 0) m) fun x14 m=>
  bp (pur (aExtract x13 1) m) fun x15 m=>
  bp (some (aNew Qfa Q8l m)) fun x16 m=>
  bp (unt (aStore 9 x16 x14 m)) fun _ m=>
  Qus G x16 x15 m
def Qky (G:Gt)(p1 p0:V)(m:M):R:=
  bp (some (aNew Qw (Value.cells p1).toList m)) fun x17 m=>
  Qut G p0 x17 m
theorem Q1d6 (G:Gt)(a0 a1:V)(m:M):ef G Tryz.f6 [a0,a1] m = Qky G a1 a0 m:=
  evFn_of (r:=fun r m=>Qky G (r 1) (r 0) m) rfl rfl (tr (seqQ (f:=fun r m=>Qut G (r 0) (r 3) m) (tr (seqQ (f:=fun r m=>Qus G (r 6) (r 7) m) (tr (seqQ (f:=fun r m=>Qur G (r 6) (r 8) (r 7) m) (tr (tr (seqQ (f:=fun r m=>Qup G (r 8) (r 7) m) (fun r m=>by kernel_rfl)) (seqQ (f:=fun r m=>Quq G (r 20) (r 19) (r 18) (r 8) (r 7) m) (tr (blockQ (loopQ (fun i r m=>Qi5 G i (r 20) (r 19) (r 18) (r 8) (r 7) m) (fun _ _=>rfl) (fun i0=>fun r m=>by kernel_rfl))) (fun r m=>by kernel_rfl)))) (fun r m=>by kernel_rfl))) (fun r m=>by kernel_rfl))) (fun r m=>by kernel_rfl))) (fun r m=>by kernel_rfl)) m
def Q1cs:En:=⟨Qd8,Tryz.f6,Tryz.func6,by kernel_rfl,arg2 (fun G a0 a1 m=>Qky G a1 a0 m),okarg2 Q1d6⟩
def Qn5 (G:Gt)(p1 p0 p2 p3:V)(m:M):R:=
  bp (some (aNew Qw (Value.cells p1).toList m)) fun x0 m=>
  bp (pur (aLoad true 2 x0 m) m) fun x1 m=>
  bp (G.tab Qi6 [p0,x1,p2,p3,(.func (.func Qd3) #[] #[])] m) fun x2 m=>
  bp (pur (aExtract x2 0) m) fun x3 m=>
  bp (pur (aExtract x2 1) m) fun x4 m=>
  some (.tuple ⟨[x3,x4]⟩,m)
theorem Q1em (G:Gt)(a0 a1 a2 a3:V)(m:M):ef G Tryz.f7 [a0,a1,a2,a3] m = Qn5 G a1 a0 a2 a3 m:=
  evFn_of (r:=fun r m=>Qn5 G (r 1) (r 0) (r 2) (r 3) m) rfl rfl (fun r m=>by kernel_rfl) m
def Q1du:En:=⟨Qag,Tryz.f7,Tryz.func7,by kernel_rfl,arg4 (fun G a0 a1 a2 a3 m=>Qn5 G a1 a0 a2 a3 m),okarg4 Q1em⟩
def Qkz (G:Gt)(p1 p0 p2 p3:V)(m:M):R:=
  bp (some (aNew Qw (Value.cells p1).toList m)) fun x0 m=>
  bp (pur (aLoad true 2 x0 m) m) fun x1 m=>
  bp (G.tab Qi6 [p0,x1,p2,p3,(.func (.func Qw1) #[] #[])] m) fun x2 m=>
  bp (pur (aExtract x2 0) m) fun x3 m=>
  bp (pur (aExtract x2 1) m) fun x4 m=>
  some (.tuple ⟨[x3,x4]⟩,m)
theorem Q1d7 (G:Gt)(a0 a1 a2 a3:V)(m:M):ef G Tryz.f8 [a0,a1,a2,a3] m = Qkz G a1 a0 a2 a3 m:=
  evFn_of (r:=fun r m=>Qkz G (r 1) (r 0) (r 2) (r 3) m) rfl rfl (fun r m=>by kernel_rfl) m
def Q1cr:En:=⟨Qd7,Tryz.f8,Tryz.func8,by kernel_rfl,arg4 (fun G a0 a1 a2 a3 m=>Qkz G a1 a0 a2 a3 m),okarg4 Q1d7⟩
def Q1ax (G:Gt)(p0 p1:V)(m:M):R:=
  bp (pur (binP m .eql true true .ptr p0 (.pointer none)) m) fun x0 m=>
  brb x0
  (some (.tuple ⟨[(.pointer none),(.int .i64 2)]⟩,m))
  (bp (G.tab Q1q9 [p1] m) fun x1 m=>
  bp (pur (aExtract x1 0) m) fun x2 m=>
  bp (pur (aExtract x1 1) m) fun x3 m=>
  bp (pur (bin .neq true true .int x3 (.int .i64 0)) m) fun x4 m=>
  brb x4
  (some (.tuple ⟨[(.pointer none),(.int .i64 1)]⟩,m))
  (bp (G.tab Qys [x2,p0] m) fun x5 m=>
  bp (pur (aExtract x5 0) m) fun x6 m=>
  bp (pur (aExtract x5 1) m) fun x7 m=>
  some (.tuple ⟨[x6,x7]⟩,m)))
theorem Q1sp (G:Gt)(a0 a1:V)(m:M):ef G Tryz.f9 [a0,a1] m = Q1ax G a0 a1 m:=
  evFn_of (r:=fun r m=>Q1ax G (r 0) (r 1) m) rfl rfl (fun r m=>by kernel_rfl) m
def Q1sb:En:=⟨Qi4,Tryz.f9,Tryz.func9,by kernel_rfl,arg2 Q1ax,okarg2 Q1sp⟩
def Qpp (G:Gt)(m:M):R:=
  bp (G.tab Qpq [(.string ⟨#[104,111,115,116,110,97,109,101,32,97,10,105,110,116,101,114,102,97,99,101,32,101,48,10,32,97,100,100,114,101,115,115,32,49,48,46,48,46,48,46,49,32,50,53,53,46,50,53,53,46,50,53,53,46,48,10,105,110,116,101,114,102,97,99,101,32,108,97,110,10,32,97,100,100,114,101,115,115,32,49,48,46,50,46,48,46,49,32,50,53,53,46,50,53,53,46,50,53,53,46,48,10]⟩)] m) fun x0 m=>
  bp (pur (aExtract x0 0) m) fun x1 m=>
  bp (pur (aExtract x0 1) m) fun x2 m=>
  bp (pur (aExtract x0 2) m) fun x3 m=>
  bp (some (aNew Qx Q1b m)) fun x4 m=>
  bp (some (aNew Qo0 Q65 m)) fun x5 m=>
  bp (unt (aStore 12 x4 x1 m)) fun _ m=>
  bp (unt (aStore 2 x5 x2 m)) fun _ m=>
  bp (G.tab Qpq [(.string ⟨#[104,111,115,116,110,97,109,101,32,98,10,105,110,116,101,114,102,97,99,101,32,101,48,10,32,97,100,100,114,101,115,115,32,49,48,46,48,46,48,46,50,32,50,53,53,46,50,53,53,46,50,53,53,46,48,10,105,110,116,101,114,102,97,99,101,32,108,97,110,10,32,97,100,100,114,101,115,115,32,49,48,46,50,46,49,46,49,32,50,53,53,46,50,53,53,46,50,53,53,46,48,10]⟩)] m) fun x6 m=>
  bp (pur (aExtract x6 0) m) fun x7 m=>
  bp (pur (aExtract x6 1) m) fun x8 m=>
  bp (pur (aExtract x6 2) m) fun x9 m=>
  bp (some (aNew Qx Q1b m)) fun x10 m=>
  bp (some (aNew Qo0 Q65 m)) fun x11 m=>
  bp (unt (aStore 12 x10 x7 m)) fun _ m=>
  bp (unt (aStore 2 x11 x8 m)) fun _ m=>
  bp (pur (aLoad true 12 x4 m) m) fun x12 m=>
  bp (pur (aLoad true 12 x10 m) m) fun x13 m=>
  bp (aBuildSlice Qx Q1b 12 2 [(0,x12),(1,x13)] m) fun x14 m=>
  bp (G.tab Q1oa [x14] m) fun x15 m=>
  bp (pur (aExtract x15 0) m) fun x16 m=>
  bp (pur (aExtract x15 1) m) fun x17 m=>
  bp (pur (bin .neq true true .int x17 (.int .i64 0)) m) fun x18 m=>
  brb x18
  (some ((.pointer none),m))
  (bp (pur (aBuild Q2p [(0,1),(1,1)] [(0,(.int .u32 167772160)),(1,(.int .i64 24))]) m) fun x19 m=>
  bp (pur (aBuild Qb0 [(0,2),(2,1),(3,1),(4,1),(5,1),(6,1),(7,1),(8,1)] [(0,x19),(1,(.int .u8 1)),(5,(.string ⟨#[101,48]⟩))]) m) fun x20 m=>
  bp (some (aNew Qh7 Qb0 m)) fun x21 m=>
  bp (unt (aStore 9 x21 x20 m)) fun _ m=>
  bp (pur (aLoad true 9 x21 m) m) fun x22 m=>
  bp (pur (aBuild Q2p [(0,1),(1,1)] [(0,(.int .u32 167903232)),(1,(.int .i64 24))]) m) fun x23 m=>
  bp (pur (aBuild Qb0 [(0,2),(2,1),(3,1),(4,1),(5,1),(6,1),(7,1),(8,1)] [(0,x23),(1,(.int .u8 1)),(5,(.string ⟨#[108,97,110]⟩))]) m) fun x24 m=>
  bp (pur (aBuild Q2p [(0,1),(1,1)] [(0,(.int .u32 167903488)),(1,(.int .i64 24))]) m) fun x25 m=>
  bp (pur (aBuild Qb0 [(0,2),(2,1),(3,1),(4,1),(5,1),(6,1),(7,1),(8,1)] [(0,x25),(1,(.int .u8 3)),(5,(.string ⟨#[101,48]⟩)),(6,(.int .u32 167772162))]) m) fun x26 m=>
  bp (aBuildSlice Qh7 Qb0 9 3 [(0,x22),(1,x24),(2,x26)] m) fun x27 m=>
  bp (pur (aBuild Q161 [(0,1),(1,1),(2,1)] [(0,(.int .i64 0)),(2,x27)]) m) fun x28 m=>
  bp (pur (aLoad true 9 x21 m) m) fun x29 m=>
  bp (pur (aBuild Q2p [(0,1),(1,1)] [(0,(.int .u32 167903488)),(1,(.int .i64 24))]) m) fun x30 m=>
  bp (pur (aBuild Qb0 [(0,2),(2,1),(3,1),(4,1),(5,1),(6,1),(7,1),(8,1)] [(0,x30),(1,(.int .u8 1)),(5,(.string ⟨#[108,97,110]⟩))]) m) fun x31 m=>
  bp (aBuildSlice Qh7 Qb0 9 2 [(0,x29),(1,x31)] m) fun x32 m=>
  bp (pur (aBuild Q161 [(0,1),(1,1),(2,1)] [(0,(.int .i64 1)),(2,x32)]) m) fun x33 m=>
  bp (aBuildSlice Q1mf Q161 3 2 [(0,x28),(1,x33)] m) fun x34 m=>
  bp (G.tab Q1ob [x16,x34] m) fun x35 m=>
  bp (pur (aExtract x35 0) m) fun x36 m=>
  bp (pur (aExtract x35 1) m) fun x37 m=>
  bp (pur (bin .neq true true .int x37 (.int .i64 0)) m) fun x38 m=>
  brb x38
  (some ((.pointer none),m))
  (some (x36,m)))
theorem Q1g3 (G:Gt)(m:M):ef G Tryz.f10 [] m = Qpp G m:=
  evFn_of (r:=fun r m=>Qpp G m) rfl rfl (fun r m=>by kernel_rfl) m
def Q1fk:En:=⟨Q13,Tryz.f10,Tryz.func10,by kernel_rfl,arg0 (fun G  m=>Qpp G m),okarg0 Q1g3⟩
def Ql0 (G:Gt)(p0:V)(m:M):R:=
  bp (pur (binP m .eql true true .ptr p0 (.pointer none)) m) fun x0 m=>
  brb x0
  (some ((.pointer none),m))
  (bp (pur (aNilCheck p0) m) fun x1 m=>
  bp (pur (aFieldAddr 0 x1) m) fun x2 m=>
  bp (pur (aLoad false 1 x2 m) m) fun x3 m=>
  some (x3,m))
theorem Q1d8 (G:Gt)(a0:V)(m:M):ef G Tryz.f11 [a0] m = Ql0 G a0 m:=
  evFn_of (r:=fun r m=>Ql0 G (r 0) m) rfl rfl (fun r m=>by kernel_rfl) m
def Q1co:En:=⟨Q27,Tryz.f11,Tryz.func11,by kernel_rfl,arg1 Ql0,okarg1 Q1d8⟩
def Qjl (G:Gt)(p0:V)(m:M):R:=
  bp (pur (binP m .eql true true .ptr p0 (.pointer none)) m) fun x0 m=>
  brb x0
  (some ((.slice none 0 0),m))
  (bp (pur (aNilCheck p0) m) fun x1 m=>
  bp (pur (aFieldAddr 2 x1) m) fun x2 m=>
  bp (pur (aLoad false 1 x2 m) m) fun x3 m=>
  bp (G.tab Q5v [x3] m) fun x4 m=>
  some (x4,m))
theorem Q1bp (G:Gt)(a0:V)(m:M):ef G Tryz.f12 [a0] m = Qjl G a0 m:=
  evFn_of (r:=fun r m=>Qjl G (r 0) m) rfl rfl (fun r m=>by kernel_rfl) m
def Q1bk:En:=⟨Qw0,Tryz.f12,Tryz.func12,by kernel_rfl,arg1 Qjl,okarg1 Q1bp⟩
def Q1gt (G:Gt)(p7:V)(m:M):R:=
  some (.tuple ⟨[p7,(.int .i64 0)]⟩,m)
def Q182 (G:Gt):Nat → V → V → V → V → V → M → R
 | 0,_,_,_,_,_,_=>none
 | i + 1,p52,p51,p50,p7,p6,m=>
  bp (pur (bin .lss false true .int p52 p51) m) fun x0 m=>
  brb x0
  (bp (pur (aIndexAddrSl 2 p50 p52) m) fun x1 m=>
  bp (pur (aLoad true 2 x1 m) m) fun x2 m=>
  bp (some (aNew Qw Q1x m)) fun x3 m=>
  bp (unt (aStore 2 x3 x2 m)) fun _ m=>
  bp (pur (aNilCheck p7) m) fun x4 m=>
  bp (pur (aFieldAddr 3 x4) m) fun x5 m=>
  bp (pur (aLoad false 1 x5 m) m) fun x6 m=>
  bp (pur (aLoad true 2 x3 m) m) fun x7 m=>
  bp (pur (aLoad true 2 x3 m) m) fun x8 m=>
  bp (G.tab Qx4 [p6,x8] m) fun x9 m=>
  ckB (again (pur (aLoad false 1 x5 m) m) x6 && (again (pur (aLoad true 2 x3 m) m) x7 && true))
  (bp (unt (aMapUpdate (.struct [(0,1,false,.int),(1,1,false,.int)]) x6 x7 x9 m)) fun _ m=>
  bp (pur (aNilCheck p6) m) fun x10 m=>
  bp (pur (aFieldAddr 4 x10) m) fun x11 m=>
  bp (pur (aLoad false 1 x11 m) m) fun x12 m=>
  bp (pur (bin .neq true true .int x12 (.int .i64 0)) m) fun x13 m=>
  brb x13
  (some (.tuple ⟨[(.pointer none),(.int .i64 3)]⟩,m))
  (bp (pur (bin .add true true .int p52 (.int .i64 1)) m) fun x14 m=>
  (Q182 G i) x14 p51 p50 p7 p6 m)))
  (Q1gt G p7 m)
def Q1gu (G:Gt)(p52 p51 p50 p7 p6:V)(m:M):R:=
  Q182 G G.rds p52 p51 p50 p7 p6 m
def Q1gv (G:Gt)(p7 p6:V)(m:M):R:=
  bp (pur (aNilCheck p7) m) fun x15 m=>
  bp (pur (aFieldAddr 2 x15) m) fun x16 m=>
  bp (pur (aLoad false 1 x16 m) m) fun x17 m=>
  bp (pur (lenK 1 x17 m) m) fun x18 m=>
  Q1gu G (.int .i64 0) x18 x17 p7 p6 m
def Q1gw (G:Gt)(p0 p6 p1:V)(m:M):R:=
  bp (pur (aNilCheck p6) m) fun x19 m=>
  bp (pur (aFieldAddr 3 x19) m) fun x20 m=>
  bp (pur (aLoad false 1 x20 m) m) fun x21 m=>
  bp (some (aMakeMap m)) fun x22 m=>
  bp (G.tab Q16a [p1] m) fun x23 m=>
  ckB (again (pur (aLoad false 1 x20 m) m) x21 && true)
  (bp (pur (aBuild Q1oc [(0,1),(1,1),(2,1),(3,1)] [(0,p0),(1,x21),(2,x23),(3,x22)]) m) fun x24 m=>
  bp (some (aNew Q1od (Value.cells x24).toList m)) fun x25 m=>
  Q1gv G x25 p6 m)
def Q1gx (G:Gt)(p6 p0 p1:V)(m:M):R:=
  bp (pur (aNilCheck p6) m) fun x26 m=>
  bp (pur (aFieldAddr 4 x26) m) fun x27 m=>
  bp (pur (aLoad false 1 x27 m) m) fun x28 m=>
  bp (pur (bin .neq true true .int x28 (.int .i64 0)) m) fun x29 m=>
  brb x29
  (some (.tuple ⟨[(.pointer none),(.int .i64 3)]⟩,m))
  (Q1gw G p0 p6 p1 m)
def Q1gy (G:Gt)(p6 p0 p1:V)(m:M):R:=
  bp (G.tab Q18t [p0] m) fun x30 m=>
  bp (pur (aExtract x30 0) m) fun x31 m=>
  bp (pur (aExtract x30 1) m) fun x32 m=>
  bp (G.tab Q1 [p6,x31,x32] m) fun x33 m=>
  bp (pur (aNilCheck p6) m) fun x34 m=>
  bp (pur (aFieldAddr 3 x34) m) fun x35 m=>
  bp (unt (aStore 1 x35 x33 m)) fun _ m=>
  Q1gx G p6 p0 p1 m
def Q1gz (G:Gt)(p0 p1:V)(m:M):R:=
  bp (G.tab Q10c [p1] m) fun x36 m=>
  bp (G.tab Qpr [x36] m) fun x37 m=>
  bp (pur (aBuild Q1ay [(0,1),(1,1),(2,1),(3,1),(4,1)] [(0,p0),(1,p1),(2,x37)]) m) fun x38 m=>
  bp (some (aNew Q1az (Value.cells x38).toList m)) fun x39 m=>
  Q1gy G x39 p0 p1 m
def Q183 (G:Gt)(p15 p0 p1:V)(m:M):R:=
  brb p15
  (some (.tuple ⟨[(.pointer none),(.int .i64 2)]⟩,m))
  (Q1gz G p0 p1 m)
def Q1h0 (G:Gt)(p0 p1:V)(m:M):R:=
  bp (pur (binP m .eql true true .ptr p0 (.pointer none)) m) fun x40 m=>
  brb x40
  (Q183 G (.bool true) p0 p1 m)
  (bp (pur (binP m .eql true true .ptr p1 (.pointer none)) m) fun x41 m=>
  Q183 G x41 p0 p1 m)
def Q1d9 (G:Gt)(p0 p1:V)(m:M):R:=
  Q1h0 G p0 p1 m
theorem Q1tt (G:Gt)(a0 a1:V)(m:M):ef G Tryz.f13 [a0,a1] m = Q1d9 G a0 a1 m:=
  evFn_of (r:=fun r m=>Q1d9 G (r 0) (r 1) m) rfl rfl (tr (seqQ (f:=fun r m=>Q1h0 G (r 0) (r 1) m) (tr (tr (seqQ (f:=fun r m=>Q1gz G (r 0) (r 1) m) (tr (seqQ (f:=fun r m=>Q1gy G (r 6) (r 0) (r 1) m) (tr (seqQ (f:=fun r m=>Q1gx G (r 6) (r 0) (r 1) m) (tr (seqQ (f:=fun r m=>Q1gw G (r 0) (r 6) (r 1) m) (tr (seqQ (f:=fun r m=>Q1gv G (r 7) (r 6) m) (tr (tr (seqQ (f:=fun r m=>Q1gt G (r 7) m) (fun r m=>by kernel_rfl)) (seqQ (f:=fun r m=>Q1gu G (r 52) (r 51) (r 50) (r 7) (r 6) m) (tr (blockQ (loopQ (fun i r m=>Q182 G i (r 52) (r 51) (r 50) (r 7) (r 6) m) (fun _ _=>rfl) (fun i0=>fun r m=>by kernel_rfl))) (fun r m=>by kernel_rfl)))) (fun r m=>by kernel_rfl))) (fun r m=>by kernel_rfl))) (fun r m=>by kernel_rfl))) (fun r m=>by kernel_rfl))) (fun r m=>by kernel_rfl))) (seqQ (f:=fun r m=>Q183 G (r 15) (r 0) (r 1) m) (fun r m=>by kernel_rfl))) (fun r m=>by kernel_rfl))) (fun r m=>by kernel_rfl)) m
def Q1to:En:=⟨Qys,Tryz.f13,Tryz.func13,by kernel_rfl,arg2 Q1d9,okarg2 Q1tt⟩
def Quu (G:Gt)(p0 p1:V)(m:M):R:=
  bp (some (aNew Qd5 Q31 m)) fun x0 m=>
  bp (aBuildSlice Q7o [(.int .i64 0)] 1 1 [(0,p1)] m) fun x1 m=>
  bp (G.tab Qb2 [p0,x1,(.slice none 0 0)] m) fun x2 m=>
  bp (pur (bin .neq true true .int x2 (.int .i64 0)) m) fun x3 m=>
  brb x3
  (bp (pur (aBuild Q31 [(0,1),(1,1)] []) m) fun x4 m=>
  bp (unt (aStore 2 x0 x4 m)) fun _ m=>
  ob (ob (aLoad true 2 x0 m) fun v=>ob (some [x2]) fun l=>some (v :: l)) fun l=>some (resVal l,m))
  (bp (pur (aNilCheck p0) m) fun x5 m=>
  bp (pur (aFieldAddr 0 x5) m) fun x6 m=>
  bp (pur (aLoad false 1 x6 m) m) fun x7 m=>
  bp (G.tab Q1q6 [(.func (.func Qnz) #[] #[])] m) fun x8 m=>
  ckB (again (pur (aLoad false 1 x6 m) m) x7 && true)
  (bp (G.tab Q16l [x7,p1,x8] m) fun x9 m=>
  bp (pur (aExtract x9 0) m) fun x10 m=>
  bp (pur (aExtract x9 1) m) fun x11 m=>
  bp (unt (aStore 2 x0 x10 m)) fun _ m=>
  ob (ob (aLoad true 2 x0 m) fun v=>ob (some [x11]) fun l=>some (v :: l)) fun l=>some (resVal l,m)))
theorem Q1jz (G:Gt)(a0 a1:V)(m:M):ef G Tryz.f14 [a0,a1] m = Quu G a0 a1 m:=
  evFn_of (r:=fun r m=>Quu G (r 0) (r 1) m) rfl rfl (fun r m=>by kernel_rfl) m
def Q1je:En:=⟨Q17c,Tryz.f14,Tryz.func14,by kernel_rfl,arg2 Quu,okarg2 Q1jz⟩
def Q10g (G:Gt)(p2 p0 p1:V)(m:M):R:=
  bp (some (aNew Q12n (Value.cells p2).toList m)) fun x0 m=>
  bp (aBuildSlice Q7o [(.int .i64 0)] 1 1 [(0,p1)] m) fun x1 m=>
  bp (G.tab Qb2 [p0,x1,(.slice none 0 0)] m) fun x2 m=>
  bp (pur (bin .neq true true .int x2 (.int .i64 0)) m) fun x3 m=>
  brb x3
  (some (.tuple ⟨[(.bool false),x2]⟩,m))
  (bp (aMakeSlice Q1yj [(.bool false)] 1 1 (.int .i64 208) (.int .i64 208) m) fun x4 m=>
  bp (pur (aLoad true 5 x0 m) m) fun x5 m=>
  bp (G.tab Q1q7 [x4,x5,(.func (.func Qnz) #[] #[])] m) fun x6 m=>
  bp (pur (aNilCheck p0) m) fun x7 m=>
  bp (pur (aFieldAddr 0 x7) m) fun x8 m=>
  bp (pur (aLoad false 1 x8 m) m) fun x9 m=>
  bp (G.tab Q1by [x9,p1,x4] m) fun x10 m=>
  bp (pur (aExtract x10 0) m) fun x11 m=>
  bp (pur (aExtract x10 1) m) fun x12 m=>
  some (.tuple ⟨[x11,x12]⟩,m))
theorem Q1n3 (G:Gt)(a0 a1 a2:V)(m:M):ef G Tryz.f15 [a0,a1,a2] m = Q10g G a2 a0 a1 m:=
  evFn_of (r:=fun r m=>Q10g G (r 2) (r 0) (r 1) m) rfl rfl (fun r m=>by kernel_rfl) m
def Q1mo:En:=⟨Q10f,Tryz.f15,Tryz.func15,by kernel_rfl,arg3 (fun G a0 a1 a2 m=>Q10g G a2 a0 a1 m),okarg3 Q1n3⟩
def Qri (G:Gt)(p1 p0:V)(m:M):R:=
  bp (some (aNew Qw (Value.cells p1).toList m)) fun x0 m=>
  bp (some (aNew Qfa Q8l m)) fun x1 m=>
  bp (pur (binP m .eql true true .ptr p0 (.pointer none)) m) fun x2 m=>
  brb x2
  (bp (pur (aBuild Q8l [(0,8),(8,1)] []) m) fun x3 m=>
  bp (unt (aStore 9 x1 x3 m)) fun _ m=>
  ob (ob (aLoad true 9 x1 m) fun v=>ob (some [(.int .i64 2)]) fun l=>some (v :: l)) fun l=>some (resVal l,m))
  (bp (pur (aNilCheck p0) m) fun x4 m=>
  bp (pur (aFieldAddr 3 x4) m) fun x5 m=>
  bp (pur (aLoad false 1 x5 m) m) fun x6 m=>
  bp (pur (aLoad true 2 x0 m) m) fun x7 m=>
  bp (pur (aLookup (.struct [(0,1,false,.int),(1,1,false,.int)]) (.agg #[(.int .i64 0),(.int .i64 0),(.int .i64 0),(.int .i64 0),(.int .i64 0),(.int .i64 0),(.int .i64 0),(.int .i64 0),(.slice none 0 0)]) true x6 x7 m) m) fun x8 m=>
  bp (pur (aExtract x8 0) m) fun x9 m=>
  bp (pur (aExtract x8 1) m) fun x10 m=>
  bp (some (aNew Qfa Q8l m)) fun x11 m=>
  bp (unt (aStore 9 x11 x9 m)) fun _ m=>
  bp (pur (un .not x10) m) fun x12 m=>
  brb x12
  (bp (pur (aBuild Q8l [(0,8),(8,1)] []) m) fun x13 m=>
  bp (unt (aStore 9 x1 x13 m)) fun _ m=>
  ob (ob (aLoad true 9 x1 m) fun v=>ob (some [(.int .i64 1)]) fun l=>some (v :: l)) fun l=>some (resVal l,m))
  (bp (pur (aLoad true 9 x11 m) m) fun x14 m=>
  bp (unt (aStore 9 x1 x14 m)) fun _ m=>
  ob (ob (aLoad true 9 x1 m) fun v=>ob (some [(.int .i64 0)]) fun l=>some (v :: l)) fun l=>some (resVal l,m)))
theorem Q1if (G:Gt)(a0 a1:V)(m:M):ef G Tryz.f16 [a0,a1] m = Qri G a1 a0 m:=
  evFn_of (r:=fun r m=>Qri G (r 1) (r 0) m) rfl rfl (fun r m=>by kernel_rfl) m
def Q1i2:En:=⟨Qiq,Tryz.f16,Tryz.func16,by kernel_rfl,arg2 (fun G a0 a1 m=>Qri G a1 a0 m),okarg2 Q1if⟩
end
end Go.Ab.Sh
