/-
  Functions of the program as plain definitions. No conditions.
-/
import Derived.Test.YtoahkkdbdiamcaaGreatDoorAb5
import Derived.Test.YtoahkkdbdiamcaaGreatDoorZ
import Derived.KernelRfl
import Derived.Test.YtoahkkdbdiamcaaGreatDoorProg
set_option linter.unusedVariables false
set_option maxRecDepth 100000
namespace Go.Ab.Sh
open Go Go.Ab Go.Proofs
noncomputable section
def Q5 (G:Gt)(p0:V)(m:M):R:=
  some (p0,m)
def Qrr (G:Gt)(p3 p5 p8 p12 p15 p13 p14 p17 p19 p21 p1 p23 p25 p27 p29 p28:V)(m:M):R:=
  bp (pur (bin .eql true true .int p3 (.int .i64 2)) m) fun x0 m=>
  brb x0
  (bp (pur (bin .eql true true .int p5 (.int .i64 2)) m) fun x1 m=>
  brb x1
  (bp (pur (bin .eql true true .int p8 (.int .i64 2)) m) fun x2 m=>
  brb x2
  (bp (pur (bin .eql true true .int p12 (.int .i64 1)) m) fun x3 m=>
  brb x3
  (bp (pur (bin .eql true true .int p15 (.int .i64 0)) m) fun x4 m=>
  brb x4
  (bp (pur (lenK 1 p13 m) m) fun x5 m=>
  bp (pur (lenK 1 p14 m) m) fun x6 m=>
  bp (pur (bin .add false true .int x5 x6) m) fun x7 m=>
  bp (pur (bin .eql true true .int x7 (.int .i64 0)) m) fun x8 m=>
  brb x8
  (bp (pur (bin .eql true true .int p17 (.int .i64 0)) m) fun x9 m=>
  brb x9
  (bp (pur (bin .eql true true .int p19 (.int .i64 0)) m) fun x10 m=>
  brb x10
  (bp (pur (bin .eql true true .int p21 (.int .i64 1)) m) fun x11 m=>
  brb x11
  (bp (G.tab Qy2 [p1] m) fun x12 m=>
  bp (pur (binP m .eql true true .ptr x12 (.pointer none)) m) fun x13 m=>
  brb x13
  (bp (G.tab Qm0 [p1] m) fun x14 m=>
  bp (pur (lenK 1 x14 m) m) fun x15 m=>
  bp (pur (bin .eql true true .int x15 (.int .i64 0)) m) fun x16 m=>
  brb x16
  (bp (pur (bin .eql true true .int p23 (.int .i64 0)) m) fun x17 m=>
  brb x17
  (bp (pur (bin .eql true true .int p25 (.int .i64 0)) m) fun x18 m=>
  brb x18
  (bp (pur (bin .eql true true .int p27 (.int .i64 0)) m) fun x19 m=>
  brb x19
  (bp (pur (bin .eql true true .int p29 (.int .i64 0)) m) fun x20 m=>
  brb x20
  (bp (G.tab Qm0 [p28] m) fun x21 m=>
  bp (pur (lenK 1 x21 m) m) fun x22 m=>
  bp (pur (bin .eql true true .int x22 (.int .i64 0)) m) fun x23 m=>
  Q5 G x23 m)
  (Q5 G (.bool false) m))
  (Q5 G (.bool false) m))
  (Q5 G (.bool false) m))
  (Q5 G (.bool false) m))
  (Q5 G (.bool false) m))
  (Q5 G (.bool false) m))
  (Q5 G (.bool false) m))
  (Q5 G (.bool false) m))
  (Q5 G (.bool false) m))
  (Q5 G (.bool false) m))
  (Q5 G (.bool false) m))
  (Q5 G (.bool false) m))
  (Q5 G (.bool false) m))
  (Q5 G (.bool false) m))
  (Q5 G (.bool false) m)
def Qrs (G:Gt)(p26 p3 p5 p8 p12 p15 p13 p14 p17 p19 p21 p1 p23 p25 p27:V)(m:M):R:=
  bp (G.tab Q18x [p26] m) fun x24 m=>
  bp (pur (aExtract x24 0) m) fun x25 m=>
  bp (pur (aExtract x24 1) m) fun x26 m=>
  Qrr G p3 p5 p8 p12 p15 p13 p14 p17 p19 p21 p1 p23 p25 p27 x26 x25 m
def Qrt (G:Gt)(p24 p3 p5 p8 p12 p15 p13 p14 p17 p19 p21 p1 p23 p25:V)(m:M):R:=
  bp (G.tab Q18y [p24,(.int .i64 4194304)] m) fun x27 m=>
  bp (pur (aExtract x27 0) m) fun x28 m=>
  bp (pur (aExtract x27 1) m) fun x29 m=>
  Qrs G x28 p3 p5 p8 p12 p15 p13 p14 p17 p19 p21 p1 p23 p25 x29 m
def Qru (G:Gt)(p22 p3 p5 p8 p12 p15 p13 p14 p17 p19 p21 p1 p23:V)(m:M):R:=
  bp (G.tab Q1nn [p22,(.slice none 0 0)] m) fun x30 m=>
  bp (pur (aExtract x30 0) m) fun x31 m=>
  bp (pur (aExtract x30 1) m) fun x32 m=>
  Qrt G x31 p3 p5 p8 p12 p15 p13 p14 p17 p19 p21 p1 p23 x32 m
def Qrv (G:Gt)(p3 p5 p8 p12 p15 p13 p14 p17 p19 p21 p1:V)(m:M):R:=
  bp (G.tab Q1nl [(.slice none 0 0)] m) fun x33 m=>
  bp (pur (aExtract x33 0) m) fun x34 m=>
  bp (pur (aExtract x33 1) m) fun x35 m=>
  Qru G x34 p3 p5 p8 p12 p15 p13 p14 p17 p19 p21 p1 x35 m
def Qrw (G:Gt)(p18 p3 p5 p8 p12 p15 p13 p14 p17 p19 p1:V)(m:M):R:=
  bp (pur (aBuild Qo [(0,1),(1,1)] [(0,(.int .i64 1)),(1,(.int .i64 1))]) m) fun x36 m=>
  bp (G.tab Qsq [p18,x36] m) fun x37 m=>
  bp (pur (aExtract x37 0) m) fun x38 m=>
  bp (pur (aExtract x37 1) m) fun x39 m=>
  Qrv G p3 p5 p8 p12 p15 p13 p14 p17 p19 x39 p1 m
def Qtu (G:Gt)(p16 p3 p5 p8 p12 p15 p13 p14 p17 p1:V)(m:M):R:=
  bp (G.tab Q18x [p16] m) fun x40 m=>
  bp (pur (aExtract x40 0) m) fun x41 m=>
  bp (pur (aExtract x40 1) m) fun x42 m=>
  Qrw G x41 p3 p5 p8 p12 p15 p13 p14 p17 x42 p1 m
def Qtv (G:Gt)(p9 p3 p5 p8 p12 p15 p13 p14 p1:V)(m:M):R:=
  bp (G.tab Q18y [p9,(.int .i64 4194304)] m) fun x43 m=>
  bp (pur (aExtract x43 0) m) fun x44 m=>
  bp (pur (aExtract x43 1) m) fun x45 m=>
  Qtu G x44 p3 p5 p8 p12 p15 p13 p14 x45 p1 m
def Qtw (G:Gt)(p9 p3 p5 p8 p12 p1:V)(m:M):R:=
  bp (pur (aBuild Qo [(0,1),(1,1)] []) m) fun x46 m=>
  bp (pur (aBuild Q18z [(0,1),(1,1),(2,1),(3,1),(4,1)] [(1,(.int .u32 134744072))]) m) fun x47 m=>
  bp (G.tab Q13d [p9,x46,x47] m) fun x48 m=>
  bp (pur (aExtract x48 0) m) fun x49 m=>
  bp (pur (aExtract x48 1) m) fun x50 m=>
  bp (pur (aExtract x48 2) m) fun x51 m=>
  Qtv G p9 p3 p5 p8 p12 x51 x49 x50 p1 m
def Qtx (G:Gt)(p9 p3 p5 p8 p1:V)(m:M):R:=
  bp (pur (aBuild Qo [(0,1),(1,1)] [(0,(.int .i64 2))]) m) fun x52 m=>
  bp (pur (aBuild Q18z [(0,1),(1,1),(2,1),(3,1),(4,1)] []) m) fun x53 m=>
  bp (G.tab Q13d [p9,x52,x53] m) fun x54 m=>
  bp (pur (aExtract x54 0) m) fun x55 m=>
  bp (pur (aExtract x54 1) m) fun x56 m=>
  bp (pur (aExtract x54 2) m) fun x57 m=>
  Qtw G p9 p3 p5 p8 x57 p1 m
def Qty (G:Gt)(p3 p5 p8 p1:V)(m:M):R:=
  bp (G.tab Qvb [] m) fun x58 m=>
  Qtx G x58 p3 p5 p8 p1 m
def Qtz (G:Gt)(p3 p5 p1:V)(m:M):R:=
  bp (pur (aBuild Qo [(0,1),(1,1)] []) m) fun x59 m=>
  bp (pur (aBuild Q18z [(0,1),(1,1),(2,1),(3,1),(4,1)] []) m) fun x60 m=>
  bp (G.tab Q13d [(.pointer none),x59,x60] m) fun x61 m=>
  bp (pur (aExtract x61 0) m) fun x62 m=>
  bp (pur (aExtract x61 1) m) fun x63 m=>
  bp (pur (aExtract x61 2) m) fun x64 m=>
  Qty G p3 p5 x64 p1 m
def Qu0 (G:Gt)(p3 p1:V)(m:M):R:=
  bp (G.tab Q18x [(.pointer none)] m) fun x65 m=>
  bp (pur (aExtract x65 0) m) fun x66 m=>
  bp (pur (aExtract x65 1) m) fun x67 m=>
  Qtz G p3 x67 p1 m
def Qu1 (G:Gt)(p1:V)(m:M):R:=
  bp (pur (aBuild Qo [(0,1),(1,1)] []) m) fun x68 m=>
  bp (G.tab Qsq [p1,x68] m) fun x69 m=>
  bp (pur (aExtract x69 0) m) fun x70 m=>
  bp (pur (aExtract x69 1) m) fun x71 m=>
  Qu0 G x71 p1 m
def Qu2 (G:Gt)(m:M):R:=
  Qu1 G (.pointer none) m
def Qu3 (G:Gt)(m:M):R:=
  bp (G.tab Qsr [] m) fun x72 m=>
  bp (pur (un .not x72) m) fun x73 m=>
  pkB x73 (.bool true) (.bool false) m fun x74 m=>
  pkB x74 (.bool true) (.bool false) m fun x75 m=>
  pkB x75 (.bool true) (.bool false) m fun x76 m=>
  pkB x76 (.bool true) (.bool false) m fun x77 m=>
  brb x77
  (some ((.bool false),m))
  (Qu2 G m)
def Qli (G:Gt)(m:M):R:=
  Qu3 G m
theorem Q1hw (G:Gt)(m:M):ef G Tryz.f3 [] m = Qli G m:=
  evFn_of (r:=fun r m=>Qli G m) rfl rfl (tr (seqQ (f:=fun r m=>Qu3 G m) (tr (seqQ (f:=fun r m=>Qu2 G m) (tr (seqQ (f:=fun r m=>Qu1 G (r 1) m) (tr (seqQ (f:=fun r m=>Qu0 G (r 3) (r 1) m) (tr (seqQ (f:=fun r m=>Qtz G (r 3) (r 5) (r 1) m) (tr (seqQ (f:=fun r m=>Qty G (r 3) (r 5) (r 8) (r 1) m) (tr (seqQ (f:=fun r m=>Qtx G (r 9) (r 3) (r 5) (r 8) (r 1) m) (tr (seqQ (f:=fun r m=>Qtw G (r 9) (r 3) (r 5) (r 8) (r 12) (r 1) m) (tr (seqQ (f:=fun r m=>Qtv G (r 9) (r 3) (r 5) (r 8) (r 12) (r 15) (r 13) (r 14) (r 1) m) (tr (seqQ (f:=fun r m=>Qtu G (r 16) (r 3) (r 5) (r 8) (r 12) (r 15) (r 13) (r 14) (r 17) (r 1) m) (tr (seqQ (f:=fun r m=>Qrw G (r 18) (r 3) (r 5) (r 8) (r 12) (r 15) (r 13) (r 14) (r 17) (r 19) (r 1) m) (tr (seqQ (f:=fun r m=>Qrv G (r 3) (r 5) (r 8) (r 12) (r 15) (r 13) (r 14) (r 17) (r 19) (r 21) (r 1) m) (tr (seqQ (f:=fun r m=>Qru G (r 22) (r 3) (r 5) (r 8) (r 12) (r 15) (r 13) (r 14) (r 17) (r 19) (r 21) (r 1) (r 23) m) (tr (seqQ (f:=fun r m=>Qrt G (r 24) (r 3) (r 5) (r 8) (r 12) (r 15) (r 13) (r 14) (r 17) (r 19) (r 21) (r 1) (r 23) (r 25) m) (tr (seqQ (f:=fun r m=>Qrs G (r 26) (r 3) (r 5) (r 8) (r 12) (r 15) (r 13) (r 14) (r 17) (r 19) (r 21) (r 1) (r 23) (r 25) (r 27) m) (tr (seqQ (f:=fun r m=>Qrr G (r 3) (r 5) (r 8) (r 12) (r 15) (r 13) (r 14) (r 17) (r 19) (r 21) (r 1) (r 23) (r 25) (r 27) (r 29) (r 28) m) (tr (seqQ (f:=fun r m=>Q5 G (r 0) m) (fun r m=>by kernel_rfl)) (fun r m=>by kernel_rfl))) (fun r m=>by kernel_rfl))) (fun r m=>by kernel_rfl))) (fun r m=>by kernel_rfl))) (fun r m=>by kernel_rfl))) (fun r m=>by kernel_rfl))) (fun r m=>by kernel_rfl))) (fun r m=>by kernel_rfl))) (fun r m=>by kernel_rfl))) (fun r m=>by kernel_rfl))) (fun r m=>by kernel_rfl))) (fun r m=>by kernel_rfl))) (fun r m=>by kernel_rfl))) (fun r m=>by kernel_rfl))) (fun r m=>by kernel_rfl))) (fun r m=>by kernel_rfl))) (fun r m=>by kernel_rfl)) m
def Q1ha:En:=⟨Qlh,Tryz.f3,Tryz.func3,by kernel_rfl,arg0 (fun G  m=>Qli G m),okarg0 Q1hw⟩
def Q1g (G:Gt)(p0:V)(m:M):R:=
  some (p0,m)
def Q13e (G:Gt)(p3 p5 p11 p7 p9 p8 p10 p4:V)(m:M):R:=
  bp (pur (bin .eql true true .int p3 (.int .i64 0)) m) fun x0 m=>
  brt x0
  (bp (pur (bin .eql true true .int p5 (.int .i64 0)) m) fun x1 m=>
  brt x1
  (bp (pur (bin .eql true true .int p11 (.int .i64 0)) m) fun x2 m=>
  brt x2
  (bp (pur (aFieldAddr 0 p7) m) fun x3 m=>
  bp (pur (aLoad false 1 x3 m) m) fun x4 m=>
  bp (pur (bin .eql true true .int x4 (.int .u64 4294967296)) m) fun x5 m=>
  brt x5
  (bp (pur (aFieldAddr 1 p7) m) fun x6 m=>
  bp (pur (aLoad false 1 x6 m) m) fun x7 m=>
  bp (pur (bin .eql true true .int x7 (.int .u64 0)) m) fun x8 m=>
  brt x8
  (bp (pur (lenK 1 p9 m) m) fun x9 m=>
  bp (pur (bin .eql true true .int x9 (.int .i64 1)) m) fun x10 m=>
  brt x10
  (bp (pur (aIndexAddrSl 7 p9 (.int .i64 0)) m) fun x11 m=>
  bp (pur (aFieldAddr 0 x11) m) fun x12 m=>
  bp (pur (aLoad true 2 x12 m) m) fun x13 m=>
  bp (pur (aLoad true 2 p8 m) m) fun x14 m=>
  bp (pur (bin .eql false true (.struct [(0,1,false,.int),(1,1,false,.int)]) x13 x14) m) fun x15 m=>
  brt x15
  (bp (pur (lenK 1 p10 m) m) fun x16 m=>
  bp (pur (bin .eql true true .int x16 (.int .i64 2)) m) fun x17 m=>
  brt x17
  (bp (pur (aIndexAddrSl 7 p10 (.int .i64 0)) m) fun x18 m=>
  bp (pur (aFieldAddr 0 x18) m) fun x19 m=>
  bp (pur (aLoad true 2 x19 m) m) fun x20 m=>
  bp (pur (aBuild Qo [(0,1),(1,1)] [(0,(.int .i64 1))]) m) fun x21 m=>
  bp (pur (bin .eql false true (.struct [(0,1,false,.int),(1,1,false,.int)]) x20 x21) m) fun x22 m=>
  brt x22
  (bp (pur (aIndexAddrSl 7 p10 (.int .i64 1)) m) fun x23 m=>
  bp (pur (aFieldAddr 0 x23) m) fun x24 m=>
  bp (pur (aLoad true 2 x24 m) m) fun x25 m=>
  bp (pur (aBuild Qo [(0,1),(1,1)] [(0,(.int .i64 0))]) m) fun x26 m=>
  bp (pur (bin .eql false true (.struct [(0,1,false,.int),(1,1,false,.int)]) x25 x26) m) fun x27 m=>
  brt x27
  (bp (G.tab Qm0 [p4] m) fun x28 m=>
  bp (pur (lenK 1 x28 m) m) fun x29 m=>
  bp (pur (bin .eql true true .int x29 (.int .i64 3)) m) fun x30 m=>
  Q1g G x30 m)
  (Q1g G (.bool false) m)
  (none))
  (Q1g G (.bool false) m)
  (none))
  (Q1g G (.bool false) m)
  (none))
  (Q1g G (.bool false) m)
  (none))
  (Q1g G (.bool false) m)
  (none))
  (Q1g G (.bool false) m)
  (none))
  (Q1g G (.bool false) m)
  (none))
  (Q1g G (.bool false) m)
  (none))
  (Q1g G (.bool false) m)
  (none))
  (Q1g G (.bool false) m)
  (none)
def Q13f (G:Gt)(p1 p8 p3 p5 p7 p4:V)(m:M):R:=
  bp (pur (aLoad true 2 p8 m) m) fun x31 m=>
  bp (pur (aBuild Q18z [(0,1),(1,1),(2,1),(3,1),(4,1)] [(1,(.int .u32 151587081))]) m) fun x32 m=>
  bp (G.tab Q13d [p1,x31,x32] m) fun x33 m=>
  bp (pur (aExtract x33 0) m) fun x34 m=>
  bp (pur (aExtract x33 1) m) fun x35 m=>
  bp (pur (aExtract x33 2) m) fun x36 m=>
  Q13e G p3 p5 x36 p7 x34 p8 x35 p4 m
def Q13g (G:Gt)(p1 p3 p5 p7 p4:V)(m:M):R:=
  bp (pur (aBuild Qo [(0,1),(1,1)] [(0,(.int .i64 0)),(1,(.int .i64 1))]) m) fun x37 m=>
  bp (some (aNew Q7 Qo m)) fun x38 m=>
  bp (unt (aStore 2 x38 x37 m)) fun _ m=>
  Q13f G p1 x38 p3 p5 p7 p4 m
def Q13h (G:Gt)(p4 p6 p1 p3:V)(m:M):R:=
  bp (G.tab Qy2 [p4] m) fun x39 m=>
  bp (G.tab Q1df [x39,p6] m) fun x40 m=>
  bp (pur (aExtract x40 0) m) fun x41 m=>
  bp (pur (aExtract x40 1) m) fun x42 m=>
  bp (some (aNew Qg0 Q3g m)) fun x43 m=>
  bp (unt (aStore 2 x43 x41 m)) fun _ m=>
  Q13g G p1 p3 x42 x43 p4 m
def Q13i (G:Gt)(p4 p1:V)(m:M):R:=
  bp (pur (aBuild Qo [(0,1),(1,1)] [(0,(.int .i64 1))]) m) fun x44 m=>
  bp (G.tab Qsq [p4,x44] m) fun x45 m=>
  bp (pur (aExtract x45 0) m) fun x46 m=>
  bp (pur (aExtract x45 1) m) fun x47 m=>
  Q13h G p4 x46 p1 x47 m
def Q93 (G:Gt)(p36 p4 p1:V)(m:M):R:=
  brb p36
  (some ((.bool false),m))
  (Q13i G p4 p1 m)
def Q13j (G:Gt)(p1 p3 p5 p4:V)(m:M):R:=
  bp (pur (binP m .eql true true .ptr p1 (.pointer none)) m) fun x48 m=>
  brb x48
  (Q93 G (.bool true) p4 p1 m)
  (bp (pur (bin .neq true true .int p3 (.int .i64 0)) m) fun x49 m=>
  brb x49
  (Q93 G (.bool true) p4 p1 m)
  (bp (pur (bin .neq true true .int p5 (.int .i64 0)) m) fun x50 m=>
  brb x50
  (Q93 G (.bool true) p4 p1 m)
  (bp (pur (binP m .eql true true .ptr p4 (.pointer none)) m) fun x51 m=>
  Q93 G x51 p4 p1 m)))
def Q13k (G:Gt)(p2 p1 p3:V)(m:M):R:=
  bp (G.tab Q18x [p2] m) fun x52 m=>
  bp (pur (aExtract x52 0) m) fun x53 m=>
  bp (pur (aExtract x52 1) m) fun x54 m=>
  Q13j G p1 p3 x54 x53 m
def Q13l (G:Gt)(p1:V)(m:M):R:=
  bp (G.tab Q18y [p1,(.int .i64 4194304)] m) fun x55 m=>
  bp (pur (aExtract x55 0) m) fun x56 m=>
  bp (pur (aExtract x55 1) m) fun x57 m=>
  Q13k G x56 p1 x57 m
def Q13m (G:Gt)(m:M):R:=
  bp (G.tab Qvb [] m) fun x58 m=>
  Q13l G x58 m
def Qss (G:Gt)(m:M):R:=
  Q13m G m
theorem Q1nt (G:Gt)(m:M):ef G Tryz.f4 [] m = Qss G m:=
  evFn_of (r:=fun r m=>Qss G m) rfl rfl (tr (seqQ (f:=fun r m=>Q13m G m) (tr (seqQ (f:=fun r m=>Q13l G (r 1) m) (tr (seqQ (f:=fun r m=>Q13k G (r 2) (r 1) (r 3) m) (tr (seqQ (f:=fun r m=>Q13j G (r 1) (r 3) (r 5) (r 4) m) (tr (tr (seqQ (f:=fun r m=>Q13i G (r 4) (r 1) m) (tr (seqQ (f:=fun r m=>Q13h G (r 4) (r 6) (r 1) (r 3) m) (tr (seqQ (f:=fun r m=>Q13g G (r 1) (r 3) (r 5) (r 7) (r 4) m) (tr (seqQ (f:=fun r m=>Q13f G (r 1) (r 8) (r 3) (r 5) (r 7) (r 4) m) (tr (seqQ (f:=fun r m=>Q13e G (r 3) (r 5) (r 11) (r 7) (r 9) (r 8) (r 10) (r 4) m) (tr (seqQ (f:=fun r m=>Q1g G (r 0) m) (fun r m=>by kernel_rfl)) (fun r m=>by kernel_rfl))) (fun r m=>by kernel_rfl))) (fun r m=>by kernel_rfl))) (fun r m=>by kernel_rfl))) (fun r m=>by kernel_rfl))) (seqQ (f:=fun r m=>Q93 G (r 36) (r 4) (r 1) m) (fun r m=>by kernel_rfl))) (fun r m=>by kernel_rfl))) (fun r m=>by kernel_rfl))) (fun r m=>by kernel_rfl))) (fun r m=>by kernel_rfl))) (fun r m=>by kernel_rfl)) m
def Q1nb:En:=⟨Qsr,Tryz.f4,Tryz.func4,by kernel_rfl,arg0 (fun G  m=>Qss G m),okarg0 Q1nt⟩
def Q15f (G:Gt)(p1 p0:V)(m:M):R:=
  bp (some (aNew Q7 (Value.cells p1).toList m)) fun x0 m=>
  bp (pur (binP m .eql true true .ptr p0 (.pointer none)) m) fun x1 m=>
  brb x1
  (some (.tuple ⟨[(.int .i64 0),(.int .i64 2)]⟩,m))
  (bp (pur (aNilCheck p0) m) fun x2 m=>
  bp (pur (aFieldAddr 2 x2) m) fun x3 m=>
  bp (pur (aLoad false 1 x3 m) m) fun x4 m=>
  bp (pur (aLoad true 2 x0 m) m) fun x5 m=>
  bp (pur (aLookup (.struct [(0,1,false,.int),(1,1,false,.int)]) (.int .i64 0) true x4 x5 m) m) fun x6 m=>
  bp (pur (aExtract x6 0) m) fun x7 m=>
  bp (pur (aExtract x6 1) m) fun x8 m=>
  bp (pur (un .not x8) m) fun x9 m=>
  brb x9
  (some (.tuple ⟨[(.int .i64 0),(.int .i64 1)]⟩,m))
  (some (.tuple ⟨[x7,(.int .i64 0)]⟩,m)))
theorem Q1wb (G:Gt)(a0 a1:V)(m:M):ef G Tryz.f5 [a0,a1] m = Q15f G a1 a0 m:=
  evFn_of (r:=fun r m=>Q15f G (r 1) (r 0) m) rfl rfl (fun r m=>by kernel_rfl) m
def Q1vr:En:=⟨Qsq,Tryz.f5,Tryz.func5,by kernel_rfl,arg2 (fun G a0 a1 m=>Q15f G a1 a0 m),okarg2 Q1wb⟩
def Q1sv (G:Gt)(p4:V)(m:M):R:=
  some (.tuple ⟨[p4,(.int .i64 0)]⟩,m)
def Q1sw (G:Gt)(p4:V)(m:M):R:=
  Q1sv G p4 m
def Q1hx (G:Gt)(k0:V → V → M → R):Nat → V → V → V → V → V → M → R
 | 0,_,_,_,_,_,_=>none
 | i + 1,p40,p39,p38,p4,p0,m=>
  bp (pur (bin .lss false true .int p40 p39) m) fun x0 m=>
  brb x0
  (bp (pur (aIndexAddrSl 2 p38 p40) m) fun x1 m=>
  bp (pur (aLoad true 2 x1 m) m) fun x2 m=>
  bp (some (aNew Q7 Qo m)) fun x3 m=>
  bp (unt (aStore 2 x3 x2 m)) fun _ m=>
  bp (pur (aLoad true 2 x3 m) m) fun x4 m=>
  bp (G.tab Q1fg [p4,p0,x4] m) fun x5 m=>
  bp (pur (aExtract x5 0) m) fun x6 m=>
  bp (pur (aExtract x5 1) m) fun x7 m=>
  bp (pur (bin .neq true true .int x7 (.int .i64 0)) m) fun x8 m=>
  brb x8
  (some (.tuple ⟨[(.pointer none),(.int .i64 3)]⟩,m))
  (bp (pur (aNilCheck p4) m) fun x9 m=>
  bp (pur (aFieldAddr 2 x9) m) fun x10 m=>
  bp (pur (aLoad false 1 x10 m) m) fun x11 m=>
  bp (pur (aLoad true 2 x3 m) m) fun x12 m=>
  bp (pur (aLookup (.struct [(0,1,false,.int),(1,1,false,.int)]) (.int .i64 0) false x11 x12 m) m) fun x13 m=>
  bp (pur (bin .neq false true .int x6 x13) m) fun x14 m=>
  brb x14
  (bp (pur (aNilCheck p4) m) fun x15 m=>
  bp (pur (aFieldAddr 2 x15) m) fun x16 m=>
  bp (pur (aLoad false 1 x16 m) m) fun x17 m=>
  bp (pur (aLoad true 2 x3 m) m) fun x18 m=>
  bp (unt (aMapUpdate (.struct [(0,1,false,.int),(1,1,false,.int)]) x17 x18 x6 m)) fun _ m=>
  k0 p4 p0 m)
  (bp (pur (bin .add true true .int p40 (.int .i64 1)) m) fun x19 m=>
  (Q1hx G k0 i) x19 p39 p38 p4 p0 m)))
  (Q1sw G p4 m)
def Q1sx (G:Gt)(k0:V → V → M → R)(p40 p39 p38 p4 p0:V)(m:M):R:=
  Q1hx G k0 G.rds p40 p39 p38 p4 p0 m
def Qyj (G:Gt):Nat → V → V → M → R
 | 0,_,_,_=>none
 | i + 1,p4,p0,m=>
  bp (pur (aNilCheck p4) m) fun x20 m=>
  bp (pur (aFieldAddr 1 x20) m) fun x21 m=>
  bp (pur (aLoad false 1 x21 m) m) fun x22 m=>
  bp (pur (lenK 1 x22 m) m) fun x23 m=>
  Q1sx G (Qyj G i) (.int .i64 0) x23 x22 p4 p0 m
def Q1sy (G:Gt)(p4 p0:V)(m:M):R:=
  Qyj G G.rds p4 p0 m
def Q1sz (G:Gt)(p4 p0:V)(m:M):R:=
  Q1sy G p4 p0 m
def Q1ex (G:Gt):Nat → V → V → V → V → V → M → R
 | 0,_,_,_,_,_,_=>none
 | i + 1,p25,p24,p23,p4,p0,m=>
  bp (pur (bin .lss false true .int p25 p24) m) fun x24 m=>
  brb x24
  (bp (pur (aIndexAddrSl 2 p23 p25) m) fun x25 m=>
  bp (pur (aLoad true 2 x25 m) m) fun x26 m=>
  bp (some (aNew Q7 Qo m)) fun x27 m=>
  bp (unt (aStore 2 x27 x26 m)) fun _ m=>
  bp (pur (aNilCheck p4) m) fun x28 m=>
  bp (pur (aFieldAddr 2 x28) m) fun x29 m=>
  bp (pur (aLoad false 1 x29 m) m) fun x30 m=>
  bp (pur (aLoad true 2 x27 m) m) fun x31 m=>
  bp (unt (aMapUpdate (.struct [(0,1,false,.int),(1,1,false,.int)]) x30 x31 (.int .i64 1) m)) fun _ m=>
  bp (pur (bin .add true true .int p25 (.int .i64 1)) m) fun x32 m=>
  (Q1ex G i) x32 p24 p23 p4 p0 m)
  (Q1sz G p4 p0 m)
def Q1pe (G:Gt)(p25 p24 p23 p4 p0:V)(m:M):R:=
  Q1ex G G.rds p25 p24 p23 p4 p0 m
def Q1t0 (G:Gt)(p4 p0:V)(m:M):R:=
  bp (pur (aNilCheck p4) m) fun x33 m=>
  bp (pur (aFieldAddr 1 x33) m) fun x34 m=>
  bp (pur (aLoad false 1 x34 m) m) fun x35 m=>
  bp (pur (lenK 1 x35 m) m) fun x36 m=>
  Q1pe G (.int .i64 0) x36 x35 p4 p0 m
def Q1t1 (G:Gt)(p0:V)(m:M):R:=
  bp (G.tab Q12l [p0] m) fun x37 m=>
  bp (G.tab Qzv [p0] m) fun x38 m=>
  bp (some (aMakeMap m)) fun x39 m=>
  bp (pur (aBuild Q23t [(0,1),(1,1),(2,1)] [(0,x37),(1,x38),(2,x39)]) m) fun x40 m=>
  bp (some (aNew Q23u (Value.cells x40).toList m)) fun x41 m=>
  Q1t0 G x41 p0 m
def Q1t2 (G:Gt)(p0:V)(m:M):R:=
  bp (pur (binP m .eql true true .ptr p0 (.pointer none)) m) fun x42 m=>
  brb x42
  (some (.tuple ⟨[(.pointer none),(.int .i64 2)]⟩,m))
  (Q1t1 G p0 m)
def Q1nu (G:Gt)(p0:V)(m:M):R:=
  Q1t2 G p0 m
theorem Q25b (G:Gt)(a0:V)(m:M):ef G Tryz.f6 [a0] m = Q1nu G a0 m:=
  evFn_of (r:=fun r m=>Q1nu G (r 0) m) rfl rfl (tr (seqQ (f:=fun r m=>Q1t2 G (r 0) m) (tr (scopeQ (seqQ (f:=fun r m=>Q1t1 G (r 0) m) (tr (seqQ (f:=fun r m=>Q1t0 G (r 4) (r 0) m) (tr (tr (seqQ (f:=fun r m=>Q1sz G (r 4) (r 0) m) (tr (seqQ (f:=fun r m=>Q1sy G (r 4) (r 0) m) (tr (tr (seqQ (f:=fun r m=>Q1sv G (r 4) m) (fun r m=>by kernel_rfl)) (blockQ (loopQ (fun i r m=>Qyj G i (r 4) (r 0) m) (fun _ _=>rfl) (fun i0=>tr (blockQ (tr (seqQ (f:=fun r m=>Q1sw G (r 4) m) (fun r m=>by kernel_rfl)) (seqQ (f:=fun r m=>Q1sx G (Qyj G i0) (r 40) (r 39) (r 38) (r 4) (r 0) m) (tr (blockQ (loopQ (fun i r m=>Q1hx G (Qyj G i0) i (r 40) (r 39) (r 38) (r 4) (r 0) m) (fun _ _=>rfl) (fun i1=>fun r m=>by kernel_rfl))) (fun r m=>by kernel_rfl))))) (fun r m=>by kernel_rfl))))) (fun r m=>by kernel_rfl))) (fun r m=>by kernel_rfl))) (seqQ (f:=fun r m=>Q1pe G (r 25) (r 24) (r 23) (r 4) (r 0) m) (tr (blockQ (loopQ (fun i r m=>Q1ex G i (r 25) (r 24) (r 23) (r 4) (r 0) m) (fun _ _=>rfl) (fun i0=>fun r m=>by kernel_rfl))) (fun r m=>by kernel_rfl)))) (fun r m=>by kernel_rfl))) (fun r m=>by kernel_rfl)))) (fun r m=>by kernel_rfl))) (fun r m=>by kernel_rfl)) m
def Q251:En:=⟨Q18x,Tryz.f6,Tryz.func6,by kernel_rfl,arg1 Q1nu,okarg1 Q25b⟩
end
end Go.Ab.Sh

set_option linter.unusedVariables false
set_option maxRecDepth 100000
namespace Go.Ab.Sh
open Go Go.Ab Go.Proofs
noncomputable section
def Q1pf (G:Gt)(p13 p10:V)(m:M):R:=
  bp (pur (aLoad true 7 p10 m) m) fun x0 m=>
  bp (G.tab Q68 [p13,x0] m) fun x1 m=>
  bp (pur (aSliceSl 7 p13 none (some x1)) m) fun x2 m=>
  bp (pur (aSliceSl 7 p13 (some x1) none) m) fun x3 m=>
  bp (G.tab Q6d [x2] m) fun x4 m=>
  bp (G.tab Q6d [x3] m) fun x5 m=>
  some (.tuple ⟨[x4,x5,(.int .i64 0)]⟩,m)
def Q1ey (G:Gt):Nat → V → V → V → V → M → R
 | 0,_,_,_,_,_=>none
 | i + 1,p13,p10,p9,p12,m=>
  bp (pur (aLoad true 7 p10 m) m) fun x6 m=>
  bp (G.tab Qch [p13,x6] m) fun x7 m=>
  bp (pur (un .not x7) m) fun x8 m=>
  brb x8
  (bp (pur (aLoad true 7 p10 m) m) fun x9 m=>
  bp (aBuildSlice Q1k Q3t 7 1 [(0,x9)] m) fun x10 m=>
  bp (apS Q1k 7 32 p13 x10 m) fun x11 m=>
  bp (pur (aNilCheck p9) m) fun x12 m=>
  bp (pur (aFieldAddr 1 x12) m) fun x13 m=>
  bp (pur (aLoad false 1 x13 m) m) fun x14 m=>
  bp (pur (aLoad true 7 p10 m) m) fun x15 m=>
  bp (pur (aLookup (.struct [(0,2,true,(.struct [(0,1,false,.int),(1,1,false,.int)])),(2,5,true,(.struct [(0,1,false,.int),(1,1,false,.int),(2,1,false,.int),(3,1,false,.int),(4,1,false,.int)]))]) (.slice none 0 0) false x14 x15 m) m) fun x16 m=>
  bp (pur (aNilCheck p9) m) fun x17 m=>
  bp (pur (aFieldAddr 1 x17) m) fun x18 m=>
  bp (pur (aLoad false 1 x18 m) m) fun x19 m=>
  bp (pur (aLoad true 7 p10 m) m) fun x20 m=>
  bp (pur (aLookup (.struct [(0,2,true,(.struct [(0,1,false,.int),(1,1,false,.int)])),(2,5,true,(.struct [(0,1,false,.int),(1,1,false,.int),(2,1,false,.int),(3,1,false,.int),(4,1,false,.int)]))]) (.slice none 0 0) false x19 x20 m) m) fun x21 m=>
  bp (G.tab Q4l [x21,(.func (.func Q1pg) ⟨[]⟩ ⟨[p12]⟩)] m) fun x22 m=>
  ckB (again (pur (aLoad false 1 x13 m) m) x14 && (again (pur (aLoad true 7 p10 m) m) x15 && (again (pur (aLookup (.struct [(0,2,true,(.struct [(0,1,false,.int),(1,1,false,.int)])),(2,5,true,(.struct [(0,1,false,.int),(1,1,false,.int),(2,1,false,.int),(3,1,false,.int),(4,1,false,.int)]))]) (.slice none 0 0) false x14 x15 m) m) x16 && true)))
  (bp (pur (aIndexAddrSl 7 x16 x22) m) fun x23 m=>
  bp (pur (aLoad true 7 x23 m) m) fun x24 m=>
  bp (unt (aStore 7 p10 x24 m)) fun _ m=>
  (Q1ey G i) x11 p10 p9 p12 m))
  (Q1pf G p13 p10 m)
def Q1ph (G:Gt)(p13 p10 p9 p12:V)(m:M):R:=
  Q1ey G G.rds p13 p10 p9 p12 m
def Q1pi (G:Gt)(p10 p9 p12:V)(m:M):R:=
  Q1ph G (.slice none 0 0) p10 p9 p12 m
def Q1pj (G:Gt)(p12 p10 p9:V)(m:M):R:=
  bp (pur (aLoad false 1 p12 m) m) fun x25 m=>
  bp (pur (aLoad true 7 p10 m) m) fun x26 m=>
  bp (pur (aLookup (.struct [(0,2,true,(.struct [(0,1,false,.int),(1,1,false,.int)])),(2,5,true,(.struct [(0,1,false,.int),(1,1,false,.int),(2,1,false,.int),(3,1,false,.int),(4,1,false,.int)]))]) (.bool false) false x25 x26 m) m) fun x27 m=>
  bp (pur (un .not x27) m) fun x28 m=>
  brb x28
  (some (.tuple ⟨[(.slice none 0 0),(.slice none 0 0),(.int .i64 0)]⟩,m))
  (Q1pi G p10 p9 p12 m)
def Q1pk (G:Gt)(p9 p10:V)(m:M):R:=
  bp (G.tab Q16j [p9] m) fun x29 m=>
  bp (some (aNew Q16i [(.map none)] m)) fun x30 m=>
  bp (unt (aStore 1 x30 x29 m)) fun _ m=>
  Q1pj G x30 p10 p9 m
def Q1pl (G:Gt)(p9 p10:V)(m:M):R:=
  bp (pur (aLoad true 7 p10 m) m) fun x31 m=>
  bp (G.tab Q1fh [p9,x31] m) fun x32 m=>
  bp (pur (bin .neq true true .int x32 (.int .i64 0)) m) fun x33 m=>
  brb x33
  (some (.tuple ⟨[(.slice none 0 0),(.slice none 0 0),x32]⟩,m))
  (Q1pk G p9 p10 m)
def Q1pm (G:Gt)(p4 p5 p9:V)(m:M):R:=
  bp (pur (aLoad true 2 p4 m) m) fun x34 m=>
  bp (pur (aLoad true 5 p5 m) m) fun x35 m=>
  bp (pur (aBuild Q3t [(0,2),(2,5)] [(0,x34),(1,x35)]) m) fun x36 m=>
  bp (some (aNew Q1k Q3t m)) fun x37 m=>
  bp (unt (aStore 7 x37 x36 m)) fun _ m=>
  Q1pl G p9 x37 m
def Q1pn (G:Gt)(p0 p4 p5:V)(m:M):R:=
  bp (some (aMakeMap m)) fun x38 m=>
  bp (pur (aBuild Q228 [(0,1),(1,1),(2,1)] [(0,p0),(1,x38)]) m) fun x39 m=>
  bp (some (aNew Q229 (Value.cells x39).toList m)) fun x40 m=>
  Q1pm G p4 p5 x40 m
def Q1po (G:Gt)(p0 p4 p5:V)(m:M):R:=
  bp (pur (binP m .eql true true .ptr p0 (.pointer none)) m) fun x41 m=>
  brb x41
  (some (.tuple ⟨[(.slice none 0 0),(.slice none 0 0),(.int .i64 2)]⟩,m))
  (Q1pn G p0 p4 p5 m)
def Q1kq (G:Gt)(p1 p2 p0:V)(m:M):R:=
  bp (some (aNew Q7 (Value.cells p1).toList m)) fun x42 m=>
  bp (some (aNew Q18d (Value.cells p2).toList m)) fun x43 m=>
  Q1po G p0 x42 x43 m
theorem Q23v (G:Gt)(a0 a1 a2:V)(m:M):ef G Tryz.f7 [a0,a1,a2] m = Q1kq G a1 a2 a0 m:=
  evFn_of (r:=fun r m=>Q1kq G (r 1) (r 2) (r 0) m) rfl rfl (tr (seqQ (f:=fun r m=>Q1po G (r 0) (r 4) (r 5) m) (tr (seqQ (f:=fun r m=>Q1pn G (r 0) (r 4) (r 5) m) (tr (seqQ (f:=fun r m=>Q1pm G (r 4) (r 5) (r 9) m) (tr (seqQ (f:=fun r m=>Q1pl G (r 9) (r 10) m) (tr (seqQ (f:=fun r m=>Q1pk G (r 9) (r 10) m) (tr (seqQ (f:=fun r m=>Q1pj G (r 12) (r 10) (r 9) m) (tr (seqQ (f:=fun r m=>Q1pi G (r 10) (r 9) (r 12) m) (tr (seqQ (f:=fun r m=>Q1ph G (r 13) (r 10) (r 9) (r 12) m) (tr (tr (seqQ (f:=fun r m=>Q1pf G (r 13) (r 10) m) (fun r m=>by kernel_rfl)) (blockQ (loopQ (fun i r m=>Q1ey G i (r 13) (r 10) (r 9) (r 12) m) (fun _ _=>rfl) (fun i0=>fun r m=>by kernel_rfl)))) (fun r m=>by kernel_rfl))) (fun r m=>by kernel_rfl))) (fun r m=>by kernel_rfl))) (fun r m=>by kernel_rfl))) (fun r m=>by kernel_rfl))) (fun r m=>by kernel_rfl))) (fun r m=>by kernel_rfl))) (fun r m=>by kernel_rfl))) (fun r m=>by kernel_rfl)) m
def Q23j:En:=⟨Q13d,Tryz.f7,Tryz.func7,by kernel_rfl,arg3 (fun G a0 a1 a2 m=>Q1kq G a1 a2 a0 m),okarg3 Q23v⟩
def Qvc (G:Gt)(m:M):R:=
  bp (G.tab Qst [(.string ⟨#[104,111,115,116,110,97,109,101,32,97,10,105,110,116,101,114,102,97,99,101,32,101,48,10,32,97,100,100,114,101,115,115,32,49,48,46,48,46,48,46,49,32,50,53,53,46,50,53,53,46,50,53,53,46,48,10,105,110,116,101,114,102,97,99,101,32,108,97,110,10,32,97,100,100,114,101,115,115,32,49,48,46,50,46,48,46,49,32,50,53,53,46,50,53,53,46,50,53,53,46,48,10]⟩)] m) fun x0 m=>
  bp (pur (aExtract x0 0) m) fun x1 m=>
  bp (pur (aExtract x0 1) m) fun x2 m=>
  bp (pur (aExtract x0 2) m) fun x3 m=>
  bp (some (aNew Qx Q1e m)) fun x4 m=>
  bp (some (aNew Qrn Q87 m)) fun x5 m=>
  bp (unt (aStore 12 x4 x1 m)) fun _ m=>
  bp (unt (aStore 2 x5 x2 m)) fun _ m=>
  bp (G.tab Qst [(.string ⟨#[104,111,115,116,110,97,109,101,32,98,10,105,110,116,101,114,102,97,99,101,32,101,48,10,32,97,100,100,114,101,115,115,32,49,48,46,48,46,48,46,50,32,50,53,53,46,50,53,53,46,50,53,53,46,48,10]⟩)] m) fun x6 m=>
  bp (pur (aExtract x6 0) m) fun x7 m=>
  bp (pur (aExtract x6 1) m) fun x8 m=>
  bp (pur (aExtract x6 2) m) fun x9 m=>
  bp (some (aNew Qx Q1e m)) fun x10 m=>
  bp (some (aNew Qrn Q87 m)) fun x11 m=>
  bp (unt (aStore 12 x10 x7 m)) fun _ m=>
  bp (unt (aStore 2 x11 x8 m)) fun _ m=>
  bp (pur (aLoad true 12 x4 m) m) fun x12 m=>
  bp (pur (aLoad true 12 x10 m) m) fun x13 m=>
  bp (aBuildSlice Qx Q1e 12 2 [(0,x12),(1,x13)] m) fun x14 m=>
  bp (G.tab Q1nl [x14] m) fun x15 m=>
  bp (pur (aExtract x15 0) m) fun x16 m=>
  bp (pur (aExtract x15 1) m) fun x17 m=>
  bp (pur (bin .neq true true .int x17 (.int .i64 0)) m) fun x18 m=>
  brb x18
  (some ((.pointer none),m))
  (bp (pur (aBuild Q2d [(0,1),(1,1)] [(0,(.int .u32 167772160)),(1,(.int .i64 24))]) m) fun x19 m=>
  bp (pur (aBuild Q55 [(0,2),(2,1),(3,1),(4,1),(5,1),(6,1),(7,1),(8,1)] [(0,x19),(1,(.int .u8 1)),(5,(.string ⟨#[101,48]⟩))]) m) fun x20 m=>
  bp (some (aNew Q45 Q55 m)) fun x21 m=>
  bp (unt (aStore 9 x21 x20 m)) fun _ m=>
  bp (pur (aBuild Q2d [(0,1),(1,1)] [(0,(.int .u32 150994944)),(1,(.int .i64 8))]) m) fun x22 m=>
  bp (some (aNew Q1x Q2d m)) fun x23 m=>
  bp (unt (aStore 2 x23 x22 m)) fun _ m=>
  bp (pur (aLoad true 9 x21 m) m) fun x24 m=>
  bp (pur (aLoad true 2 x23 m) m) fun x25 m=>
  bp (pur (aBuild Q55 [(0,2),(2,1),(3,1),(4,1),(5,1),(6,1),(7,1),(8,1)] [(0,x25),(1,(.int .u8 2)),(6,(.int .u32 167772162))]) m) fun x26 m=>
  bp (aBuildSlice Q45 Q55 9 2 [(0,x24),(1,x26)] m) fun x27 m=>
  bp (pur (aBuild Q1co [(0,1),(1,1),(2,1)] [(0,(.int .i64 0)),(2,x27)]) m) fun x28 m=>
  bp (pur (aLoad true 9 x21 m) m) fun x29 m=>
  bp (pur (aLoad true 2 x23 m) m) fun x30 m=>
  bp (pur (aBuild Q55 [(0,2),(2,1),(3,1),(4,1),(5,1),(6,1),(7,1),(8,1)] [(0,x30),(1,(.int .u8 2)),(6,(.int .u32 167772161))]) m) fun x31 m=>
  bp (aBuildSlice Q45 Q55 9 2 [(0,x29),(1,x31)] m) fun x32 m=>
  bp (pur (aBuild Q1co [(0,1),(1,1),(2,1)] [(0,(.int .i64 1)),(2,x32)]) m) fun x33 m=>
  bp (aBuildSlice Q1va Q1co 3 2 [(0,x28),(1,x33)] m) fun x34 m=>
  bp (G.tab Q1nn [x16,x34] m) fun x35 m=>
  bp (pur (aExtract x35 0) m) fun x36 m=>
  bp (pur (aExtract x35 1) m) fun x37 m=>
  bp (pur (bin .neq true true .int x37 (.int .i64 0)) m) fun x38 m=>
  brb x38
  (some ((.pointer none),m))
  (some (x36,m)))
theorem Q1qv (G:Gt)(m:M):ef G Tryz.f8 [] m = Qvc G m:=
  evFn_of (r:=fun r m=>Qvc G m) rfl rfl (fun r m=>by kernel_rfl) m
def Q1qf:En:=⟨Qvb,Tryz.f8,Tryz.func8,by kernel_rfl,arg0 (fun G  m=>Qvc G m),okarg0 Q1qv⟩
def Q1hy (G:Gt)(p0 p1:V)(m:M):R:=
  bp (pur (binP m .eql true true .ptr p0 (.pointer none)) m) fun x0 m=>
  brb x0
  (some (.tuple ⟨[(.pointer none),(.int .i64 2)]⟩,m))
  (bp (G.tab Q1zq [p1] m) fun x1 m=>
  bp (pur (aExtract x1 0) m) fun x2 m=>
  bp (pur (aExtract x1 1) m) fun x3 m=>
  bp (pur (bin .neq true true .int x3 (.int .i64 0)) m) fun x4 m=>
  brb x4
  (some (.tuple ⟨[(.pointer none),(.int .i64 1)]⟩,m))
  (bp (G.tab Q1vd [x2,p0] m) fun x5 m=>
  bp (pur (aExtract x5 0) m) fun x6 m=>
  bp (pur (aExtract x5 1) m) fun x7 m=>
  some (.tuple ⟨[x6,x7]⟩,m)))
theorem Q22a (G:Gt)(a0 a1:V)(m:M):ef G Tryz.f9 [a0,a1] m = Q1hy G a0 a1 m:=
  evFn_of (r:=fun r m=>Q1hy G (r 0) (r 1) m) rfl rfl (fun r m=>by kernel_rfl) m
def Q21y:En:=⟨Q18y,Tryz.f9,Tryz.func9,by kernel_rfl,arg2 Q1hy,okarg2 Q22a⟩
end
end Go.Ab.Sh
