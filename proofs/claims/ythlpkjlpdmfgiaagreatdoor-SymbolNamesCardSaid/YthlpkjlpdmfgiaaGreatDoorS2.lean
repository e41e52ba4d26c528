/-
  Functions of the program as plain definitions. No conditions.
-/
import Derived.Test.YthlpkjlpdmfgiaaGreatDoorAb5
import Derived.Test.YthlpkjlpdmfgiaaGreatDoorZ
import Derived.KernelRfl
import Derived.Test.YthlpkjlpdmfgiaaGreatDoorProg
set_option linter.unusedVariables false
set_option maxRecDepth 100000
namespace Go.Ab.Sh
open Go Go.Ab Go.Proofs
noncomputable section
def Q124 (G:Gt)(p3:V)(m:M):R:=
  some (p3,m)
def Q125 (G:Gt)(k0:V → V → V → V → M → R)(p15 p14 p13 p3:V)(m:M):R:=
  bp (pur (bin .add true true .int p15 (.int .i64 1)) m) fun x0 m=>
  k0 x0 p14 p13 p3 m
def Qm5 (G:Gt)(k1:V → V → V → V → V → V → V → V → M → R)(p23 p22 p21 p3 p4 p15 p14 p13:V)(m:M):R:=
  bp (pur (bin .add true true .int p23 (.int .i64 1)) m) fun x1 m=>
  k1 x1 p22 p21 p3 p4 p15 p14 p13 m
def Q10o (G:Gt)(k1:V → V → V → V → V → V → V → V → M → R)(p23 p21 p3 p4 p22 p15 p14 p13:V)(m:M):R:=
  bp (pur (aIndexAddrSl 11 p21 p23) m) fun x2 m=>
  bp (pur (aLoad true 11 x2 m) m) fun x3 m=>
  bp (some (aNew Q1r Q7y m)) fun x4 m=>
  bp (unt (aStore 11 x4 x3 m)) fun _ m=>
  bp (pur (aLoad true 11 x4 m) m) fun x5 m=>
  bp (G.tab Qt7 [x5] m) fun x6 m=>
  brb x6
  (bp (pur (aBuild Q1x [(0,1),(1,1)] [(0,p4),(1,p23)]) m) fun x7 m=>
  bp (aBuildSlice Qw Q1x 2 1 [(0,x7)] m) fun x8 m=>
  bp (apS Qw 2 16 p3 x8 m) fun x9 m=>
  Qm5 G k1 p23 p22 p21 x9 p4 p15 p14 p13 m)
  (Qm5 G k1 p23 p22 p21 p3 p4 p15 p14 p13 m)
def Q10p (G:Gt)(k1:V → V → V → V → V → V → V → V → M → R)(k0:V → V → V → V → M → R)(p24 p23 p21 p3 p4 p22 p15 p14 p13:V)(m:M):R:=
  brb p24
  (Q10o G k1 p23 p21 p3 p4 p22 p15 p14 p13 m)
  (Q125 G k0 p15 p14 p13 p3 m)
def Q61 (G:Gt)(k0:V → V → V → V → M → R):Nat → V → V → V → V → V → V → V → V → M → R
 | 0,_,_,_,_,_,_,_,_,_=>none
 | i + 1,p23,p22,p21,p3,p4,p15,p14,p13,m=>
  bp (pur (bin .lss false true .int p23 p22) m) fun x10 m=>
  Q10p G (Q61 G k0 i) k0 x10 p23 p21 p3 p4 p22 p15 p14 p13 m
def Q10q (G:Gt)(k0:V → V → V → V → M → R)(p23 p22 p21 p3 p4 p15 p14 p13:V)(m:M):R:=
  Q61 G k0 G.rds p23 p22 p21 p3 p4 p15 p14 p13 m
def Q126 (G:Gt)(k0:V → V → V → V → M → R)(p5 p3 p4 p15 p14 p13:V)(m:M):R:=
  bp (pur (aFieldAddr 3 p5) m) fun x11 m=>
  bp (pur (aLoad false 1 x11 m) m) fun x12 m=>
  bp (pur (lenK 1 x12 m) m) fun x13 m=>
  Q10q G k0 (.int .i64 0) x13 x12 p3 p4 p15 p14 p13 m
def Q127 (G:Gt)(k0:V → V → V → V → M → R)(p15 p13 p3 p14:V)(m:M):R:=
  bp (pur (aIndexAddrSl 12 p13 p15) m) fun x14 m=>
  bp (pur (aLoad true 12 x14 m) m) fun x15 m=>
  bp (some (aNew Qx Q1b m)) fun x16 m=>
  bp (unt (aStore 12 x16 x15 m)) fun _ m=>
  Q126 G k0 x16 p3 p15 p15 p14 p13 m
def Q128 (G:Gt)(k0:V → V → V → V → M → R)(p16 p15 p13 p3 p14:V)(m:M):R:=
  brb p16
  (Q127 G k0 p15 p13 p3 p14 m)
  (Q124 G p3 m)
def Q1a (G:Gt):Nat → V → V → V → V → M → R
 | 0,_,_,_,_,_=>none
 | i + 1,p15,p14,p13,p3,m=>
  bp (pur (bin .lss false true .int p15 p14) m) fun x17 m=>
  Q128 G (Q1a G i) x17 p15 p13 p3 p14 m
def Q129 (G:Gt)(p15 p14 p13 p3:V)(m:M):R:=
  Q1a G G.rds p15 p14 p13 p3 m
def Q12a (G:Gt)(p0 p3:V)(m:M):R:=
  bp (pur (aNilCheck p0) m) fun x18 m=>
  bp (pur (aFieldAddr 1 x18) m) fun x19 m=>
  bp (pur (aLoad false 1 x19 m) m) fun x20 m=>
  bp (pur (lenK 1 x20 m) m) fun x21 m=>
  Q129 G (.int .i64 0) x21 x20 p3 m
def Q12b (G:Gt)(p0:V)(m:M):R:=
  Q12a G p0 (.slice none 0 0) m
def Q12c (G:Gt)(p0:V)(m:M):R:=
  bp (pur (binP m .eql true true .ptr p0 (.pointer none)) m) fun x22 m=>
  brb x22
  (some ((.slice none 0 0),m))
  (Q12b G p0 m)
def Qt8 (G:Gt)(p0:V)(m:M):R:=
  Q12c G p0 m
theorem Q1j4 (G:Gt)(a0:V)(m:M):ef G Tryz.f29 [a0] m = Qt8 G a0 m:=
  evFn_of (r:=fun r m=>Qt8 G (r 0) m) rfl rfl (tr (seqQ (f:=fun r m=>Q12c G (r 0) m) (tr (seqQ (f:=fun r m=>Q12b G (r 0) m) (tr (seqQ (f:=fun r m=>Q12a G (r 0) (r 3) m) (tr (tr (seqQ (f:=fun r m=>Q124 G (r 3) m) (fun r m=>by kernel_rfl)) (seqQ (f:=fun r m=>Q129 G (r 15) (r 14) (r 13) (r 3) m) (tr (blockQ (loopQ (fun i r m=>Q1a G i (r 15) (r 14) (r 13) (r 3) m) (fun _ _=>rfl) (fun i0=>tr (seqQ (f:=fun r m=>Q128 G (Q1a G i0) (r 16) (r 15) (r 13) (r 3) (r 14) m) (tr (seqQ (f:=fun r m=>Q127 G (Q1a G i0) (r 15) (r 13) (r 3) (r 14) m) (tr (tr (seqQ (f:=fun r m=>Q125 G (Q1a G i0) (r 15) (r 14) (r 13) (r 3) m) (fun r m=>by kernel_rfl)) (blockQ (seqQ (f:=fun r m=>Q126 G (Q1a G i0) (r 5) (r 3) (r 4) (r 15) (r 14) (r 13) m) (tr (seqQ (f:=fun r m=>Q10q G (Q1a G i0) (r 23) (r 22) (r 21) (r 3) (r 4) (r 15) (r 14) (r 13) m) (tr (blockQ (loopQ (fun i r m=>Q61 G (Q1a G i0) i (r 23) (r 22) (r 21) (r 3) (r 4) (r 15) (r 14) (r 13) m) (fun _ _=>rfl) (fun i1=>tr (seqQ (f:=fun r m=>Q10p G (Q61 G (Q1a G i0) i1) (Q1a G i0) (r 24) (r 23) (r 21) (r 3) (r 4) (r 22) (r 15) (r 14) (r 13) m) (tr (seqQ (f:=fun r m=>Q10o G (Q61 G (Q1a G i0) i1) (r 23) (r 21) (r 3) (r 4) (r 22) (r 15) (r 14) (r 13) m) (tr (seqQ (f:=fun r m=>Qm5 G (Q61 G (Q1a G i0) i1) (r 23) (r 22) (r 21) (r 3) (r 4) (r 15) (r 14) (r 13) m) (fun r m=>by kernel_rfl)) (fun r m=>by kernel_rfl))) (fun r m=>by kernel_rfl))) (fun r m=>by kernel_rfl)))) (fun r m=>by kernel_rfl))) (fun r m=>by kernel_rfl))))) (fun r m=>by kernel_rfl))) (fun r m=>by kernel_rfl))) (fun r m=>by kernel_rfl)))) (fun r m=>by kernel_rfl)))) (fun r m=>by kernel_rfl))) (fun r m=>by kernel_rfl))) (fun r m=>by kernel_rfl))) (fun r m=>by kernel_rfl)) m
def Q1j5:En:=⟨Q16a,Tryz.f29,Tryz.func29,by kernel_rfl,arg1 Qt8,okarg1 Q1j4⟩
end
end Go.Ab.Sh

set_option linter.unusedVariables false
set_option maxRecDepth 100000
namespace Go.Ab.Sh
open Go Go.Ab Go.Proofs
noncomputable section
def Qrs (G:Gt)(p5 p4:V)(m:M):R:=
  bp (pur (aFieldAddr 8 p5) m) fun x0 m=>
  bp (pur (aLoad false 1 x0 m) m) fun x1 m=>
  bp (G.tab Q7z [x1,(.func (.func Q19u) #[] #[])] m) fun x2 m=>
  bp (pur (aLoad true 9 p5 m) m) fun x3 m=>
  bp (unt (aStore 9 p4 x3 m)) fun _ m=>
  ob (ob (aLoad true 9 p4 m) fun v=>ob (some []) fun l=>some (v :: l)) fun l=>some (resVal l,m)
def Qrt (G:Gt)(k0:V → V → V → V → M → R)(p27 p5 p195 p2 p4:V)(m:M):R:=
  bp (pur (aFieldAddr 2 p27) m) fun x4 m=>
  bp (pur (aLoad false 1 x4 m) m) fun x5 m=>
  bp (pur (lenK 1 x5 m) m) fun x6 m=>
  bp (pur (bin .gtr true true .int x6 (.int .i64 0)) m) fun x7 m=>
  brb x7
  (bp (pur (aFieldAddr 8 p5) m) fun x8 m=>
  bp (pur (aLoad false 1 x8 m) m) fun x9 m=>
  bp (pur (aLoad true 3 p27 m) m) fun x10 m=>
  bp (aBuildSlice Qzk Qzl 3 1 [(0,x10)] m) fun x11 m=>
  bp (apS Qzk 3 40 x9 x11 m) fun x12 m=>
  bp (pur (aFieldAddr 8 p5) m) fun x13 m=>
  bp (unt (aStore 1 x13 x12 m)) fun _ m=>
  k0 p195 p2 p5 p4 m)
  (k0 p195 p2 p5 p4 m)
def Qgc (G:Gt)(k1:V → V → V → V → V → V → V → V → M → R)(p205 p204 p203 p2 p27 p5 p195 p4:V)(m:M):R:=
  bp (pur (bin .add true true .int p205 (.int .i64 1)) m) fun x14 m=>
  k1 x14 p204 p203 p2 p27 p5 p195 p4 m
def Qru (G:Gt)(k1:V → V → V → V → V → V → V → V → M → R)(p203 p205 p2 p27 p204 p5 p195 p4:V)(m:M):R:=
  bp (pur (aIndexAddrSl 5 p203 p205) m) fun x15 m=>
  bp (pur (aLoad true 5 x15 m) m) fun x16 m=>
  bp (some (aNew Q5b Qhb m)) fun x17 m=>
  bp (unt (aStore 5 x17 x16 m)) fun _ m=>
  bp (pur (aLoad false 1 p2 m) m) fun x18 m=>
  bp (pur (aLoad true 5 x17 m) m) fun x19 m=>
  bp (G.tab Qd3 [x18,x19,(.int .i64 1)] m) fun x20 m=>
  bp (pur (bin .neq true true .int x20 (.int .i64 0)) m) fun x21 m=>
  brb x21
  (bp (pur (aFieldAddr 2 p27) m) fun x22 m=>
  bp (pur (aLoad false 1 x22 m) m) fun x23 m=>
  bp (pur (aLoad true 5 x17 m) m) fun x24 m=>
  bp (aBuildSlice Q5b Qhb 5 1 [(0,x24)] m) fun x25 m=>
  bp (apS Q5b 5 40 x23 x25 m) fun x26 m=>
  bp (pur (aFieldAddr 2 p27) m) fun x27 m=>
  bp (unt (aStore 1 x27 x26 m)) fun _ m=>
  Qgc G k1 p205 p204 p203 p2 p27 p5 p195 p4 m)
  (Qgc G k1 p205 p204 p203 p2 p27 p5 p195 p4 m)
def Qrv (G:Gt)(k1:V → V → V → V → V → V → V → V → M → R)(k0:V → V → V → V → M → R)(p206 p203 p205 p2 p27 p204 p5 p195 p4:V)(m:M):R:=
  brb p206
  (Qru G k1 p203 p205 p2 p27 p204 p5 p195 p4 m)
  (Qrt G k0 p27 p5 p195 p2 p4 m)
def Q3l (G:Gt)(k0:V → V → V → V → M → R):Nat → V → V → V → V → V → V → V → V → M → R
 | 0,_,_,_,_,_,_,_,_,_=>none
 | i + 1,p205,p204,p203,p2,p27,p5,p195,p4,m=>
  bp (pur (bin .lss false true .int p205 p204) m) fun x28 m=>
  Qrv G (Q3l G k0 i) k0 x28 p203 p205 p2 p27 p204 p5 p195 p4 m
def Qrw (G:Gt)(k0:V → V → V → V → M → R)(p205 p204 p203 p2 p27 p5 p195 p4:V)(m:M):R:=
  Q3l G k0 G.rds p205 p204 p203 p2 p27 p5 p195 p4 m
def Qrx (G:Gt)(k0:V → V → V → V → M → R)(p26 p2 p27 p5 p195 p4:V)(m:M):R:=
  bp (pur (lenK 1 p26 m) m) fun x29 m=>
  Qrw G k0 (.int .i64 0) x29 p26 p2 p27 p5 p195 p4 m
def Qry (G:Gt)(k0:V → V → V → V → M → R)(p25 p26 p2 p5 p195 p4:V)(m:M):R:=
  bp (pur (aLoad true 2 p25 m) m) fun x30 m=>
  bp (pur (aBuild Qzl [(0,2),(2,1)] [(0,x30)]) m) fun x31 m=>
  bp (some (aNew Qzk Qzl m)) fun x32 m=>
  bp (unt (aStore 3 x32 x31 m)) fun _ m=>
  Qrx G k0 p26 p2 x32 p5 p195 p4 m
def Qrz (G:Gt)(k0:V → V → V → V → M → R)(p195 p2 p5 p4:V)(m:M):R:=
  bp (pur (aEntry p195 m) m) fun x33 m=>
  bp (pur (aExtract x33 0) m) fun x34 m=>
  bp (pur (aExtract x33 1) m) fun x35 m=>
  bp (some (aNew Qw Q1x m)) fun x36 m=>
  bp (unt (aStore 2 x36 x34 m)) fun _ m=>
  Qry G k0 x36 x35 p2 p5 p195 p4 m
def Qs0 (G:Gt)(k0:V → V → V → V → M → R)(p197 p195 p2 p5 p4:V)(m:M):R:=
  brb p197
  (Qrz G k0 p195 p2 p5 p4 m)
  (Qrs G p5 p4 m)
def Qp (G:Gt):Nat → V → V → V → V → M → R
 | 0,_,_,_,_,_=>none
 | i + 1,p195,p2,p5,p4,m=>
  bp (aNextMap p195 m) fun x37 m=>
  bp (pur (aExtract x37 0) m) fun x38 m=>
  Qs0 G (Qp G i) x38 p195 p2 p5 p4 m
def Qs1 (G:Gt)(p195 p2 p5 p4:V)(m:M):R:=
  Qp G G.rds p195 p2 p5 p4 m
def Qs2 (G:Gt)(p18 p2 p5 p4:V)(m:M):R:=
  bp (aRangeMap p18 m) fun x39 m=>
  Qs1 G x39 p2 p5 p4 m
def Qs3 (G:Gt)(p11 p15 p18 p2 p5 p4:V)(m:M):R:=
  bp (evCall G.tab p11 [(.int .u8 4),p15] m) fun x40 m=>
  Qs2 G p18 p2 p5 p4 m
def Qgd (G:Gt)(k0:V → V → V → V → V → V → V → V → V → V → V → V → V → M → R)(p130 p129 p128 p2 p15 p11 p3 p8 p9 p10 p18 p5 p4:V)(m:M):R:=
  bp (pur (bin .add true true .int p130 (.int .i64 1)) m) fun x41 m=>
  k0 x41 p129 p128 p2 p15 p11 p3 p8 p9 p10 p18 p5 p4 m
def Qge (G:Gt)(k0:V → V → V → V → V → V → V → V → V → V → V → V → V → M → R):Nat → V → V → V → V → V → V → V → V → V → V → V → V → V → V → V → V → V → M → R
 | 0,_,_,_,_,_,_,_,_,_,_,_,_,_,_,_,_,_,_=>none
 | i + 1,p175,p174,p173,p2,p3,p8,p9,p22,p10,p18,p130,p129,p128,p15,p11,p5,p4,m=>
  bp (pur (bin .lss false true .int p175 p174) m) fun x42 m=>
  brb x42
  (bp (pur (aIndexAddrSl 2 p173 p175) m) fun x43 m=>
  bp (pur (aLoad true 2 x43 m) m) fun x44 m=>
  bp (some (aNew Q10r Q16b m)) fun x45 m=>
  bp (unt (aStore 2 x45 x44 m)) fun _ m=>
  bp (pur (aLoad false 1 p2 m) m) fun x46 m=>
  bp (pur (aLoad true 2 p3 m) m) fun x47 m=>
  bp (pur (aLoad true 2 x45 m) m) fun x48 m=>
  bp (pur (aLoad false 1 p8 m) m) fun x49 m=>
  bp (pur (aLoad false 1 p9 m) m) fun x50 m=>
  bp (pur (aBuild Qhb [(0,1),(1,1),(2,1),(3,1),(4,1)] [(0,x49),(1,x50),(2,p22)]) m) fun x51 m=>
  bp (pur (aLoad false 1 p10 m) m) fun x52 m=>
  bp (G.tab Q10s [x46,x47,x48,x51,x52,p18] m) fun x53 m=>
  bp (pur (bin .add true true .int p175 (.int .i64 1)) m) fun x54 m=>
  (Qge G k0 i) x54 p174 p173 p2 p3 p8 p9 p22 p10 p18 p130 p129 p128 p15 p11 p5 p4 m)
  (Qgd G k0 p130 p129 p128 p2 p15 p11 p3 p8 p9 p10 p18 p5 p4 m)
def Qs4 (G:Gt)(k0:V → V → V → V → V → V → V → V → V → V → V → V → V → M → R)(p175 p174 p173 p2 p3 p8 p9 p22 p10 p18 p130 p129 p128 p15 p11 p5 p4:V)(m:M):R:=
  Qge G k0 G.rds p175 p174 p173 p2 p3 p8 p9 p22 p10 p18 p130 p129 p128 p15 p11 p5 p4 m
def Qs5 (G:Gt)(k0:V → V → V → V → V → V → V → V → V → V → V → V → V → M → R)(p20 p2 p3 p8 p9 p22 p10 p18 p130 p129 p128 p15 p11 p5 p4:V)(m:M):R:=
  bp (pur (aFieldAddr 3 p20) m) fun x55 m=>
  bp (pur (aLoad false 1 x55 m) m) fun x56 m=>
  bp (pur (lenK 1 x56 m) m) fun x57 m=>
  Qs4 G k0 (.int .i64 0) x57 x56 p2 p3 p8 p9 p22 p10 p18 p130 p129 p128 p15 p11 p5 p4 m
def Qs6 (G:Gt)(k0:V → V → V → V → V → V → V → V → V → V → V → V → V → M → R)(p20 p11 p22 p130 p129 p128 p2 p15 p3 p8 p9 p10 p18 p5 p4:V)(m:M):R:=
  bp (pur (aFieldAddr 2 p20) m) fun x58 m=>
  bp (pur (aLoad false 1 x58 m) m) fun x59 m=>
  brb x59
  (bp (evCall G.tab p11 [(.int .u8 5),p22] m) fun x60 m=>
  Qgd G k0 p130 p129 p128 p2 p15 p11 p3 p8 p9 p10 p18 p5 p4 m)
  (Qs5 G k0 p20 p2 p3 p8 p9 p22 p10 p18 p130 p129 p128 p15 p11 p5 p4 m)
def Qs7 (G:Gt)(k0:V → V → V → V → V → V → V → V → V → V → V → V → V → M → R)(p2 p15 p21 p20 p11 p22 p130 p129 p128 p3 p8 p9 p10 p18 p5 p4:V)(m:M):R:=
  bp (pur (aLoad false 1 p2 m) m) fun x61 m=>
  bp (pur (aLoad false 1 p2 m) m) fun x62 m=>
  bp (pur (aNilCheck x62) m) fun x63 m=>
  bp (pur (aFieldAddr 0 x63) m) fun x64 m=>
  bp (pur (aLoad false 1 x64 m) m) fun x65 m=>
  bp (G.tab Qwa [x65,p15,p21] m) fun x66 m=>
  ckB (again (pur (aLoad false 1 p2 m) m) x61 && true)
  (bp (pur (aExtract x66 0) m) fun x67 m=>
  bp (pur (aExtract x66 1) m) fun x68 m=>
  bp (G.tab Q1 [x61,x67,x68] m) fun x69 m=>
  Qs6 G k0 p20 p11 p22 p130 p129 p128 p2 x69 p3 p8 p9 p10 p18 p5 p4 m)
def Qs8 (G:Gt)(k0:V → V → V → V → V → V → V → V → V → V → V → V → V → M → R)(p2 p15 p21 p20 p11 p130 p129 p128 p3 p8 p9 p10 p18 p5 p4:V)(m:M):R:=
  bp (pur (aLoad false 1 p2 m) m) fun x70 m=>
  bp (pur (aLoad false 1 p2 m) m) fun x71 m=>
  bp (pur (aNilCheck x71) m) fun x72 m=>
  bp (pur (aFieldAddr 0 x72) m) fun x73 m=>
  bp (pur (aLoad false 1 x73 m) m) fun x74 m=>
  bp (G.tab Q3d [x74,p15,p21] m) fun x75 m=>
  ckB (again (pur (aLoad false 1 p2 m) m) x70 && true)
  (bp (pur (aExtract x75 0) m) fun x76 m=>
  bp (pur (aExtract x75 1) m) fun x77 m=>
  bp (G.tab Q1 [x70,x76,x77] m) fun x78 m=>
  Qs7 G k0 p2 p15 p21 p20 p11 x78 p130 p129 p128 p3 p8 p9 p10 p18 p5 p4 m)
def Qs9 (G:Gt)(k0:V → V → V → V → V → V → V → V → V → V → V → V → V → M → R)(p2 p20 p15 p11 p130 p129 p128 p3 p8 p9 p10 p18 p5 p4:V)(m:M):R:=
  bp (pur (aLoad false 1 p2 m) m) fun x79 m=>
  bp (pur (aLoad false 1 p2 m) m) fun x80 m=>
  bp (pur (aNilCheck x80) m) fun x81 m=>
  bp (pur (aFieldAddr 0 x81) m) fun x82 m=>
  bp (pur (aLoad false 1 x82 m) m) fun x83 m=>
  bp (pur (aFieldAddr 0 p20) m) fun x84 m=>
  bp (pur (aLoad true 2 x84 m) m) fun x85 m=>
  bp (G.tab Qqn [x83,(.int .i64 1),x85] m) fun x86 m=>
  ckB (again (pur (aLoad false 1 p2 m) m) x79 && true)
  (bp (pur (aExtract x86 0) m) fun x87 m=>
  bp (pur (aExtract x86 1) m) fun x88 m=>
  bp (G.tab Q1 [x79,x87,x88] m) fun x89 m=>
  Qs8 G k0 p2 p15 x89 p20 p11 p130 p129 p128 p3 p8 p9 p10 p18 p5 p4 m)
def Qsa (G:Gt)(k0:V → V → V → V → V → V → V → V → V → V → V → V → V → M → R)(p128 p130 p2 p15 p11 p129 p3 p8 p9 p10 p18 p5 p4:V)(m:M):R:=
  bp (pur (aIndexAddrSl 4 p128 p130) m) fun x90 m=>
  bp (pur (aLoad true 4 x90 m) m) fun x91 m=>
  bp (some (aNew Q6w Qkh m)) fun x92 m=>
  bp (unt (aStore 4 x92 x91 m)) fun _ m=>
  Qs9 G k0 p2 x92 p15 p11 p130 p129 p128 p3 p8 p9 p10 p18 p5 p4 m
def Qsb (G:Gt)(k0:V → V → V → V → V → V → V → V → V → V → V → V → V → M → R)(p131 p128 p130 p2 p15 p11 p129 p3 p8 p9 p10 p18 p5 p4:V)(m:M):R:=
  brb p131
  (Qsa G k0 p128 p130 p2 p15 p11 p129 p3 p8 p9 p10 p18 p5 p4 m)
  (Qs3 G p11 p15 p18 p2 p5 p4 m)
def Qt (G:Gt):Nat → V → V → V → V → V → V → V → V → V → V → V → V → V → M → R
 | 0,_,_,_,_,_,_,_,_,_,_,_,_,_,_=>none
 | i + 1,p130,p129,p128,p2,p15,p11,p3,p8,p9,p10,p18,p5,p4,m=>
  bp (pur (bin .lss false true .int p130 p129) m) fun x93 m=>
  Qsb G (Qt G i) x93 p128 p130 p2 p15 p11 p129 p3 p8 p9 p10 p18 p5 p4 m
def Qsc (G:Gt)(p130 p129 p128 p2 p15 p11 p3 p8 p9 p10 p18 p5 p4:V)(m:M):R:=
  Qt G G.rds p130 p129 p128 p2 p15 p11 p3 p8 p9 p10 p18 p5 p4 m
def Qsd (G:Gt)(p16 p2 p15 p11 p3 p8 p9 p10 p18 p5 p4:V)(m:M):R:=
  bp (pur (lenK 1 p16 m) m) fun x94 m=>
  Qsc G (.int .i64 0) x94 p16 p2 p15 p11 p3 p8 p9 p10 p18 p5 p4 m
def Qse (G:Gt)(p16 p2 p15 p11 p3 p8 p9 p10 p5 p4:V)(m:M):R:=
  bp (some (aMakeMap m)) fun x95 m=>
  Qsd G p16 p2 p15 p11 p3 p8 p9 p10 x95 p5 p4 m
def Qsf (G:Gt)(p16 p2 p15 p11 p3 p8 p9 p10 p5 p4:V)(m:M):R:=
  bp (G.tab Qb1 [p16,(.func (.func Qt9) #[] #[])] m) fun x96 m=>
  Qse G p16 p2 p15 p11 p3 p8 p9 p10 p5 p4 m
def Qsg (G:Gt)(p2 p3 p7 p15 p11 p8 p9 p10 p5 p4:V)(m:M):R:=
  bp (pur (aLoad false 1 p2 m) m) fun x97 m=>
  bp (pur (aNilCheck x97) m) fun x98 m=>
  bp (pur (aFieldAddr 1 x98) m) fun x99 m=>
  bp (pur (aLoad false 1 x99 m) m) fun x100 m=>
  bp (pur (aFieldAddr 0 p3) m) fun x101 m=>
  bp (pur (aLoad false 1 x101 m) m) fun x102 m=>
  bp (pur (aFieldAddr 1 p7) m) fun x103 m=>
  bp (pur (aLoad false 1 x103 m) m) fun x104 m=>
  bp (G.tab Q13z [x100,x102,x104] m) fun x105 m=>
  bp (pur (aExtract x105 0) m) fun x106 m=>
  bp (pur (aExtract x105 1) m) fun x107 m=>
  Qsf G x106 p2 p15 p11 p3 p8 p9 p10 p5 p4 m
def Qsh (G:Gt)(p2 p12 p3 p7 p11 p8 p9 p10 p5 p4:V)(m:M):R:=
  bp (pur (aLoad false 1 p2 m) m) fun x108 m=>
  bp (pur (aLoad false 1 p2 m) m) fun x109 m=>
  bp (pur (aNilCheck x109) m) fun x110 m=>
  bp (pur (aFieldAddr 0 x110) m) fun x111 m=>
  bp (pur (aLoad false 1 x111 m) m) fun x112 m=>
  bp (G.tab Qoo [x112,p12] m) fun x113 m=>
  ckB (again (pur (aLoad false 1 p2 m) m) x108 && true)
  (bp (pur (aExtract x113 0) m) fun x114 m=>
  bp (pur (aExtract x113 1) m) fun x115 m=>
  bp (G.tab Q1 [x108,x114,x115] m) fun x116 m=>
  Qsg G p2 p3 p7 x116 p11 p8 p9 p10 p5 p4 m)
def Qsi (G:Gt)(p11 p12 p2 p3 p7 p8 p9 p10 p5 p4:V)(m:M):R:=
  bp (evCall G.tab p11 [(.int .u8 1),p12] m) fun x117 m=>
  Qsh G p2 p12 p3 p7 p11 p8 p9 p10 p5 p4 m
def Qgf (G:Gt)(k0:V → V → V → V → V → V → V → V → V → V → V → V → V → M → R)(p72 p71 p70 p7 p2 p12 p11 p3 p8 p9 p10 p5 p4:V)(m:M):R:=
  bp (pur (bin .add true true .int p72 (.int .i64 1)) m) fun x118 m=>
  k0 x118 p71 p70 p7 p2 p12 p11 p3 p8 p9 p10 p5 p4 m
def Qgg (G:Gt)(k0:V → V → V → V → V → V → V → V → V → V → V → V → V → M → R)(p84 p2 p12 p14 p72 p71 p70 p7 p11 p3 p8 p9 p10 p5 p4:V)(m:M):R:=
  brb p84
  (bp (pur (aLoad false 1 p2 m) m) fun x119 m=>
  bp (pur (aLoad false 1 p2 m) m) fun x120 m=>
  bp (pur (aNilCheck x120) m) fun x121 m=>
  bp (pur (aFieldAddr 0 x121) m) fun x122 m=>
  bp (pur (aLoad false 1 x122 m) m) fun x123 m=>
  bp (pur (aLoad false 1 p2 m) m) fun x124 m=>
  bp (pur (aFieldAddr 2 p14) m) fun x125 m=>
  bp (pur (aLoad false 1 x125 m) m) fun x126 m=>
  bp (G.tab Qm6 [x124,x126] m) fun x127 m=>
  ckB (again (pur (aLoad false 1 p2 m) m) x119 && (again (pur (aLoad false 1 p2 m) m) x120 && (again (pur (aLoad false 1 x122 m) m) x123 && true)))
  (bp (G.tab Qsj [x123,p12,x127] m) fun x128 m=>
  ckB (again (pur (aLoad false 1 p2 m) m) x119 && true)
  (bp (pur (aExtract x128 0) m) fun x129 m=>
  bp (pur (aExtract x128 1) m) fun x130 m=>
  bp (G.tab Q1 [x119,x129,x130] m) fun x131 m=>
  Qgf G k0 p72 p71 p70 p7 p2 x131 p11 p3 p8 p9 p10 p5 p4 m)))
  (Qgf G k0 p72 p71 p70 p7 p2 p12 p11 p3 p8 p9 p10 p5 p4 m)
def Qsk (G:Gt)(k0:V → V → V → V → V → V → V → V → V → V → V → V → V → M → R)(p14 p7 p2 p12 p72 p71 p70 p11 p3 p8 p9 p10 p5 p4:V)(m:M):R:=
  bp (pur (aLoad true 11 p14 m) m) fun x132 m=>
  bp (G.tab Qt7 [x132] m) fun x133 m=>
  brb x133
  (bp (pur (aFieldAddr 1 p14) m) fun x134 m=>
  bp (pur (aLoad false 1 x134 m) m) fun x135 m=>
  bp (pur (aFieldAddr 1 p7) m) fun x136 m=>
  bp (pur (aLoad false 1 x136 m) m) fun x137 m=>
  bp (pur (bin .eql false true .str x135 x137) m) fun x138 m=>
  Qgg G k0 x138 p2 p12 p14 p72 p71 p70 p7 p11 p3 p8 p9 p10 p5 p4 m)
  (Qgg G k0 (.bool false) p2 p12 p14 p72 p71 p70 p7 p11 p3 p8 p9 p10 p5 p4 m)
def Qsl (G:Gt)(k0:V → V → V → V → V → V → V → V → V → V → V → V → V → M → R)(p70 p72 p7 p2 p12 p71 p11 p3 p8 p9 p10 p5 p4:V)(m:M):R:=
  bp (pur (aIndexAddrSl 11 p70 p72) m) fun x139 m=>
  bp (pur (aLoad true 11 x139 m) m) fun x140 m=>
  bp (some (aNew Q1r Q7y m)) fun x141 m=>
  bp (unt (aStore 11 x141 x140 m)) fun _ m=>
  Qsk G k0 x141 p7 p2 p12 p72 p71 p70 p11 p3 p8 p9 p10 p5 p4 m
def Qsm (G:Gt)(k0:V → V → V → V → V → V → V → V → V → V → V → V → V → M → R)(p73 p70 p72 p7 p2 p12 p71 p11 p3 p8 p9 p10 p5 p4:V)(m:M):R:=
  brb p73
  (Qsl G k0 p70 p72 p7 p2 p12 p71 p11 p3 p8 p9 p10 p5 p4 m)
  (Qsi G p11 p12 p2 p3 p7 p8 p9 p10 p5 p4 m)
def Q21 (G:Gt):Nat → V → V → V → V → V → V → V → V → V → V → V → V → V → M → R
 | 0,_,_,_,_,_,_,_,_,_,_,_,_,_,_=>none
 | i + 1,p72,p71,p70,p7,p2,p12,p11,p3,p8,p9,p10,p5,p4,m=>
  bp (pur (bin .lss false true .int p72 p71) m) fun x142 m=>
  Qsm G (Q21 G i) x142 p70 p72 p7 p2 p12 p71 p11 p3 p8 p9 p10 p5 p4 m
def Qsn (G:Gt)(p72 p71 p70 p7 p2 p12 p11 p3 p8 p9 p10 p5 p4:V)(m:M):R:=
  Q21 G G.rds p72 p71 p70 p7 p2 p12 p11 p3 p8 p9 p10 p5 p4 m
def Qta (G:Gt)(p6 p7 p2 p12 p11 p3 p8 p9 p10 p5 p4:V)(m:M):R:=
  bp (pur (aFieldAddr 3 p6) m) fun x143 m=>
  bp (pur (aLoad false 1 x143 m) m) fun x144 m=>
  bp (pur (lenK 1 x144 m) m) fun x145 m=>
  Qsn G (.int .i64 0) x145 x144 p7 p2 p12 p11 p3 p8 p9 p10 p5 p4 m
def Qtb (G:Gt)(p6 p7 p2 p11 p3 p8 p9 p10 p5 p4:V)(m:M):R:=
  Qta G p6 p7 p2 (.int .i64 0) p11 p3 p8 p9 p10 p5 p4 m
def Qtc (G:Gt)(p10 p8 p9 p2 p6 p7 p3 p5 p4:V)(m:M):R:=
  let x146:V:=(.func (.func Qtd) ⟨[]⟩ ⟨[p10,p8,p9,p2]⟩)
  Qtb G p6 p7 p2 x146 p3 p8 p9 p10 p5 p4 m
def Qte (G:Gt)(p2 p5 p8 p9 p6 p7 p3 p4:V)(m:M):R:=
  bp (some (aNew Q18z [.nilFunc] m)) fun x147 m=>
  bp (unt (aStore 1 x147 (.func (.func Qtf) ⟨[]⟩ ⟨[p2,p5]⟩) m)) fun _ m=>
  Qtc G x147 p8 p9 p2 p6 p7 p3 p5 p4 m
def Qtg (G:Gt)(p2 p6 p7 p5 p8 p3 p4:V)(m:M):R:=
  bp (pur (aLoad false 1 p2 m) m) fun x148 m=>
  bp (pur (aLoad true 12 p6 m) m) fun x149 m=>
  bp (pur (aFieldAddr 7 p7) m) fun x150 m=>
  bp (pur (aLoad false 1 x150 m) m) fun x151 m=>
  bp (pur (bin .eql true true .int x151 (.int .u8 2)) m) fun x152 m=>
  bp (G.tab Qd4 [x148,x149,x152,(.bool true)] m) fun x153 m=>
  bp (some (aNew Q7o [(.int .i64 0)] m)) fun x154 m=>
  bp (unt (aStore 1 x154 x153 m)) fun _ m=>
  Qte G p2 p5 p8 x154 p6 p7 p3 p4 m
def Qth (G:Gt)(p2 p8 p5 p6 p7 p3 p4:V)(m:M):R:=
  bp (pur (aLoad false 1 p2 m) m) fun x155 m=>
  bp (pur (aLoad false 1 p2 m) m) fun x156 m=>
  bp (pur (aNilCheck x156) m) fun x157 m=>
  bp (pur (aFieldAddr 0 x157) m) fun x158 m=>
  bp (pur (aLoad false 1 x158 m) m) fun x159 m=>
  bp (pur (aLoad false 1 p8 m) m) fun x160 m=>
  bp (pur (aFieldAddr 0 p5) m) fun x161 m=>
  bp (G.tab Qoo [x159,x160] m) fun x162 m=>
  ckB (again (pur (aLoad false 1 p2 m) m) x155 && true)
  (bp (pur (aExtract x162 0) m) fun x163 m=>
  bp (pur (aExtract x162 1) m) fun x164 m=>
  bp (G.tab Q1 [x155,x163,x164] m) fun x165 m=>
  bp (pur (aIndexAddrArr 8 1 x161 (.int .u8 2)) m) fun x166 m=>
  bp (unt (aStore 1 x166 x165 m)) fun _ m=>
  Qtg G p2 p6 p7 p5 p8 p3 p4 m)
def Qti (G:Gt)(p2 p6 p7 p5 p3 p4:V)(m:M):R:=
  bp (pur (aLoad false 1 p2 m) m) fun x167 m=>
  bp (pur (aLoad true 12 p6 m) m) fun x168 m=>
  bp (pur (aFieldAddr 5 p7) m) fun x169 m=>
  bp (pur (aLoad false 1 x169 m) m) fun x170 m=>
  bp (G.tab Qd9 [x167,x168,x170] m) fun x171 m=>
  bp (some (aNew Q7o [(.int .i64 0)] m)) fun x172 m=>
  bp (unt (aStore 1 x172 x171 m)) fun _ m=>
  Qth G p2 x172 p5 p6 p7 p3 p4 m
def Qtj (G:Gt)(p6 p3 p2 p5 p4:V)(m:M):R:=
  bp (pur (aFieldAddr 3 p6) m) fun x173 m=>
  bp (pur (aLoad false 1 x173 m) m) fun x174 m=>
  bp (pur (aFieldAddr 1 p3) m) fun x175 m=>
  bp (pur (aLoad false 1 x175 m) m) fun x176 m=>
  bp (pur (aIndexAddrSl 11 x174 x176) m) fun x177 m=>
  bp (pur (aLoad true 11 x177 m) m) fun x178 m=>
  bp (some (aNew Q1r Q7y m)) fun x179 m=>
  bp (unt (aStore 11 x179 x178 m)) fun _ m=>
  Qti G p2 p6 x179 p5 p3 p4 m
def Qtk (G:Gt)(p2 p3 p5 p4:V)(m:M):R:=
  bp (pur (aLoad false 1 p2 m) m) fun x180 m=>
  bp (pur (aNilCheck x180) m) fun x181 m=>
  bp (pur (aFieldAddr 2 x181) m) fun x182 m=>
  bp (pur (aLoad false 1 x182 m) m) fun x183 m=>
  bp (pur (aFieldAddr 0 p3) m) fun x184 m=>
  bp (pur (aLoad false 1 x184 m) m) fun x185 m=>
  bp (pur (aIndexAddrSl 12 x183 x185) m) fun x186 m=>
  bp (pur (aLoad true 12 x186 m) m) fun x187 m=>
  bp (some (aNew Qx Q1b m)) fun x188 m=>
  bp (unt (aStore 12 x188 x187 m)) fun _ m=>
  Qtj G x188 p3 p2 p5 p4 m
def Qtl (G:Gt)(p2 p3 p4:V)(m:M):R:=
  bp (some (aNew Qfa Q8l m)) fun x189 m=>
  Qtk G p2 p3 x189 p4 m
def Qki (G:Gt)(p0 p1:V)(m:M):R:=
  bp (some (aNew Q1l4 (Value.cells p0).toList m)) fun x190 m=>
  bp (some (aNew Qw (Value.cells p1).toList m)) fun x191 m=>
  bp (some (aNew Qfa Q8l m)) fun x192 m=>
  Qtl G x190 x191 x192 m
theorem Q1cl (G:Gt)(a0 a1:V)(m:M):ef G Tryz.f30 [a0,a1] m = Qki G a0 a1 m:=
  evFn_of (r:=fun r m=>Qki G (r 0) (r 1) m) rfl rfl (tr (seqQ (f:=fun r m=>Qtl G (r 2) (r 3) (r 4) m) (tr (seqQ (f:=fun r m=>Qtk G (r 2) (r 3) (r 5) (r 4) m) (tr (seqQ (f:=fun r m=>Qtj G (r 6) (r 3) (r 2) (r 5) (r 4) m) (tr (seqQ (f:=fun r m=>Qti G (r 2) (r 6) (r 7) (r 5) (r 3) (r 4) m) (tr (seqQ (f:=fun r m=>Qth G (r 2) (r 8) (r 5) (r 6) (r 7) (r 3) (r 4) m) (tr (seqQ (f:=fun r m=>Qtg G (r 2) (r 6) (r 7) (r 5) (r 8) (r 3) (r 4) m) (tr (seqQ (f:=fun r m=>Qte G (r 2) (r 5) (r 8) (r 9) (r 6) (r 7) (r 3) (r 4) m) (tr (seqQ (f:=fun r m=>Qtc G (r 10) (r 8) (r 9) (r 2) (r 6) (r 7) (r 3) (r 5) (r 4) m) (tr (seqQ (f:=fun r m=>Qtb G (r 6) (r 7) (r 2) (r 11) (r 3) (r 8) (r 9) (r 10) (r 5) (r 4) m) (tr (seqQ (f:=fun r m=>Qta G (r 6) (r 7) (r 2) (r 12) (r 11) (r 3) (r 8) (r 9) (r 10) (r 5) (r 4) m) (tr (tr (seqQ (f:=fun r m=>Qsi G (r 11) (r 12) (r 2) (r 3) (r 7) (r 8) (r 9) (r 10) (r 5) (r 4) m) (tr (seqQ (f:=fun r m=>Qsh G (r 2) (r 12) (r 3) (r 7) (r 11) (r 8) (r 9) (r 10) (r 5) (r 4) m) (tr (seqQ (f:=fun r m=>Qsg G (r 2) (r 3) (r 7) (r 15) (r 11) (r 8) (r 9) (r 10) (r 5) (r 4) m) (tr (seqQ (f:=fun r m=>Qsf G (r 16) (r 2) (r 15) (r 11) (r 3) (r 8) (r 9) (r 10) (r 5) (r 4) m) (tr (seqQ (f:=fun r m=>Qse G (r 16) (r 2) (r 15) (r 11) (r 3) (r 8) (r 9) (r 10) (r 5) (r 4) m) (tr (seqQ (f:=fun r m=>Qsd G (r 16) (r 2) (r 15) (r 11) (r 3) (r 8) (r 9) (r 10) (r 18) (r 5) (r 4) m) (tr (tr (seqQ (f:=fun r m=>Qs3 G (r 11) (r 15) (r 18) (r 2) (r 5) (r 4) m) (tr (seqQ (f:=fun r m=>Qs2 G (r 18) (r 2) (r 5) (r 4) m) (tr (tr (seqQ (f:=fun r m=>Qrs G (r 5) (r 4) m) (fun r m=>by kernel_rfl)) (seqQ (f:=fun r m=>Qs1 G (r 195) (r 2) (r 5) (r 4) m) (tr (blockQ (loopQ (fun i r m=>Qp G i (r 195) (r 2) (r 5) (r 4) m) (fun _ _=>rfl) (fun i0=>tr (seqQ (f:=fun r m=>Qs0 G (Qp G i0) (r 197) (r 195) (r 2) (r 5) (r 4) m) (tr (seqQ (f:=fun r m=>Qrz G (Qp G i0) (r 195) (r 2) (r 5) (r 4) m) (tr (blockQ (seqQ (f:=fun r m=>Qry G (Qp G i0) (r 25) (r 26) (r 2) (r 5) (r 195) (r 4) m) (tr (seqQ (f:=fun r m=>Qrx G (Qp G i0) (r 26) (r 2) (r 27) (r 5) (r 195) (r 4) m) (tr (tr (seqQ (f:=fun r m=>Qrt G (Qp G i0) (r 27) (r 5) (r 195) (r 2) (r 4) m) (fun r m=>by kernel_rfl)) (seqQ (f:=fun r m=>Qrw G (Qp G i0) (r 205) (r 204) (r 203) (r 2) (r 27) (r 5) (r 195) (r 4) m) (tr (blockQ (loopQ (fun i r m=>Q3l G (Qp G i0) i (r 205) (r 204) (r 203) (r 2) (r 27) (r 5) (r 195) (r 4) m) (fun _ _=>rfl) (fun i1=>tr (seqQ (f:=fun r m=>Qrv G (Q3l G (Qp G i0) i1) (Qp G i0) (r 206) (r 203) (r 205) (r 2) (r 27) (r 204) (r 5) (r 195) (r 4) m) (tr (seqQ (f:=fun r m=>Qru G (Q3l G (Qp G i0) i1) (r 203) (r 205) (r 2) (r 27) (r 204) (r 5) (r 195) (r 4) m) (tr (seqQ (f:=fun r m=>Qgc G (Q3l G (Qp G i0) i1) (r 205) (r 204) (r 203) (r 2) (r 27) (r 5) (r 195) (r 4) m) (fun r m=>by kernel_rfl)) (fun r m=>by kernel_rfl))) (fun r m=>by kernel_rfl))) (fun r m=>by kernel_rfl)))) (fun r m=>by kernel_rfl)))) (fun r m=>by kernel_rfl))) (fun r m=>by kernel_rfl)))) (fun r m=>by kernel_rfl))) (fun r m=>by kernel_rfl))) (fun r m=>by kernel_rfl)))) (fun r m=>by kernel_rfl)))) (fun r m=>by kernel_rfl))) (fun r m=>by kernel_rfl))) (seqQ (f:=fun r m=>Qsc G (r 130) (r 129) (r 128) (r 2) (r 15) (r 11) (r 3) (r 8) (r 9) (r 10) (r 18) (r 5) (r 4) m) (tr (blockQ (loopQ (fun i r m=>Qt G i (r 130) (r 129) (r 128) (r 2) (r 15) (r 11) (r 3) (r 8) (r 9) (r 10) (r 18) (r 5) (r 4) m) (fun _ _=>rfl) (fun i0=>tr (seqQ (f:=fun r m=>Qsb G (Qt G i0) (r 131) (r 128) (r 130) (r 2) (r 15) (r 11) (r 129) (r 3) (r 8) (r 9) (r 10) (r 18) (r 5) (r 4) m) (tr (seqQ (f:=fun r m=>Qsa G (Qt G i0) (r 128) (r 130) (r 2) (r 15) (r 11) (r 129) (r 3) (r 8) (r 9) (r 10) (r 18) (r 5) (r 4) m) (tr (tr (seqQ (f:=fun r m=>Qgd G (Qt G i0) (r 130) (r 129) (r 128) (r 2) (r 15) (r 11) (r 3) (r 8) (r 9) (r 10) (r 18) (r 5) (r 4) m) (fun r m=>by kernel_rfl)) (blockQ (seqQ (f:=fun r m=>Qs9 G (Qt G i0) (r 2) (r 20) (r 15) (r 11) (r 130) (r 129) (r 128) (r 3) (r 8) (r 9) (r 10) (r 18) (r 5) (r 4) m) (tr (seqQ (f:=fun r m=>Qs8 G (Qt G i0) (r 2) (r 15) (r 21) (r 20) (r 11) (r 130) (r 129) (r 128) (r 3) (r 8) (r 9) (r 10) (r 18) (r 5) (r 4) m) (tr (seqQ (f:=fun r m=>Qs7 G (Qt G i0) (r 2) (r 15) (r 21) (r 20) (r 11) (r 22) (r 130) (r 129) (r 128) (r 3) (r 8) (r 9) (r 10) (r 18) (r 5) (r 4) m) (tr (seqQ (f:=fun r m=>Qs6 G (Qt G i0) (r 20) (r 11) (r 22) (r 130) (r 129) (r 128) (r 2) (r 15) (r 3) (r 8) (r 9) (r 10) (r 18) (r 5) (r 4) m) (tr (seqQ (f:=fun r m=>Qs5 G (Qt G i0) (r 20) (r 2) (r 3) (r 8) (r 9) (r 22) (r 10) (r 18) (r 130) (r 129) (r 128) (r 15) (r 11) (r 5) (r 4) m) (tr (seqQ (f:=fun r m=>Qs4 G (Qt G i0) (r 175) (r 174) (r 173) (r 2) (r 3) (r 8) (r 9) (r 22) (r 10) (r 18) (r 130) (r 129) (r 128) (r 15) (r 11) (r 5) (r 4) m) (tr (blockQ (loopQ (fun i r m=>Qge G (Qt G i0) i (r 175) (r 174) (r 173) (r 2) (r 3) (r 8) (r 9) (r 22) (r 10) (r 18) (r 130) (r 129) (r 128) (r 15) (r 11) (r 5) (r 4) m) (fun _ _=>rfl) (fun i1=>fun r m=>by kernel_rfl))) (fun r m=>by kernel_rfl))) (fun r m=>by kernel_rfl))) (fun r m=>by kernel_rfl))) (fun r m=>by kernel_rfl))) (fun r m=>by kernel_rfl))) (fun r m=>by kernel_rfl))))) (fun r m=>by kernel_rfl))) (fun r m=>by kernel_rfl))) (fun r m=>by kernel_rfl)))) (fun r m=>by kernel_rfl)))) (fun r m=>by kernel_rfl))) (fun r m=>by kernel_rfl))) (fun r m=>by kernel_rfl))) (fun r m=>by kernel_rfl))) (fun r m=>by kernel_rfl))) (fun r m=>by kernel_rfl))) (seqQ (f:=fun r m=>Qsn G (r 72) (r 71) (r 70) (r 7) (r 2) (r 12) (r 11) (r 3) (r 8) (r 9) (r 10) (r 5) (r 4) m) (tr (blockQ (loopQ (fun i r m=>Q21 G i (r 72) (r 71) (r 70) (r 7) (r 2) (r 12) (r 11) (r 3) (r 8) (r 9) (r 10) (r 5) (r 4) m) (fun _ _=>rfl) (fun i0=>tr (seqQ (f:=fun r m=>Qsm G (Q21 G i0) (r 73) (r 70) (r 72) (r 7) (r 2) (r 12) (r 71) (r 11) (r 3) (r 8) (r 9) (r 10) (r 5) (r 4) m) (tr (seqQ (f:=fun r m=>Qsl G (Q21 G i0) (r 70) (r 72) (r 7) (r 2) (r 12) (r 71) (r 11) (r 3) (r 8) (r 9) (r 10) (r 5) (r 4) m) (tr (tr (seqQ (f:=fun r m=>Qgf G (Q21 G i0) (r 72) (r 71) (r 70) (r 7) (r 2) (r 12) (r 11) (r 3) (r 8) (r 9) (r 10) (r 5) (r 4) m) (fun r m=>by kernel_rfl)) (blockQ (seqQ (f:=fun r m=>Qsk G (Q21 G i0) (r 14) (r 7) (r 2) (r 12) (r 72) (r 71) (r 70) (r 11) (r 3) (r 8) (r 9) (r 10) (r 5) (r 4) m) (tr (seqQ (f:=fun r m=>Qgg G (Q21 G i0) (r 84) (r 2) (r 12) (r 14) (r 72) (r 71) (r 70) (r 7) (r 11) (r 3) (r 8) (r 9) (r 10) (r 5) (r 4) m) (fun r m=>by kernel_rfl)) (fun r m=>by kernel_rfl))))) (fun r m=>by kernel_rfl))) (fun r m=>by kernel_rfl))) (fun r m=>by kernel_rfl)))) (fun r m=>by kernel_rfl)))) (fun r m=>by kernel_rfl))) (fun r m=>by kernel_rfl))) (fun r m=>by kernel_rfl))) (fun r m=>by kernel_rfl))) (fun r m=>by kernel_rfl))) (fun r m=>by kernel_rfl))) (fun r m=>by kernel_rfl))) (fun r m=>by kernel_rfl))) (fun r m=>by kernel_rfl))) (fun r m=>by kernel_rfl))) (fun r m=>by kernel_rfl)) m
def Q1cm:En:=⟨Qx4,Tryz.f30,Tryz.func30,by kernel_rfl,arg2 Qki,okarg2 Q1cl⟩
end
end Go.Ab.Sh
