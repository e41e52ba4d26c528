/-
  Functions of the program as plain definitions. No conditions.
-/
import Derived.Test.YtoahkkdbdiamcaaGreatDoorAb5
import Derived.Test.YtoahkkdbdiamcaaGreatDoorZ
import Derived.KernelRfl
import Derived.Test.YtoahkkdbdiamcaaGreatDoorProg
set_option linter.unusedVariables false
set_option maxRecDepth 100000
namespace Go.Ab.Sh
open Go Go.Ab Go.Proofs
noncomputable section
def Q1cm (G:Gt)(p2:V)(m:M):R:=
  some (p2,m)
def Q1mo (G:Gt)(p1:V)(m:M):R:=
  bp (pur (aFieldAddr 4 p1) m) fun x0 m=>
  bp (pur (aLoad false 1 x0 m) m) fun x1 m=>
  bp (pur (un .not x1) m) fun x2 m=>
  brb x2
  (bp (pur (aFieldAddr 3 p1) m) fun x3 m=>
  bp (pur (aLoad false 1 x3 m) m) fun x4 m=>
  bp (pur (bin .gtr true true .int x4 (.int .i64 0)) m) fun x5 m=>
  Q1cm G x5 m)
  (Q1cm G (.bool false) m)
def Q1ih (G:Gt)(p0:V)(m:M):R:=
  bp (some (aNew Q1d (Value.cells p0).toList m)) fun x6 m=>
  Q1mo G x6 m
theorem Q232 (G:Gt)(a0:V)(m:M):ef G Tryz.f29 [a0] m = Q1ih G a0 m:=
  evFn_of (r:=fun r m=>Q1ih G (r 0) m) rfl rfl (tr (seqQ (f:=fun r m=>Q1mo G (r 1) m) (tr (seqQ (f:=fun r m=>Q1cm G (r 2) m) (fun r m=>by kernel_rfl)) (fun r m=>by kernel_rfl))) (fun r m=>by kernel_rfl)) m
def Q221:En:=⟨Ql6,Tryz.f29,Tryz.func29,by kernel_rfl,arg1 Q1ih,okarg1 Q232⟩
def Q1f6 (G:Gt)(p0:V)(m:M):R:=
  bp (some (aNew Q1d (Value.cells p0).toList m)) fun x0 m=>
  bp (some (aNew Q1x Q2d m)) fun x1 m=>
  bp (pur (aFieldAddr 3 x0) m) fun x2 m=>
  bp (pur (aLoad false 1 x2 m) m) fun x3 m=>
  bp (pur (bin .eql true true .int x3 (.int .i64 0)) m) fun x4 m=>
  brb x4
  (bp (pur (aBuild Q2d [(0,1),(1,1)] []) m) fun x5 m=>
  bp (unt (aStore 2 x1 x5 m)) fun _ m=>
  ob (ob (aLoad true 2 x1 m) fun v=>ob (some []) fun l=>some (v :: l)) fun l=>some (resVal l,m))
  (bp (pur (aFieldAddr 2 x0) m) fun x6 m=>
  bp (pur (aLoad false 1 x6 m) m) fun x7 m=>
  bp (pur (aFieldAddr 3 x0) m) fun x8 m=>
  bp (pur (aLoad false 1 x8 m) m) fun x9 m=>
  bp (G.tab Q1ep [x7,x9] m) fun x10 m=>
  bp (pur (aExtract x10 0) m) fun x11 m=>
  bp (pur (aExtract x10 1) m) fun x12 m=>
  bp (some (aNew Q1x Q2d m)) fun x13 m=>
  bp (unt (aStore 2 x13 x11 m)) fun _ m=>
  bp (pur (aLoad true 2 x13 m) m) fun x14 m=>
  bp (unt (aStore 2 x1 x14 m)) fun _ m=>
  ob (ob (aLoad true 2 x1 m) fun v=>ob (some []) fun l=>some (v :: l)) fun l=>some (resVal l,m))
theorem Q21n (G:Gt)(a0:V)(m:M):ef G Tryz.f30 [a0] m = Q1f6 G a0 m:=
  evFn_of (r:=fun r m=>Q1f6 G (r 0) m) rfl rfl (fun r m=>by kernel_rfl) m
def Q20p:En:=⟨Q1ox,Tryz.f30,Tryz.func30,by kernel_rfl,arg1 Q1f6,okarg1 Q21n⟩
def Q123 (G:Gt)(p0:V)(m:M):R:=
  bp (some (aNew Q22e (Value.cells p0).toList m)) fun x0 m=>
  bp (some (aNew Q1j9 [.nilFunc] m)) fun x1 m=>
  bp (unt (aStore 1 x1 (.func (.func Q1aa) ⟨[]⟩ ⟨[x0]⟩) m)) fun _ m=>
  bp (pur (aLoad false 1 x1 m) m) fun x2 m=>
  bp (evCall G.tab x2 [(.func (.func Q1qw) ⟨[]⟩ ⟨[x0,x1]⟩)] m) fun x3 m=>
  some (.tuple ⟨[]⟩,m)
theorem Q1v9 (G:Gt)(a0:V)(m:M):ef G Tryz.f31 [a0] m = Q123 G a0 m:=
  evFn_of (r:=fun r m=>Q123 G (r 0) m) rfl rfl (fun r m=>by kernel_rfl) m
def Q1u0:En:=⟨Q1ff,Tryz.f31,Tryz.func31,by kernel_rfl,arg1 Q123,okarg1 Q1v9⟩
def Qt1 (G:Gt)(p0:V)(m:M):R:=
  bp (pur (binP m .eql true true .ptr p0 (.pointer none)) m) fun x0 m=>
  brb x0
  (some ((.slice none 0 0),m))
  (bp (pur (aNilCheck p0) m) fun x1 m=>
  bp (pur (aFieldAddr 0 x1) m) fun x2 m=>
  bp (pur (aLoad false 1 x2 m) m) fun x3 m=>
  bp (G.tab Q156 [x3] m) fun x4 m=>
  bp (pur (aExtract x4 0) m) fun x5 m=>
  bp (pur (aExtract x4 1) m) fun x6 m=>
  bp (pur (aExtract x4 2) m) fun x7 m=>
  some (x5,m))
theorem Q1o8 (G:Gt)(a0:V)(m:M):ef G Tryz.f32 [a0] m = Qt1 G a0 m:=
  evFn_of (r:=fun r m=>Qt1 G (r 0) m) rfl rfl (fun r m=>by kernel_rfl) m
def Q1nc:En:=⟨Qsf,Tryz.f32,Tryz.func32,by kernel_rfl,arg1 Qt1,okarg1 Q1o8⟩
def Qjb (G:Gt)(p6:V)(m:M):R:=
  some (p6,m)
def Q1g2 (G:Gt)(p1 p0 p2:V)(m:M):R:=
  bp (pur (bin .geq true true .int p1 (.int .i64 0)) m) fun x0 m=>
  brb x0
  (bp (pur (aNilCheck p0) m) fun x1 m=>
  bp (pur (aFieldAddr 1 x1) m) fun x2 m=>
  bp (pur (aLoad false 1 x2 m) m) fun x3 m=>
  bp (pur (lenK 1 x3 m) m) fun x4 m=>
  bp (pur (bin .lss false true .int p1 x4) m) fun x5 m=>
  brb x5
  (bp (pur (bin .eql true true .str p2 (.string ⟨#[]⟩)) m) fun x6 m=>
  brb x6
  (Qjb G (.bool true) m)
  (bp (pur (aNilCheck p0) m) fun x7 m=>
  bp (pur (aFieldAddr 1 x7) m) fun x8 m=>
  bp (pur (aLoad false 1 x8 m) m) fun x9 m=>
  bp (pur (aIndexAddrSl 12 x9 p1) m) fun x10 m=>
  bp (pur (aFieldAddr 2 x10) m) fun x11 m=>
  bp (pur (aLoad false 1 x11 m) m) fun x12 m=>
  bp (G.tab Q11q [x12,p2] m) fun x13 m=>
  Qjb G x13 m))
  (Qjb G (.bool false) m))
  (Qjb G (.bool false) m)
def Q19t (G:Gt)(p1 p0 p2:V)(m:M):R:=
  Q1g2 G p1 p0 p2 m
theorem Q1yd (G:Gt)(a0 a1 a2:V)(m:M):ef G Tryz.f33 [a0,a1,a2] m = Q19t G a1 a0 a2 m:=
  evFn_of (r:=fun r m=>Q19t G (r 1) (r 0) (r 2) m) rfl rfl (tr (seqQ (f:=fun r m=>Q1g2 G (r 1) (r 0) (r 2) m) (tr (seqQ (f:=fun r m=>Qjb G (r 6) m) (fun r m=>by kernel_rfl)) (fun r m=>by kernel_rfl))) (fun r m=>by kernel_rfl)) m
def Q1xb:En:=⟨Q18h,Tryz.f33,Tryz.func33,by kernel_rfl,arg3 (fun G a0 a1 a2 m=>Q19t G a1 a0 a2 m),okarg3 Q1yd⟩
def Q1f7 (G:Gt)(p0:V)(m:M):R:=
  bp (some (aNew Q214 [(.slice none 0 0)] m)) fun x0 m=>
  bp (G.tab Q1xj [p0,(.func (.func Q1jh) ⟨[]⟩ ⟨[x0]⟩)] m) fun x1 m=>
  bp (pur (aLoad false 1 x0 m) m) fun x2 m=>
  some (x2,m)
theorem Q21o (G:Gt)(a0:V)(m:M):ef G Tryz.f34 [a0] m = Q1f7 G a0 m:=
  evFn_of (r:=fun r m=>Q1f7 G (r 0) m) rfl rfl (fun r m=>by kernel_rfl) m
def Q20n:En:=⟨Q1p3,Tryz.f34,Tryz.func34,by kernel_rfl,arg1 Q1f7,okarg1 Q21o⟩
def Q13u (G:Gt)(m:M):R:=
  some ((.int .i64 0),m)
def Qol (G:Gt)(k0:V → V → V → V → M → R)(p51 p50 p49 p0:V)(m:M):R:=
  bp (pur (bin .add true true .int p51 (.int .i64 1)) m) fun x0 m=>
  k0 x0 p50 p49 p0 m
def Q10p (G:Gt)(k0:V → V → V → V → M → R)(p0 p12 p51 p50 p49:V)(m:M):R:=
  bp (pur (aNilCheck p0) m) fun x1 m=>
  bp (pur (aFieldAddr 1 x1) m) fun x2 m=>
  bp (pur (aLoad false 1 x2 m) m) fun x3 m=>
  bp (unt (aMapUpdate .int x3 p12 (.int .i64 2) m)) fun _ m=>
  Qol G k0 p51 p50 p49 p0 m
def Qn0 (G:Gt)(k0:V → V → V → V → M → R):Nat → V → V → V → V → V → V → V → V → M → R
 | 0,_,_,_,_,_,_,_,_,_=>none
 | i + 1,p75,p74,p73,p0,p12,p51,p50,p49,m=>
  bp (pur (bin .lss false true .int p75 p74) m) fun x4 m=>
  brb x4
  (bp (pur (aIndexAddrSl 1 p73 p75) m) fun x5 m=>
  bp (pur (aLoad false 1 x5 m) m) fun x6 m=>
  bp (pur (bin .rem true true .int x6 (.int .i64 2)) m) fun x7 m=>
  bp (pur (bin .eql true true .int x7 (.int .i64 1)) m) fun x8 m=>
  brb x8
  (some ((.int .i64 1),m))
  (bp (pur (bin .add true true .int p75 (.int .i64 1)) m) fun x9 m=>
  (Qn0 G k0 i) x9 p74 p73 p0 p12 p51 p50 p49 m))
  (Q10p G k0 p0 p12 p51 p50 p49 m)
def Q10q (G:Gt)(k0:V → V → V → V → M → R)(p75 p74 p73 p0 p12 p51 p50 p49:V)(m:M):R:=
  Qn0 G k0 G.rds p75 p74 p73 p0 p12 p51 p50 p49 m
def Q10r (G:Gt)(k0:V → V → V → V → M → R)(p13 p0 p12 p51 p50 p49:V)(m:M):R:=
  bp (pur (lenK 1 p13 m) m) fun x10 m=>
  Q10q G k0 (.int .i64 0) x10 p13 p0 p12 p51 p50 p49 m
def Q10s (G:Gt)(k0:V → V → V → V → M → R)(p14 p13 p0 p12 p51 p50 p49:V)(m:M):R:=
  bp (pur (bin .neq true true .int p14 (.int .i64 0)) m) fun x11 m=>
  brb x11
  (some ((.int .i64 1),m))
  (Q10r G k0 p13 p0 p12 p51 p50 p49 m)
def Q10t (G:Gt)(k0:V → V → V → V → M → R)(p0 p12 p51 p50 p49:V)(m:M):R:=
  bp (pur (aNilCheck p0) m) fun x12 m=>
  bp (pur (aFieldAddr 0 x12) m) fun x13 m=>
  bp (pur (aLoad false 1 x13 m) m) fun x14 m=>
  bp (G.tab Qs8 [x14,p12] m) fun x15 m=>
  bp (pur (aExtract x15 0) m) fun x16 m=>
  bp (pur (aExtract x15 1) m) fun x17 m=>
  Q10s G k0 x17 x16 p0 p12 p51 p50 p49 m
def Q13v (G:Gt)(k0:V → V → V → V → M → R)(p0 p12 p51 p50 p49:V)(m:M):R:=
  bp (pur (aNilCheck p0) m) fun x18 m=>
  bp (pur (aFieldAddr 1 x18) m) fun x19 m=>
  bp (pur (aLoad false 1 x19 m) m) fun x20 m=>
  bp (pur (aLookup .int (.int .i64 0) false x20 p12 m) m) fun x21 m=>
  bp (pur (bin .eql true true .int x21 (.int .i64 2)) m) fun x22 m=>
  brb x22
  (Qol G k0 p51 p50 p49 p0 m)
  (Q10t G k0 p0 p12 p51 p50 p49 m)
def Q13w (G:Gt)(k0:V → V → V → V → M → R)(p49 p51 p0 p50:V)(m:M):R:=
  bp (pur (aIndexAddrSl 1 p49 p51) m) fun x23 m=>
  bp (pur (aLoad false 1 x23 m) m) fun x24 m=>
  Q13v G k0 p0 x24 p51 p50 p49 m
def Q13x (G:Gt)(k0:V → V → V → V → M → R)(p52 p49 p51 p0 p50:V)(m:M):R:=
  brb p52
  (Q13w G k0 p49 p51 p0 p50 m)
  (Q13u G m)
def Q1a (G:Gt):Nat → V → V → V → V → M → R
 | 0,_,_,_,_,_=>none
 | i + 1,p51,p50,p49,p0,m=>
  bp (pur (bin .lss false true .int p51 p50) m) fun x25 m=>
  Q13x G (Q1a G i) x25 p49 p51 p0 p50 m
def Q13y (G:Gt)(p51 p50 p49 p0:V)(m:M):R:=
  Q1a G G.rds p51 p50 p49 p0 m
def Q13z (G:Gt)(p1 p0:V)(m:M):R:=
  bp (pur (lenK 1 p1 m) m) fun x26 m=>
  Q13y G (.int .i64 0) x26 p1 p0 m
def Qn1 (G:Gt)(k0:V → V → V → V → V → M → R)(p21 p20 p19 p0 p1:V)(m:M):R:=
  bp (pur (bin .add true true .int p21 (.int .i64 1)) m) fun x27 m=>
  k0 x27 p20 p19 p0 p1 m
def Q10u (G:Gt)(k0:V → V → V → V → V → M → R)(p19 p21 p0 p20 p1:V)(m:M):R:=
  bp (pur (aIndexAddrSl 1 p19 p21) m) fun x28 m=>
  bp (pur (aLoad false 1 x28 m) m) fun x29 m=>
  bp (pur (aNilCheck p0) m) fun x30 m=>
  bp (pur (aFieldAddr 1 x30) m) fun x31 m=>
  bp (pur (aLoad false 1 x31 m) m) fun x32 m=>
  bp (pur (aLookup .int (.int .i64 0) false x32 x29 m) m) fun x33 m=>
  bp (pur (bin .geq true true .int x33 (.int .i64 1)) m) fun x34 m=>
  brb x34
  (Qn1 G k0 p21 p20 p19 p0 p1 m)
  (bp (pur (aNilCheck p0) m) fun x35 m=>
  bp (pur (aFieldAddr 0 x35) m) fun x36 m=>
  bp (pur (aLoad false 1 x36 m) m) fun x37 m=>
  bp (G.tab Q1ui [x37,x29] m) fun x38 m=>
  bp (pur (aExtract x38 0) m) fun x39 m=>
  bp (pur (aExtract x38 1) m) fun x40 m=>
  bp (pur (bin .neq true true .int x40 (.int .i64 0)) m) fun x41 m=>
  brb x41
  (some ((.int .i64 1),m))
  (bp (pur (aNilCheck p0) m) fun x42 m=>
  bp (pur (aFieldAddr 1 x42) m) fun x43 m=>
  bp (pur (aLoad false 1 x43 m) m) fun x44 m=>
  bp (unt (aMapUpdate .int x44 x29 (.int .i64 1) m)) fun _ m=>
  Qn1 G k0 p21 p20 p19 p0 p1 m))
def Q10v (G:Gt)(k0:V → V → V → V → V → M → R)(p22 p19 p21 p0 p20 p1:V)(m:M):R:=
  brb p22
  (Q10u G k0 p19 p21 p0 p20 p1 m)
  (Q13z G p1 p0 m)
def Q5s (G:Gt):Nat → V → V → V → V → V → M → R
 | 0,_,_,_,_,_,_=>none
 | i + 1,p21,p20,p19,p0,p1,m=>
  bp (pur (bin .lss false true .int p21 p20) m) fun x45 m=>
  Q10v G (Q5s G i) x45 p19 p21 p0 p20 p1 m
def Q10w (G:Gt)(p21 p20 p19 p0 p1:V)(m:M):R:=
  Q5s G G.rds p21 p20 p19 p0 p1 m
def Q140 (G:Gt)(p2 p0 p1:V)(m:M):R:=
  bp (pur (lenK 1 p2 m) m) fun x46 m=>
  Q10w G (.int .i64 0) x46 p2 p0 p1 m
def Q141 (G:Gt)(p0 p2 p1:V)(m:M):R:=
  bp (pur (binP m .eql true true .ptr p0 (.pointer none)) m) fun x47 m=>
  brb x47
  (some ((.int .i64 2),m))
  (Q140 G p2 p0 p1 m)
def Qt2 (G:Gt)(p0 p2 p1:V)(m:M):R:=
  Q141 G p0 p2 p1 m
theorem Q1o9 (G:Gt)(a0 a1 a2:V)(m:M):ef G Tryz.f35 [a0,a1,a2] m = Qt2 G a0 a2 a1 m:=
  evFn_of (r:=fun r m=>Qt2 G (r 0) (r 2) (r 1) m) rfl rfl (tr (seqQ (f:=fun r m=>Q141 G (r 0) (r 2) (r 1) m) (tr (seqQ (f:=fun r m=>Q140 G (r 2) (r 0) (r 1) m) (tr (tr (seqQ (f:=fun r m=>Q13z G (r 1) (r 0) m) (tr (tr (seqQ (f:=fun r m=>Q13u G m) (fun r m=>by kernel_rfl)) (seqQ (f:=fun r m=>Q13y G (r 51) (r 50) (r 49) (r 0) m) (tr (blockQ (loopQ (fun i r m=>Q1a G i (r 51) (r 50) (r 49) (r 0) m) (fun _ _=>rfl) (fun i0=>tr (seqQ (f:=fun r m=>Q13x G (Q1a G i0) (r 52) (r 49) (r 51) (r 0) (r 50) m) (tr (seqQ (f:=fun r m=>Q13w G (Q1a G i0) (r 49) (r 51) (r 0) (r 50) m) (tr (tr (seqQ (f:=fun r m=>Qol G (Q1a G i0) (r 51) (r 50) (r 49) (r 0) m) (fun r m=>by kernel_rfl)) (blockQ (seqQ (f:=fun r m=>Q13v G (Q1a G i0) (r 0) (r 12) (r 51) (r 50) (r 49) m) (tr (seqQ (f:=fun r m=>Q10t G (Q1a G i0) (r 0) (r 12) (r 51) (r 50) (r 49) m) (tr (seqQ (f:=fun r m=>Q10s G (Q1a G i0) (r 14) (r 13) (r 0) (r 12) (r 51) (r 50) (r 49) m) (tr (seqQ (f:=fun r m=>Q10r G (Q1a G i0) (r 13) (r 0) (r 12) (r 51) (r 50) (r 49) m) (tr (tr (seqQ (f:=fun r m=>Q10p G (Q1a G i0) (r 0) (r 12) (r 51) (r 50) (r 49) m) (fun r m=>by kernel_rfl)) (seqQ (f:=fun r m=>Q10q G (Q1a G i0) (r 75) (r 74) (r 73) (r 0) (r 12) (r 51) (r 50) (r 49) m) (tr (blockQ (loopQ (fun i r m=>Qn0 G (Q1a G i0) i (r 75) (r 74) (r 73) (r 0) (r 12) (r 51) (r 50) (r 49) m) (fun _ _=>rfl) (fun i1=>fun r m=>by kernel_rfl))) (fun r m=>by kernel_rfl)))) (fun r m=>by kernel_rfl))) (fun r m=>by kernel_rfl))) (fun r m=>by kernel_rfl))) (fun r m=>by kernel_rfl))))) (fun r m=>by kernel_rfl))) (fun r m=>by kernel_rfl))) (fun r m=>by kernel_rfl)))) (fun r m=>by kernel_rfl)))) (fun r m=>by kernel_rfl))) (seqQ (f:=fun r m=>Q10w G (r 21) (r 20) (r 19) (r 0) (r 1) m) (tr (blockQ (loopQ (fun i r m=>Q5s G i (r 21) (r 20) (r 19) (r 0) (r 1) m) (fun _ _=>rfl) (fun i0=>tr (seqQ (f:=fun r m=>Q10v G (Q5s G i0) (r 22) (r 19) (r 21) (r 0) (r 20) (r 1) m) (tr (seqQ (f:=fun r m=>Q10u G (Q5s G i0) (r 19) (r 21) (r 0) (r 20) (r 1) m) (tr (seqQ (f:=fun r m=>Qn1 G (Q5s G i0) (r 21) (r 20) (r 19) (r 0) (r 1) m) (fun r m=>by kernel_rfl)) (fun r m=>by kernel_rfl))) (fun r m=>by kernel_rfl))) (fun r m=>by kernel_rfl)))) (fun r m=>by kernel_rfl)))) (fun r m=>by kernel_rfl))) (fun r m=>by kernel_rfl))) (fun r m=>by kernel_rfl)) m
def Q1n5:En:=⟨Qjk,Tryz.f35,Tryz.func35,by kernel_rfl,arg3 (fun G a0 a1 a2 m=>Qt2 G a0 a2 a1 m),okarg3 Q1o9⟩
def Qt3 (G:Gt)(p29 p6 p5 p3 p1:V)(m:M):R:=
  brb p29
  (bp (pur (aBuild Q3g [(0,1),(1,1)] []) m) fun x0 m=>
  bp (unt (aStore 2 p6 x0 m)) fun _ m=>
  ob (ob (aLoad true 2 p6 m) fun v=>ob (some [(.int .i64 1)]) fun l=>some (v :: l)) fun l=>some (resVal l,m))
  (bp (some (aNew Q1xw [.nilFunc] m)) fun x1 m=>
  bp (unt (aStore 1 x1 (.func (.func Q18a) ⟨[]⟩ ⟨[p5,p3]⟩) m)) fun _ m=>
  bp (some (aMakeMap m)) fun x2 m=>
  bp (pur (aBuild Q3g [(0,1),(1,1)] []) m) fun x3 m=>
  bp (unt (aMapUpdate .int x2 (.int .i32 0) x3 m)) fun _ m=>
  bp (pur (aBuild Q3g [(0,1),(1,1)] [(1,(.int .u64 1))]) m) fun x4 m=>
  bp (unt (aMapUpdate .int x2 (.int .i32 1) x4 m)) fun _ m=>
  bp (some (aNew Q1m4 [(.map none)] m)) fun x5 m=>
  bp (unt (aStore 1 x5 x2 m)) fun _ m=>
  bp (some (aNew Q1m5 [.nilFunc] m)) fun x6 m=>
  let x7:V:=(.func (.func Q18b) ⟨[]⟩ ⟨[x5,p3,x6,x1]⟩)
  bp (unt (aStore 1 x6 x7 m)) fun _ m=>
  bp (pur (aLoad false 1 x6 m) m) fun x8 m=>
  bp (conv (.int .i32) p1 m) fun x9 m=>
  bp (pur (aLoad false 1 x1 m) m) fun x10 m=>
  bp (conv (.int .i32) p1 m) fun x11 m=>
  bp (evCall G.tab x8 [x9] m) fun x12 m=>
  ckB (again (pur (aLoad false 1 x1 m) m) x10 && true)
  (bp (evCall G.tab x10 [x11] m) fun x13 m=>
  bp (G.tab Q1kj [x12,x13] m) fun x14 m=>
  bp (unt (aStore 2 p6 x14 m)) fun _ m=>
  ob (ob (aLoad true 2 p6 m) fun v=>ob (some [(.int .i64 0)]) fun l=>some (v :: l)) fun l=>some (resVal l,m)))
def Q19u (G:Gt)(p3 p1 p5 p6:V)(m:M):R:=
  bp (pur (aLoad false 1 p3 m) m) fun x15 m=>
  bp (pur (aLoad false 1 p5 m) m) fun x16 m=>
  bp (G.tab Q1d9 [x15,p1,x16] m) fun x17 m=>
  bp (pur (un .not x17) m) fun x18 m=>
  brb x18
  (Qt3 G (.bool true) p6 p5 p3 p1 m)
  (bp (pur (aLoad false 1 p5 m) m) fun x19 m=>
  bp (pur (lenK 1 x19 m) m) fun x20 m=>
  bp (pur (bin .gtr true true .int x20 (.int .i64 127)) m) fun x21 m=>
  Qt3 G x21 p6 p5 p3 p1 m)
def Q19v (G:Gt)(p3 p1 p6 p5:V)(m:M):R:=
  bp (pur (aLoad false 1 p3 m) m) fun x22 m=>
  bp (aBuildSlice Qcu [(.int .i64 0)] 1 1 [(0,p1)] m) fun x23 m=>
  bp (G.tab Q2z [x22,x23] m) fun x24 m=>
  bp (pur (bin .neq true true .int x24 (.int .i64 0)) m) fun x25 m=>
  brb x25
  (bp (pur (aBuild Q3g [(0,1),(1,1)] []) m) fun x26 m=>
  bp (unt (aStore 2 p6 x26 m)) fun _ m=>
  ob (ob (aLoad true 2 p6 m) fun v=>ob (some [x24]) fun l=>some (v :: l)) fun l=>some (resVal l,m))
  (Q19u G p3 p1 p5 p6 m)
def Qzb (G:Gt)(p0 p2 p1:V)(m:M):R:=
  bp (some (aNew Q2r (Value.cells p0).toList m)) fun x27 m=>
  bp (some (aNew Q1z3 (Value.cells p2).toList m)) fun x28 m=>
  bp (some (aNew Qg0 Q3g m)) fun x29 m=>
  Q19v G x27 p1 x29 x28 m
theorem Q1tp (G:Gt)(a0 a1 a2:V)(m:M):ef G Tryz.f36 [a0,a1,a2] m = Qzb G a0 a2 a1 m:=
  evFn_of (r:=fun r m=>Qzb G (r 0) (r 2) (r 1) m) rfl rfl (tr (seqQ (f:=fun r m=>Q19v G (r 3) (r 1) (r 6) (r 5) m) (tr (seqQ (f:=fun r m=>Q19u G (r 3) (r 1) (r 5) (r 6) m) (tr (tr seqD (seqQ (f:=fun r m=>Qt3 G (r 29) (r 6) (r 5) (r 3) (r 1) m) (fun r m=>by kernel_rfl))) (fun r m=>by kernel_rfl))) (fun r m=>by kernel_rfl))) (fun r m=>by kernel_rfl)) m
def Q1rp:En:=⟨Q1de,Tryz.f36,Tryz.func36,by kernel_rfl,arg3 (fun G a0 a1 a2 m=>Qzb G a0 a2 a1 m),okarg3 Q1tp⟩
def Q1vm (G:Gt)(p3:V)(m:M):R:=
  some (p3,m)
def Q1l4 (G:Gt):Nat → V → V → V → M → R
 | 0,_,_,_,_=>none
 | i + 1,p5,p3,p0,m=>
  bp (pur (bin .lss true true .int p5 (.int .i64 104)) m) fun x0 m=>
  brb x0
  (bp (evCall G.tab p0 [p5] m) fun x1 m=>
  bp (aBuildSlice Qcu [(.int .i64 0)] 1 1 [(0,x1)] m) fun x2 m=>
  bp (apS Qcu 1 8 p3 x2 m) fun x3 m=>
  bp (pur (bin .add true true .int p5 (.int .i64 1)) m) fun x4 m=>
  (Q1l4 G i) x4 x3 p0 m)
  (Q1vm G p3 m)
def Q1vn (G:Gt)(p5 p3 p0:V)(m:M):R:=
  Q1l4 G G.rds p5 p3 p0 m
def Q1vo (G:Gt)(p3 p0:V)(m:M):R:=
  Q1vn G (.int .i64 0) p3 p0 m
def Q1vp (G:Gt)(p0:V)(m:M):R:=
  Q1vo G (.slice none 0 0) p0 m
def Q1tq (G:Gt)(p0:V)(m:M):R:=
  Q1vp G p0 m
theorem Q26t (G:Gt)(a0:V)(m:M):ef G Tryz.f37 [a0] m = Q1tq G a0 m:=
  evFn_of (r:=fun r m=>Q1tq G (r 0) m) rfl rfl (tr (seqQ (f:=fun r m=>Q1vp G (r 0) m) (tr (seqQ (f:=fun r m=>Q1vo G (r 3) (r 0) m) (tr (tr (seqQ (f:=fun r m=>Q1vm G (r 3) m) (fun r m=>by kernel_rfl)) (seqQ (f:=fun r m=>Q1vn G (r 5) (r 3) (r 0) m) (tr (blockQ (loopQ (fun i r m=>Q1l4 G i (r 5) (r 3) (r 0) m) (fun _ _=>rfl) (fun i0=>fun r m=>by kernel_rfl))) (fun r m=>by kernel_rfl)))) (fun r m=>by kernel_rfl))) (fun r m=>by kernel_rfl))) (fun r m=>by kernel_rfl)) m
def Q269:En:=⟨Q1zo,Tryz.f37,Tryz.func37,by kernel_rfl,arg1 Q1tq,okarg1 Q26t⟩
def Q1tr (G:Gt)(p0:V)(m:M):R:=
  bp (pur (bin .mul true true .int (.int .i64 2) p0) m) fun x0 m=>
  some (x0,m)
theorem Q26u (G:Gt)(a0:V)(m:M):ef G Tryz.f38 [a0] m = Q1tr G a0 m:=
  evFn_of (r:=fun r m=>Q1tr G (r 0) m) rfl rfl (fun r m=>by kernel_rfl) m
def Q26d:En:=⟨Q1jv,Tryz.f38,Tryz.func38,by kernel_rfl,arg1 Q1tr,okarg1 Q26u⟩
def Q7b (G:Gt)(p0:V)(m:M):R:=
  bp (pur (bin .eql true true .slice p0 (.slice none 0 0)) m) fun x0 m=>
  brb x0
  (some ((.slice none 0 0),m))
  (bp (aBuildSlice Q7 Qo 2 0 [] m) fun x1 m=>
  bp (apS Q7 2 16 x1 p0 m) fun x2 m=>
  some (x2,m))
theorem Qx7 (G:Gt)(a0:V)(m:M):ef G Tryz.f39 [a0] m = Q7b G a0 m:=
  evFn_of (r:=fun r m=>Q7b G (r 0) m) rfl rfl (fun r m=>by kernel_rfl) m
def Qwx:En:=⟨Q71,Tryz.f39,Tryz.func39,by kernel_rfl,arg1 Q7b,okarg1 Qx7⟩
end
end Go.Ab.Sh

set_option linter.unusedVariables false
set_option maxRecDepth 100000
namespace Go.Ab.Sh
open Go Go.Ab Go.Proofs
noncomputable section
def Qzc (G:Gt)(p8 p7:V)(m:M):R:=
  some (.tuple ⟨[p8,p7]⟩,m)
def Qlx (G:Gt):Nat → V → V → V → V → V → M → R
 | 0,_,_,_,_,_,_=>none
 | i + 1,p20,p19,p18,p8,p7,m=>
  bp (pur (bin .lss false true .int p20 p19) m) fun x0 m=>
  brb x0
  (bp (pur (aIndexAddrSl 3 p18 p20) m) fun x1 m=>
  bp (pur (aLoad true 3 x1 m) m) fun x2 m=>
  bp (some (aNew Q14k Q14l m)) fun x3 m=>
  bp (unt (aStore 3 x3 x2 m)) fun _ m=>
  bp (pur (aFieldAddr 0 x3) m) fun x4 m=>
  bp (pur (aLoad true 2 x4 m) m) fun x5 m=>
  bp (aBuildSlice Q7 Qo 2 1 [(0,x5)] m) fun x6 m=>
  bp (apS Q7 2 16 p8 x6 m) fun x7 m=>
  bp (pur (bin .add true true .int p20 (.int .i64 1)) m) fun x8 m=>
  (Qlx G i) x8 p19 p18 x7 p7 m)
  (Qzc G p8 p7 m)
def Qzd (G:Gt)(p20 p19 p18 p8 p7:V)(m:M):R:=
  Qlx G G.rds p20 p19 p18 p8 p7 m
def Qze (G:Gt)(p6 p8 p7:V)(m:M):R:=
  bp (pur (aFieldAddr 8 p6) m) fun x9 m=>
  bp (pur (aLoad false 1 x9 m) m) fun x10 m=>
  bp (pur (lenK 1 x10 m) m) fun x11 m=>
  Qzd G (.int .i64 0) x11 x10 p8 p7 m
def Qzf (G:Gt)(p6 p7:V)(m:M):R:=
  Qze G p6 (.slice none 0 0) p7 m
def Qzg (G:Gt)(p0 p3:V)(m:M):R:=
  bp (pur (aLoad true 2 p3 m) m) fun x12 m=>
  bp (G.tab Qup [p0,x12] m) fun x13 m=>
  bp (pur (aExtract x13 0) m) fun x14 m=>
  bp (pur (aExtract x13 1) m) fun x15 m=>
  bp (some (aNew Qnb Qei m)) fun x16 m=>
  bp (unt (aStore 9 x16 x14 m)) fun _ m=>
  Qzf G x16 x15 m
def Qom (G:Gt)(p1 p0:V)(m:M):R:=
  bp (some (aNew Q7 (Value.cells p1).toList m)) fun x17 m=>
  Qzg G p0 x17 m
theorem Q1l5 (G:Gt)(a0 a1:V)(m:M):ef G Tryz.f40 [a0,a1] m = Qom G a1 a0 m:=
  evFn_of (r:=fun r m=>Qom G (r 1) (r 0) m) rfl rfl (tr (seqQ (f:=fun r m=>Qzg G (r 0) (r 3) m) (tr (seqQ (f:=fun r m=>Qzf G (r 6) (r 7) m) (tr (seqQ (f:=fun r m=>Qze G (r 6) (r 8) (r 7) m) (tr (tr (seqQ (f:=fun r m=>Qzc G (r 8) (r 7) m) (fun r m=>by kernel_rfl)) (seqQ (f:=fun r m=>Qzd G (r 20) (r 19) (r 18) (r 8) (r 7) m) (tr (blockQ (loopQ (fun i r m=>Qlx G i (r 20) (r 19) (r 18) (r 8) (r 7) m) (fun _ _=>rfl) (fun i0=>fun r m=>by kernel_rfl))) (fun r m=>by kernel_rfl)))) (fun r m=>by kernel_rfl))) (fun r m=>by kernel_rfl))) (fun r m=>by kernel_rfl))) (fun r m=>by kernel_rfl)) m
def Q1kf:En:=⟨Q12m,Tryz.f40,Tryz.func40,by kernel_rfl,arg2 (fun G a0 a1 m=>Qom G a1 a0 m),okarg2 Q1l5⟩
def Qqg (G:Gt)(p1 p0 p2 p3:V)(m:M):R:=
  bp (some (aNew Q7 (Value.cells p1).toList m)) fun x0 m=>
  bp (pur (aLoad true 2 x0 m) m) fun x1 m=>
  bp (G.tab Qxj [p0,x1,p2,p3,(.func (.func Qg1) #[] #[])] m) fun x2 m=>
  bp (pur (aExtract x2 0) m) fun x3 m=>
  bp (pur (aExtract x2 1) m) fun x4 m=>
  some (.tuple ⟨[x3,x4]⟩,m)
theorem Q1mp (G:Gt)(a0 a1 a2 a3:V)(m:M):ef G Tryz.f41 [a0,a1,a2,a3] m = Qqg G a1 a0 a2 a3 m:=
  evFn_of (r:=fun r m=>Qqg G (r 1) (r 0) (r 2) (r 3) m) rfl rfl (fun r m=>by kernel_rfl) m
def Q1lo:En:=⟨Q16h,Tryz.f41,Tryz.func41,by kernel_rfl,arg4 (fun G a0 a1 a2 a3 m=>Qqg G a1 a0 a2 a3 m),okarg4 Q1mp⟩
def Q19w (G:Gt)(p0 p1 p2:V)(m:M):R:=
  bp (pur (binP m .eql true true .ptr p0 (.pointer none)) m) fun x0 m=>
  brb x0
  (some (.tuple ⟨[(.int .i64 0),(.int .i64 2)]⟩,m))
  (bp (pur (aNilCheck p0) m) fun x1 m=>
  bp (pur (aFieldAddr 0 x1) m) fun x2 m=>
  bp (pur (aLoad false 1 x2 m) m) fun x3 m=>
  bp (G.tab Qsd [p0,p1,p2,(.func (.func Q1ji) ⟨[x3]⟩ ⟨[]⟩)] m) fun x4 m=>
  bp (pur (aExtract x4 0) m) fun x5 m=>
  bp (pur (aExtract x4 1) m) fun x6 m=>
  some (.tuple ⟨[x5,x6]⟩,m))
theorem Q1ye (G:Gt)(a0 a1 a2:V)(m:M):ef G Tryz.f42 [a0,a1,a2] m = Q19w G a0 a1 a2 m:=
  evFn_of (r:=fun r m=>Q19w G (r 0) (r 1) (r 2) m) rfl rfl (fun r m=>by kernel_rfl) m
def Q1xf:En:=⟨Qnh,Tryz.f42,Tryz.func42,by kernel_rfl,arg3 Q19w,okarg3 Q1ye⟩
def Q1g3 (G:Gt)(p16:V)(m:M):R:=
  bp (G.tab Q92 [p16,(.func (.func Q22b) #[] #[])] m) fun x0 m=>
  bp (G.tab Q9l [p16] m) fun x1 m=>
  some (.tuple ⟨[x1,(.int .i64 0)]⟩,m)
def Q124 (G:Gt):Nat → V → V → V → V → V → V → V → V → M → R
 | 0,_,_,_,_,_,_,_,_,_=>none
 | i + 1,p132,p131,p130,p16,p0,p4,p8,p5,m=>
  bp (pur (bin .lss false true .int p132 p131) m) fun x2 m=>
  brb x2
  (bp (pur (aIndexAddrSl 2 p130 p132) m) fun x3 m=>
  bp (pur (aLoad true 2 x3 m) m) fun x4 m=>
  bp (some (aNew Qeh Qk0 m)) fun x5 m=>
  bp (unt (aStore 2 x5 x4 m)) fun _ m=>
  bp (pur (aLoad true 2 p4 m) m) fun x6 m=>
  bp (pur (aLoad true 11 p8 m) m) fun x7 m=>
  bp (pur (aLoad true 2 x5 m) m) fun x8 m=>
  bp (pur (aLoad true 5 p5 m) m) fun x9 m=>
  bp (G.tab Q1k5 [p0,x6,x7,x8,x9] m) fun x10 m=>
  bp (aBuildSlice Qpl Q4x 8 1 [(0,x10)] m) fun x11 m=>
  bp (apS Qpl 8 40 p16 x11 m) fun x12 m=>
  bp (pur (bin .add true true .int p132 (.int .i64 1)) m) fun x13 m=>
  (Q124 G i) x13 p131 p130 x12 p0 p4 p8 p5 m)
  (Q1g3 G p16 m)
def Q1g4 (G:Gt)(p132 p131 p130 p16 p0 p4 p8 p5:V)(m:M):R:=
  Q124 G G.rds p132 p131 p130 p16 p0 p4 p8 p5 m
def Q1g5 (G:Gt)(p14 p16 p0 p4 p8 p5:V)(m:M):R:=
  bp (pur (aFieldAddr 3 p14) m) fun x14 m=>
  bp (pur (aLoad false 1 x14 m) m) fun x15 m=>
  bp (pur (lenK 1 x15 m) m) fun x16 m=>
  Q1g4 G (.int .i64 0) x16 x15 p16 p0 p4 p8 p5 m
def Q1g6 (G:Gt)(p14 p0 p4 p8 p5:V)(m:M):R:=
  Q1g5 G p14 (.slice none 0 0) p0 p4 p8 p5 m
def Q1ii (G:Gt)(p15 p11 p14 p0 p4 p8 p5:V)(m:M):R:=
  bp (pur (un .not p15) m) fun x17 m=>
  brb x17
  (bp (evCall G.tab p11 [(.int .u8 4)] m) fun x18 m=>
  bp (pur (aExtract x18 0) m) fun x19 m=>
  bp (pur (aExtract x18 1) m) fun x20 m=>
  some (.tuple ⟨[x19,x20]⟩,m))
  (bp (pur (aFieldAddr 2 p14) m) fun x21 m=>
  bp (pur (aLoad false 1 x21 m) m) fun x22 m=>
  brb x22
  (bp (evCall G.tab p11 [(.int .u8 5)] m) fun x23 m=>
  bp (pur (aExtract x23 0) m) fun x24 m=>
  bp (pur (aExtract x23 1) m) fun x25 m=>
  some (.tuple ⟨[x24,x25]⟩,m))
  (Q1g6 G p14 p0 p4 p8 p5 m))
def Q1ij (G:Gt)(p0 p4 p8 p5 p11:V)(m:M):R:=
  bp (pur (aFieldAddr 0 p4) m) fun x26 m=>
  bp (pur (aLoad false 1 x26 m) m) fun x27 m=>
  bp (pur (aFieldAddr 1 p8) m) fun x28 m=>
  bp (pur (aLoad false 1 x28 m) m) fun x29 m=>
  bp (pur (aBuild Q1gk [(0,1),(1,1)] [(0,x27),(1,x29)]) m) fun x30 m=>
  bp (pur (aFieldAddr 1 p5) m) fun x31 m=>
  bp (pur (aLoad false 1 x31 m) m) fun x32 m=>
  bp (G.tab Q1b0 [p0,x30,x32] m) fun x33 m=>
  bp (pur (aExtract x33 0) m) fun x34 m=>
  bp (pur (aExtract x33 1) m) fun x35 m=>
  bp (some (aNew Q3f Qaf m)) fun x36 m=>
  bp (unt (aStore 4 x36 x34 m)) fun _ m=>
  Q1ii G x35 p11 x36 p0 p4 p8 p5 m
def Qpb (G:Gt)(p98 p11 p0 p4 p8 p5:V)(m:M):R:=
  brb p98
  (bp (evCall G.tab p11 [(.int .u8 1)] m) fun x37 m=>
  bp (pur (aExtract x37 0) m) fun x38 m=>
  bp (pur (aExtract x37 1) m) fun x39 m=>
  some (.tuple ⟨[x38,x39]⟩,m))
  (Q1ij G p0 p4 p8 p5 p11 m)
def Q1g7 (G:Gt)(p13 p12 p4 p10 p8 p11 p0 p5:V)(m:M):R:=
  bp (pur (bin .eql true true .int p13 (.int .i64 0)) m) fun x40 m=>
  brt x40
  (bp (pur (aFieldAddr 0 p12) m) fun x41 m=>
  bp (pur (aLoad false 1 x41 m) m) fun x42 m=>
  bp (pur (aFieldAddr 0 p4) m) fun x43 m=>
  bp (pur (aLoad false 1 x43 m) m) fun x44 m=>
  bp (pur (bin .eql false true .int x42 x44) m) fun x45 m=>
  brt x45
  (bp (pur (aFieldAddr 3 p10) m) fun x46 m=>
  bp (pur (aLoad false 1 x46 m) m) fun x47 m=>
  bp (pur (aFieldAddr 1 p12) m) fun x48 m=>
  bp (pur (aLoad false 1 x48 m) m) fun x49 m=>
  bp (pur (aIndexAddrSl 11 x47 x49) m) fun x50 m=>
  bp (pur (aFieldAddr 1 x50) m) fun x51 m=>
  bp (pur (aLoad false 1 x51 m) m) fun x52 m=>
  bp (pur (aFieldAddr 1 p8) m) fun x53 m=>
  bp (pur (aLoad false 1 x53 m) m) fun x54 m=>
  bp (pur (bin .eql false true .str x52 x54) m) fun x55 m=>
  Qpb G x55 p11 p0 p4 p8 p5 m)
  (Qpb G (.bool false) p11 p0 p4 p8 p5 m)
  (none))
  (Qpb G (.bool false) p11 p0 p4 p8 p5 m)
  (none)
def Q15s (G:Gt)(p0 p5 p4 p10 p8 p11:V)(m:M):R:=
  bp (pur (aNilCheck p0) m) fun x56 m=>
  bp (pur (aFieldAddr 0 x56) m) fun x57 m=>
  bp (pur (aLoad false 1 x57 m) m) fun x58 m=>
  bp (pur (aFieldAddr 1 p5) m) fun x59 m=>
  bp (pur (aLoad false 1 x59 m) m) fun x60 m=>
  bp (some (aNew Q7 Qo m)) fun x61 m=>
  bp (G.tab Q1db [x58,x60] m) fun x62 m=>
  bp (pur (aExtract x62 0) m) fun x63 m=>
  bp (pur (aExtract x62 1) m) fun x64 m=>
  bp (unt (aStore 2 x61 x63 m)) fun _ m=>
  Q1g7 G x64 x61 p4 p10 p8 p11 p0 p5 m
def Q1ik (G:Gt)(p8 p10 p5 p0 p4 p11:V)(m:M):R:=
  bp (pur (aFieldAddr 7 p8) m) fun x65 m=>
  bp (pur (aLoad false 1 x65 m) m) fun x66 m=>
  bp (pur (bin .eql true true .int x66 (.int .u8 2)) m) fun x67 m=>
  brb x67
  (bp (pur (aFieldAddr 5 p10) m) fun x68 m=>
  bp (pur (aLoad false 1 x68 m) m) fun x69 m=>
  bp (pur (aFieldAddr 4 p10) m) fun x70 m=>
  bp (pur (aLoad false 1 x70 m) m) fun x71 m=>
  bp (pur (aLoad true 5 p5 m) m) fun x72 m=>
  bp (G.tab Q1k4 [x69,x71,(.bool true),x72] m) fun x73 m=>
  bp (pur (aExtract x73 0) m) fun x74 m=>
  bp (pur (aExtract x73 1) m) fun x75 m=>
  bp (unt (aStore 5 p5 x74 m)) fun _ m=>
  Q15s G p0 p5 p4 p10 p8 p11 m)
  (Q15s G p0 p5 p4 p10 p8 p11 m)
def Q1il (G:Gt)(p10 p8 p5 p11 p0 p4:V)(m:M):R:=
  bp (pur (aLoad true 12 p10 m) m) fun x76 m=>
  bp (pur (aFieldAddr 5 p8) m) fun x77 m=>
  bp (pur (aLoad false 1 x77 m) m) fun x78 m=>
  bp (pur (aLoad true 5 p5 m) m) fun x79 m=>
  bp (G.tab Q1c1 [x76,x78,x79] m) fun x80 m=>
  bp (pur (un .not x80) m) fun x81 m=>
  brb x81
  (bp (evCall G.tab p11 [(.int .u8 2)] m) fun x82 m=>
  bp (pur (aExtract x82 0) m) fun x83 m=>
  bp (pur (aExtract x82 1) m) fun x84 m=>
  some (.tuple ⟨[x83,x84]⟩,m))
  (Q1ik G p8 p10 p5 p0 p4 p11 m)
def Q1im (G:Gt)(p4 p5 p10 p8 p0:V)(m:M):R:=
  Q1il G p10 p8 p5 (.func (.func Q1hm) ⟨[]⟩ ⟨[p4,p5]⟩) p0 p4 m
def Q1in (G:Gt)(p0 p4 p5 p8:V)(m:M):R:=
  bp (pur (aNilCheck p0) m) fun x85 m=>
  bp (pur (aFieldAddr 1 x85) m) fun x86 m=>
  bp (pur (aLoad false 1 x86 m) m) fun x87 m=>
  bp (pur (aFieldAddr 0 p4) m) fun x88 m=>
  bp (pur (aLoad false 1 x88 m) m) fun x89 m=>
  bp (pur (aIndexAddrSl 12 x87 x89) m) fun x90 m=>
  bp (pur (aLoad true 12 x90 m) m) fun x91 m=>
  bp (some (aNew Qx Q1e m)) fun x92 m=>
  bp (unt (aStore 12 x92 x91 m)) fun _ m=>
  Q1im G p4 p5 x92 p8 p0 m
def Q1io (G:Gt)(p9 p8 p0 p4 p5:V)(m:M):R:=
  bp (pur (bin .neq true true .int p9 (.int .i64 0)) m) fun x93 m=>
  brb x93
  (some (.tuple ⟨[(.slice none 0 0),(.int .i64 1)]⟩,m))
  (bp (pur (aLoad true 11 p8 m) m) fun x94 m=>
  bp (G.tab Ql6 [x94] m) fun x95 m=>
  bp (pur (un .not x95) m) fun x96 m=>
  brb x96
  (some (.tuple ⟨[(.slice none 0 0),(.int .i64 5)]⟩,m))
  (Q1in G p0 p4 p5 p8 m))
def Q1ip (G:Gt)(p0 p4 p5:V)(m:M):R:=
  bp (pur (aNilCheck p0) m) fun x97 m=>
  bp (pur (aFieldAddr 0 x97) m) fun x98 m=>
  bp (pur (aLoad false 1 x98 m) m) fun x99 m=>
  bp (pur (aLoad true 2 p4 m) m) fun x100 m=>
  bp (some (aNew Q1d Q47 m)) fun x101 m=>
  bp (G.tab Q1da [x99,x100] m) fun x102 m=>
  bp (pur (aExtract x102 0) m) fun x103 m=>
  bp (pur (aExtract x102 1) m) fun x104 m=>
  bp (unt (aStore 11 x101 x103 m)) fun _ m=>
  Q1io G x104 x101 p0 p4 p5 m
def Q1iq (G:Gt)(p0 p4 p5:V)(m:M):R:=
  bp (pur (binP m .eql true true .ptr p0 (.pointer none)) m) fun x105 m=>
  brb x105
  (some (.tuple ⟨[(.slice none 0 0),(.int .i64 2)]⟩,m))
  (Q1ip G p0 p4 p5 m)
def Q1cn (G:Gt)(p1 p2 p0:V)(m:M):R:=
  bp (some (aNew Q7 (Value.cells p1).toList m)) fun x106 m=>
  bp (some (aNew Q18d (Value.cells p2).toList m)) fun x107 m=>
  Q1iq G p0 x106 x107 m
theorem Q1zm (G:Gt)(a0 a1 a2:V)(m:M):ef G Tryz.f43 [a0,a1,a2] m = Q1cn G a1 a2 a0 m:=
  evFn_of (r:=fun r m=>Q1cn G (r 1) (r 2) (r 0) m) rfl rfl (tr (seqQ (f:=fun r m=>Q1iq G (r 0) (r 4) (r 5) m) (tr (seqQ (f:=fun r m=>Q1ip G (r 0) (r 4) (r 5) m) (tr (seqQ (f:=fun r m=>Q1io G (r 9) (r 8) (r 0) (r 4) (r 5) m) (tr (seqQ (f:=fun r m=>Q1in G (r 0) (r 4) (r 5) (r 8) m) (tr (seqQ (f:=fun r m=>Q1im G (r 4) (r 5) (r 10) (r 8) (r 0) m) (tr (seqQ (f:=fun r m=>Q1il G (r 10) (r 8) (r 5) (r 11) (r 0) (r 4) m) (tr (seqQ (f:=fun r m=>Q1ik G (r 8) (r 10) (r 5) (r 0) (r 4) (r 11) m) (tr (seqQ (f:=fun r m=>Q15s G (r 0) (r 5) (r 4) (r 10) (r 8) (r 11) m) (tr (tr (seqQ (f:=fun r m=>Q1ij G (r 0) (r 4) (r 8) (r 5) (r 11) m) (tr (seqQ (f:=fun r m=>Q1ii G (r 15) (r 11) (r 14) (r 0) (r 4) (r 8) (r 5) m) (tr (seqQ (f:=fun r m=>Q1g6 G (r 14) (r 0) (r 4) (r 8) (r 5) m) (tr (seqQ (f:=fun r m=>Q1g5 G (r 14) (r 16) (r 0) (r 4) (r 8) (r 5) m) (tr (tr (seqQ (f:=fun r m=>Q1g3 G (r 16) m) (fun r m=>by kernel_rfl)) (seqQ (f:=fun r m=>Q1g4 G (r 132) (r 131) (r 130) (r 16) (r 0) (r 4) (r 8) (r 5) m) (tr (blockQ (loopQ (fun i r m=>Q124 G i (r 132) (r 131) (r 130) (r 16) (r 0) (r 4) (r 8) (r 5) m) (fun _ _=>rfl) (fun i0=>fun r m=>by kernel_rfl))) (fun r m=>by kernel_rfl)))) (fun r m=>by kernel_rfl))) (fun r m=>by kernel_rfl))) (fun r m=>by kernel_rfl))) (fun r m=>by kernel_rfl))) (seqQ (f:=fun r m=>Q1g7 G (r 13) (r 12) (r 4) (r 10) (r 8) (r 11) (r 0) (r 5) m) (tr (seqQ (f:=fun r m=>Qpb G (r 98) (r 11) (r 0) (r 4) (r 8) (r 5) m) (fun r m=>by kernel_rfl)) (fun r m=>by kernel_rfl)))) (fun r m=>by kernel_rfl))) (fun r m=>by kernel_rfl))) (fun r m=>by kernel_rfl))) (fun r m=>by kernel_rfl))) (fun r m=>by kernel_rfl))) (fun r m=>by kernel_rfl))) (fun r m=>by kernel_rfl))) (fun r m=>by kernel_rfl))) (fun r m=>by kernel_rfl)) m
def Q1z0:En:=⟨Q1lw,Tryz.f43,Tryz.func43,by kernel_rfl,arg3 (fun G a0 a1 a2 m=>Q1cn G a1 a2 a0 m),okarg3 Q1zm⟩
def Q3n (G:Gt)(p0 p1:V)(m:M):R:=
  bp (G.tab Q4l [p0,p1] m) fun x0 m=>
  bp (pur (bin .geq true true .int x0 (.int .i64 0)) m) fun x1 m=>
  some (x1,m)
theorem Qn2 (G:Gt)(a0 a1:V)(m:M):ef G Tryz.f44 [a0,a1] m = Q3n G a0 a1 m:=
  evFn_of (r:=fun r m=>Q3n G (r 0) (r 1) m) rfl rfl (fun r m=>by kernel_rfl) m
def Qmj:En:=⟨Q91,Tryz.f44,Tryz.func44,by kernel_rfl,arg2 Q3n,okarg2 Qn2⟩
def Qn3 (G:Gt)(p0 p1:V)(m:M):R:=
  bp (some (aNew Q1k (Value.cells p0).toList m)) fun x0 m=>
  bp (pur (aLoad false 1 p1 m) m) fun x1 m=>
  bp (pur (aLoad true 7 x0 m) m) fun x2 m=>
  bp (pur (aLookup (.struct [(0,2,true,(.struct [(0,1,false,.int),(1,1,false,.int)])),(2,5,true,(.struct [(0,1,false,.int),(1,1,false,.int),(2,1,false,.int),(3,1,false,.int),(4,1,false,.int)]))]) (.bool false) false x1 x2 m) m) fun x3 m=>
  some (x3,m)
theorem Q1jg (G:Gt)(a0 a1:V)(m:M):ef G Tryz.f45 [a0,a1] m = Qn3 G a0 a1 m:=
  evFn_of (r:=fun r m=>Qn3 G (r 0) (r 1) m) rfl rfl (fun r m=>by kernel_rfl) m
def Q1iz:En:=⟨Qzx,Tryz.f45,Tryz.func45,by kernel_rfl,arg2 Qn3,okarg2 Q1jg⟩
def Q142 (G:Gt)(p7 p3:V)(m:M):R:=
  bp (pur (aBuild Q87 [(0,1),(1,1)] []) m) fun x0 m=>
  bp (unt (aStore 2 p3 x0 m)) fun _ m=>
  ob (ob (ob (aLoad true 2 p3 m) fun v=>ob (some [(.int .i64 0)]) fun l=>some (v :: l)) fun l=>some (p7 :: l)) fun l=>some (resVal l,m)
def Qn4 (G:Gt)(k0:V → V → V → V → V → V → M → R)(p10 p0 p8 p9 p7 p3:V)(m:M):R:=
  bp (pur (bin .add true true .int p10 (.int .i64 1)) m) fun x1 m=>
  k0 x1 p0 p8 p9 p7 p3 m
def Qn5 (G:Gt)(k0:V → V → V → V → V → V → M → R)(p10 p9 p0 p7 p3:V)(m:M):R:=
  bp (pur (bin .add true true .int p10 (.int .i64 1)) m) fun x2 m=>
  bp (pur (bin .add true true .int p9 (.int .i64 1)) m) fun x3 m=>
  Qn4 G k0 p10 p0 x2 x3 p7 p3 m
def Qn6 (G:Gt)(k0:V → V → V → V → V → V → M → R)(p55 p7 p11 p10 p9 p0 p3:V)(m:M):R:=
  brb p55
  (bp (pur (aLoad true 2 p11 m) m) fun x4 m=>
  bp (aBuildSlice Qf0 Qm2 2 1 [(0,x4)] m) fun x5 m=>
  bp (apS Qf0 2 32 p7 x5 m) fun x6 m=>
  Qn5 G k0 p10 p9 p0 x6 p3 m)
  (Qn5 G k0 p10 p9 p0 p7 p3 m)
def Q10x (G:Gt)(k0:V → V → V → V → V → V → M → R)(p11 p7 p10 p9 p0 p3:V)(m:M):R:=
  bp (pur (aFieldAddr 1 p11) m) fun x7 m=>
  bp (pur (aLoad false 1 x7 m) m) fun x8 m=>
  bp (pur (lenK 1 x8 m) m) fun x9 m=>
  bp (pur (bin .gtr true true .int x9 (.int .i64 0)) m) fun x10 m=>
  brb x10
  (bp (pur (aFieldAddr 1 p11) m) fun x11 m=>
  bp (pur (aLoad false 1 x11 m) m) fun x12 m=>
  bp (pur (aIndexAddrSl 3 x12 (.int .i64 0)) m) fun x13 m=>
  bp (pur (aFieldAddr 0 x13) m) fun x14 m=>
  bp (pur (aLoad false 1 x14 m) m) fun x15 m=>
  bp (pur (aIndexStr x15 (.int .i64 0)) m) fun x16 m=>
  bp (pur (bin .neq true true .int x16 (.int .u8 33)) m) fun x17 m=>
  Qn6 G k0 x17 p7 p11 p10 p9 p0 p3 m)
  (Qn6 G k0 (.bool false) p7 p11 p10 p9 p0 p3 m)
def Q10y (G:Gt)(k0:V → V → V → V → V → V → M → R)(p0 p8 p10 p9 p7 p3:V)(m:M):R:=
  bp (pur (aSliceStr p0 (some p8) (some p10)) m) fun x18 m=>
  bp (G.tab Q18w [x18,p9] m) fun x19 m=>
  bp (some (aNew Qf0 Qm2 m)) fun x20 m=>
  bp (unt (aStore 2 x20 x19 m)) fun _ m=>
  Q10x G k0 x20 p7 p10 p9 p0 p3 m
def Qn7 (G:Gt)(k0:V → V → V → V → V → V → M → R)(p36 p10 p0 p8 p9 p7 p3:V)(m:M):R:=
  brb p36
  (Qn4 G k0 p10 p0 p8 p9 p7 p3 m)
  (Q10y G k0 p0 p8 p10 p9 p7 p3 m)
def Q143 (G:Gt)(k0:V → V → V → V → V → V → M → R)(p10 p0 p8 p9 p7 p3:V)(m:M):R:=
  bp (pur (lenK 0 p0 m) m) fun x21 m=>
  bp (pur (bin .lss false true .int p10 x21) m) fun x22 m=>
  brb x22
  (bp (pur (aIndexStr p0 p10) m) fun x23 m=>
  bp (pur (bin .neq true true .int x23 (.int .u8 10)) m) fun x24 m=>
  Qn7 G k0 x24 p10 p0 p8 p9 p7 p3 m)
  (Qn7 G k0 (.bool false) p10 p0 p8 p9 p7 p3 m)
def Q26 (G:Gt):Nat → V → V → V → V → V → V → M → R
 | 0,_,_,_,_,_,_,_=>none
 | i + 1,p10,p0,p8,p9,p7,p3,m=>
  bp (pur (lenK 0 p0 m) m) fun x25 m=>
  bp (pur (bin .leq false true .int p10 x25) m) fun x26 m=>
  brb x26
  (Q143 G (Q26 G i) p10 p0 p8 p9 p7 p3 m)
  (Q142 G p7 p3 m)
def Q144 (G:Gt)(p10 p0 p8 p9 p7 p3:V)(m:M):R:=
  Q26 G G.rds p10 p0 p8 p9 p7 p3 m
def Q145 (G:Gt)(p0 p8 p9 p7 p3:V)(m:M):R:=
  Q144 G (.int .i64 0) p0 p8 p9 p7 p3 m
def Q146 (G:Gt)(p0 p8 p7 p3:V)(m:M):R:=
  Q145 G p0 p8 (.int .i64 1) p7 p3 m
def Q147 (G:Gt)(p0 p7 p3:V)(m:M):R:=
  Q146 G p0 (.int .i64 0) p7 p3 m
def Q148 (G:Gt)(p0 p3:V)(m:M):R:=
  Q147 G p0 (.slice none 0 0) p3 m
def Q149 (G:Gt)(p6 p5 p3 p0:V)(m:M):R:=
  bp (pur (bin .neq true true .int p6 (.int .i64 0)) m) fun x27 m=>
  brb x27
  (bp (pur (aLoad true 2 p5 m) m) fun x28 m=>
  bp (unt (aStore 2 p3 x28 m)) fun _ m=>
  ob (ob (ob (aLoad true 2 p3 m) fun v=>ob (some [p6]) fun l=>some (v :: l)) fun l=>some ((.slice none 0 0) :: l)) fun l=>some (resVal l,m))
  (Q148 G p0 p3 m)
def Q14a (G:Gt)(p0 p3:V)(m:M):R:=
  bp (G.tab Q18v [p0] m) fun x29 m=>
  bp (pur (aExtract x29 0) m) fun x30 m=>
  bp (pur (aExtract x29 1) m) fun x31 m=>
  bp (some (aNew Qrn Q87 m)) fun x32 m=>
  bp (unt (aStore 2 x32 x30 m)) fun _ m=>
  Q149 G x31 x32 p3 p0 m
def Qt4 (G:Gt)(p0:V)(m:M):R:=
  bp (some (aNew Qrn Q87 m)) fun x33 m=>
  Q14a G p0 x33 m
theorem Q1oa (G:Gt)(a0:V)(m:M):ef G Tryz.f46 [a0] m = Qt4 G a0 m:=
  evFn_of (r:=fun r m=>Qt4 G (r 0) m) rfl rfl (tr (seqQ (f:=fun r m=>Q14a G (r 0) (r 3) m) (tr (seqQ (f:=fun r m=>Q149 G (r 6) (r 5) (r 3) (r 0) m) (tr (seqQ (f:=fun r m=>Q148 G (r 0) (r 3) m) (tr (seqQ (f:=fun r m=>Q147 G (r 0) (r 7) (r 3) m) (tr (seqQ (f:=fun r m=>Q146 G (r 0) (r 8) (r 7) (r 3) m) (tr (seqQ (f:=fun r m=>Q145 G (r 0) (r 8) (r 9) (r 7) (r 3) m) (tr (tr (seqQ (f:=fun r m=>Q142 G (r 7) (r 3) m) (fun r m=>by kernel_rfl)) (seqQ (f:=fun r m=>Q144 G (r 10) (r 0) (r 8) (r 9) (r 7) (r 3) m) (tr (blockQ (loopQ (fun i r m=>Q26 G i (r 10) (r 0) (r 8) (r 9) (r 7) (r 3) m) (fun _ _=>rfl) (fun i0=>tr (seqQ (f:=fun r m=>Q143 G (Q26 G i0) (r 10) (r 0) (r 8) (r 9) (r 7) (r 3) m) (tr (tr (seqQ (f:=fun r m=>Qn4 G (Q26 G i0) (r 10) (r 0) (r 8) (r 9) (r 7) (r 3) m) (fun r m=>by kernel_rfl)) (blockQ (tr (seqQ (f:=fun r m=>Q10y G (Q26 G i0) (r 0) (r 8) (r 10) (r 9) (r 7) (r 3) m) (tr (seqQ (f:=fun r m=>Q10x G (Q26 G i0) (r 11) (r 7) (r 10) (r 9) (r 0) (r 3) m) (tr (tr (seqQ (f:=fun r m=>Qn5 G (Q26 G i0) (r 10) (r 9) (r 0) (r 7) (r 3) m) (fun r m=>by kernel_rfl)) (seqQ (f:=fun r m=>Qn6 G (Q26 G i0) (r 55) (r 7) (r 11) (r 10) (r 9) (r 0) (r 3) m) (fun r m=>by kernel_rfl))) (fun r m=>by kernel_rfl))) (fun r m=>by kernel_rfl))) (seqQ (f:=fun r m=>Qn7 G (Q26 G i0) (r 36) (r 10) (r 0) (r 8) (r 9) (r 7) (r 3) m) (fun r m=>by kernel_rfl))))) (fun r m=>by kernel_rfl))) (fun r m=>by kernel_rfl)))) (fun r m=>by kernel_rfl)))) (fun r m=>by kernel_rfl))) (fun r m=>by kernel_rfl))) (fun r m=>by kernel_rfl))) (fun r m=>by kernel_rfl))) (fun r m=>by kernel_rfl))) (fun r m=>by kernel_rfl))) (fun r m=>by kernel_rfl)) m
def Q1nf:En:=⟨Q190,Tryz.f46,Tryz.func46,by kernel_rfl,arg1 Qt4,okarg1 Q1oa⟩
end
end Go.Ab.Sh
