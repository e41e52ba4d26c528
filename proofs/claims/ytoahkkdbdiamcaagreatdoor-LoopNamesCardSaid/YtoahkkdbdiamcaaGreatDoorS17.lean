/-
  Functions of the program as plain definitions. No conditions.
-/
import Derived.Test.YtoahkkdbdiamcaaGreatDoorAb5
import Derived.Test.YtoahkkdbdiamcaaGreatDoorZ
import Derived.KernelRfl
import Derived.Test.YtoahkkdbdiamcaaGreatDoorProg
set_option linter.unusedVariables false
set_option maxRecDepth 100000
namespace Go.Ab.Sh
open Go Go.Ab Go.Proofs
noncomputable section
def Q6v (G:Gt)(k0:V → V → V → V → V → M → R)(p8 p2 p1 p3 p0:V)(m:M):R:=
  bp (pur (bin .add true true .int p8 (.int .i64 1)) m) fun x0 m=>
  k0 x0 p2 p1 p3 p0 m
def Q2u (G:Gt)(k1:V → V → V → V → V → V → M → R)(k0:V → V → V → V → V → M → R)(p34 p0 p9 p1 p3 p8 p2:V)(m:M):R:=
  brb p34
  (bp (pur (bin .sub true true .int p9 (.int .i64 1)) m) fun x1 m=>
  bp (pur (bin .sub true true .int p9 (.int .i64 1)) m) fun x2 m=>
  bp (pur (aIndexAddrSl 2 p0 x2) m) fun x3 m=>
  bp (pur (aLoad true 2 x3 m) m) fun x4 m=>
  bp (pur (aIndexAddrSl 2 p0 p9) m) fun x5 m=>
  bp (pur (aLoad true 2 x5 m) m) fun x6 m=>
  bp (pur (aIndexAddrSl 2 p0 p9) m) fun x7 m=>
  bp (unt (aStore 2 x7 x4 m)) fun _ m=>
  bp (pur (aIndexAddrSl 2 p0 x1) m) fun x8 m=>
  bp (unt (aStore 2 x8 x6 m)) fun _ m=>
  bp (pur (bin .sub true true .int p9 (.int .i64 1)) m) fun x9 m=>
  k1 x9 p1 p3 p0 p8 p2 m)
  (Q6v G k0 p8 p2 p1 p3 p0 m)
def Q1c (G:Gt)(k0:V → V → V → V → V → M → R):Nat → V → V → V → V → V → V → M → R
 | 0,_,_,_,_,_,_,_=>none
 | i + 1,p9,p1,p3,p0,p8,p2,m=>
  bp (pur (bin .gtr false true .int p9 p1) m) fun x10 m=>
  brt x10
  (bp (pur (aIndexAddrSl 2 p0 p9) m) fun x11 m=>
  bp (pur (aLoad true 2 x11 m) m) fun x12 m=>
  bp (pur (bin .sub true true .int p9 (.int .i64 1)) m) fun x13 m=>
  bp (pur (aIndexAddrSl 2 p0 x13) m) fun x14 m=>
  bp (pur (aLoad true 2 x14 m) m) fun x15 m=>
  bp (evCall G.tab p3 [x12,x15] m) fun x16 m=>
  bp (pur (bin .lss true true .int x16 (.int .i64 0)) m) fun x17 m=>
  Q2u G (Q1c G k0 i) k0 x17 p0 p9 p1 p3 p8 p2 m)
  (Q2u G (Q1c G k0 i) k0 (.bool false) p0 p9 p1 p3 p8 p2 m)
  (none)
def Q6w (G:Gt)(k0:V → V → V → V → V → M → R)(p9 p1 p3 p0 p8 p2:V)(m:M):R:=
  Q1c G k0 G.rds p9 p1 p3 p0 p8 p2 m
def Q6x (G:Gt)(k0:V → V → V → V → V → M → R)(p8 p1 p3 p0 p2:V)(m:M):R:=
  Q6w G k0 p8 p1 p3 p0 p8 p2 m
def Q3 (G:Gt):Nat → V → V → V → V → V → M → R
 | 0,_,_,_,_,_,_=>none
 | i + 1,p8,p2,p1,p3,p0,m=>
  bp (pur (bin .lss false true .int p8 p2) m) fun x18 m=>
  brb x18
  (Q6x G (Q3 G i) p8 p1 p3 p0 p2 m)
  (some (.tuple ⟨[]⟩,m))
def Q6y (G:Gt)(p8 p2 p1 p3 p0:V)(m:M):R:=
  Q3 G G.rds p8 p2 p1 p3 p0 m
def Q39 (G:Gt)(p1 p2 p3 p0:V)(m:M):R:=
  bp (pur (bin .add true true .int p1 (.int .i64 1)) m) fun x19 m=>
  Q6y G x19 p2 p1 p3 p0 m
theorem Qly (G:Gt)(a0 a1 a2 a3:V)(m:M):ef G Tryz.f475 [a0,a1,a2,a3] m = Q39 G a1 a2 a3 a0 m:=
  evFn_of (r:=fun r m=>Q39 G (r 1) (r 2) (r 3) (r 0) m) rfl rfl (tr (seqQ (f:=fun r m=>Q6y G (r 8) (r 2) (r 1) (r 3) (r 0) m) (tr (blockQ (loopQ (fun i r m=>Q3 G i (r 8) (r 2) (r 1) (r 3) (r 0) m) (fun _ _=>rfl) (fun i0=>tr (seqQ (f:=fun r m=>Q6x G (Q3 G i0) (r 8) (r 1) (r 3) (r 0) (r 2) m) (tr (tr (seqQ (f:=fun r m=>Q6v G (Q3 G i0) (r 8) (r 2) (r 1) (r 3) (r 0) m) (fun r m=>by kernel_rfl)) (blockQ (seqQ (f:=fun r m=>Q6w G (Q3 G i0) (r 9) (r 1) (r 3) (r 0) (r 8) (r 2) m) (tr (blockQ (loopQ (fun i r m=>Q1c G (Q3 G i0) i (r 9) (r 1) (r 3) (r 0) (r 8) (r 2) m) (fun _ _=>rfl) (fun i1=>tr (tr seqD (seqQ (f:=fun r m=>Q2u G (Q1c G (Q3 G i0) i1) (Q3 G i0) (r 34) (r 0) (r 9) (r 1) (r 3) (r 8) (r 2) m) (fun r m=>by kernel_rfl))) (fun r m=>by kernel_rfl)))) (fun r m=>by kernel_rfl))))) (fun r m=>by kernel_rfl))) (fun r m=>by kernel_rfl)))) (fun r m=>by kernel_rfl))) (fun r m=>by kernel_rfl)) m
def Qkq:En:=⟨Q33,Tryz.f475,Tryz.func475,by kernel_rfl,arg4 (fun G a0 a1 a2 a3 m=>Q39 G a1 a2 a3 a0 m),okarg4 Qly⟩
def Qby (G:Gt)(k0:V → V → V → V → V → M → R)(p8 p2 p1 p3 p0:V)(m:M):R:=
  bp (pur (bin .add true true .int p8 (.int .i64 1)) m) fun x0 m=>
  k0 x0 p2 p1 p3 p0 m
def Q4p (G:Gt)(k1:V → V → V → V → V → V → M → R)(k0:V → V → V → V → V → M → R)(p34 p0 p9 p1 p3 p8 p2:V)(m:M):R:=
  brb p34
  (bp (pur (bin .sub true true .int p9 (.int .i64 1)) m) fun x1 m=>
  bp (pur (bin .sub true true .int p9 (.int .i64 1)) m) fun x2 m=>
  bp (pur (aIndexAddrSl 3 p0 x2) m) fun x3 m=>
  bp (pur (aLoad true 3 x3 m) m) fun x4 m=>
  bp (pur (aIndexAddrSl 3 p0 p9) m) fun x5 m=>
  bp (pur (aLoad true 3 x5 m) m) fun x6 m=>
  bp (pur (aIndexAddrSl 3 p0 p9) m) fun x7 m=>
  bp (unt (aStore 3 x7 x4 m)) fun _ m=>
  bp (pur (aIndexAddrSl 3 p0 x1) m) fun x8 m=>
  bp (unt (aStore 3 x8 x6 m)) fun _ m=>
  bp (pur (bin .sub true true .int p9 (.int .i64 1)) m) fun x9 m=>
  k1 x9 p1 p3 p0 p8 p2 m)
  (Qby G k0 p8 p2 p1 p3 p0 m)
def Q1u (G:Gt)(k0:V → V → V → V → V → M → R):Nat → V → V → V → V → V → V → M → R
 | 0,_,_,_,_,_,_,_=>none
 | i + 1,p9,p1,p3,p0,p8,p2,m=>
  bp (pur (bin .gtr false true .int p9 p1) m) fun x10 m=>
  brt x10
  (bp (pur (aIndexAddrSl 3 p0 p9) m) fun x11 m=>
  bp (pur (aLoad true 3 x11 m) m) fun x12 m=>
  bp (pur (bin .sub true true .int p9 (.int .i64 1)) m) fun x13 m=>
  bp (pur (aIndexAddrSl 3 p0 x13) m) fun x14 m=>
  bp (pur (aLoad true 3 x14 m) m) fun x15 m=>
  bp (evCall G.tab p3 [x12,x15] m) fun x16 m=>
  bp (pur (bin .lss true true .int x16 (.int .i64 0)) m) fun x17 m=>
  Q4p G (Q1u G k0 i) k0 x17 p0 p9 p1 p3 p8 p2 m)
  (Q4p G (Q1u G k0 i) k0 (.bool false) p0 p9 p1 p3 p8 p2 m)
  (none)
def Qbz (G:Gt)(k0:V → V → V → V → V → M → R)(p9 p1 p3 p0 p8 p2:V)(m:M):R:=
  Q1u G k0 G.rds p9 p1 p3 p0 p8 p2 m
def Qc0 (G:Gt)(k0:V → V → V → V → V → M → R)(p8 p1 p3 p0 p2:V)(m:M):R:=
  Qbz G k0 p8 p1 p3 p0 p8 p2 m
def Qj (G:Gt):Nat → V → V → V → V → V → M → R
 | 0,_,_,_,_,_,_=>none
 | i + 1,p8,p2,p1,p3,p0,m=>
  bp (pur (bin .lss false true .int p8 p2) m) fun x18 m=>
  brb x18
  (Qc0 G (Qj G i) p8 p1 p3 p0 p2 m)
  (some (.tuple ⟨[]⟩,m))
def Qc1 (G:Gt)(p8 p2 p1 p3 p0:V)(m:M):R:=
  Qj G G.rds p8 p2 p1 p3 p0 m
def Q5n (G:Gt)(p1 p2 p3 p0:V)(m:M):R:=
  bp (pur (bin .add true true .int p1 (.int .i64 1)) m) fun x19 m=>
  Qc1 G x19 p2 p1 p3 p0 m
theorem Qr5 (G:Gt)(a0 a1 a2 a3:V)(m:M):ef G Tryz.f477 [a0,a1,a2,a3] m = Q5n G a1 a2 a3 a0 m:=
  evFn_of (r:=fun r m=>Q5n G (r 1) (r 2) (r 3) (r 0) m) rfl rfl (tr (seqQ (f:=fun r m=>Qc1 G (r 8) (r 2) (r 1) (r 3) (r 0) m) (tr (blockQ (loopQ (fun i r m=>Qj G i (r 8) (r 2) (r 1) (r 3) (r 0) m) (fun _ _=>rfl) (fun i0=>tr (seqQ (f:=fun r m=>Qc0 G (Qj G i0) (r 8) (r 1) (r 3) (r 0) (r 2) m) (tr (tr (seqQ (f:=fun r m=>Qby G (Qj G i0) (r 8) (r 2) (r 1) (r 3) (r 0) m) (fun r m=>by kernel_rfl)) (blockQ (seqQ (f:=fun r m=>Qbz G (Qj G i0) (r 9) (r 1) (r 3) (r 0) (r 8) (r 2) m) (tr (blockQ (loopQ (fun i r m=>Q1u G (Qj G i0) i (r 9) (r 1) (r 3) (r 0) (r 8) (r 2) m) (fun _ _=>rfl) (fun i1=>tr (tr seqD (seqQ (f:=fun r m=>Q4p G (Q1u G (Qj G i0) i1) (Qj G i0) (r 34) (r 0) (r 9) (r 1) (r 3) (r 8) (r 2) m) (fun r m=>by kernel_rfl))) (fun r m=>by kernel_rfl)))) (fun r m=>by kernel_rfl))))) (fun r m=>by kernel_rfl))) (fun r m=>by kernel_rfl)))) (fun r m=>by kernel_rfl))) (fun r m=>by kernel_rfl)) m
def Qqm:En:=⟨Q5e,Tryz.f477,Tryz.func477,by kernel_rfl,arg4 (fun G a0 a1 a2 a3 m=>Q5n G a1 a2 a3 a0 m),okarg4 Qr5⟩
def Qkd (G:Gt)(p5:V)(m:M):R:=
  some (p5,m)
def Q58 (G:Gt)(k0:V → V → V → V → V → M → R)(p18 p17 p1 p0 p5:V)(m:M):R:=
  bp (pur (bin .add true true .int p18 (.int .i64 1)) m) fun x0 m=>
  k0 x0 p17 p1 p0 p5 m
def Qke (G:Gt)(k0:V → V → V → V → V → M → R)(p18 p17 p1 p0 p5:V)(m:M):R:=
  bp (pur (aIndexArr 33 1 false p17 p18) m) fun x1 m=>
  bp (pur (bin .eql true true .int x1 (.int .i64 0)) m) fun x2 m=>
  brb x2
  (Q58 G k0 p18 p17 p1 p0 p5 m)
  (bp (G.tab Q1ep [p1,p18] m) fun x3 m=>
  bp (pur (aExtract x3 0) m) fun x4 m=>
  bp (pur (aExtract x3 1) m) fun x5 m=>
  bp (some (aNew Q1x Q2d m)) fun x6 m=>
  bp (unt (aStore 2 x6 x4 m)) fun _ m=>
  bp (pur (aNilCheck p0) m) fun x7 m=>
  bp (pur (aFieldAddr 0 x7) m) fun x8 m=>
  bp (pur (aLoad false 1 x8 m) m) fun x9 m=>
  bp (pur (aLoad true 2 x6 m) m) fun x10 m=>
  bp (pur (aLookup (.struct [(0,1,false,.int),(1,1,false,.int)]) (.slice none 0 0) true x9 x10 m) m) fun x11 m=>
  bp (pur (aExtract x11 0) m) fun x12 m=>
  bp (pur (aExtract x11 1) m) fun x13 m=>
  brb x13
  (bp (pur (aLoad true 2 x6 m) m) fun x14 m=>
  bp (aBuildSlice Q1x Q2d 2 1 [(0,x14)] m) fun x15 m=>
  bp (apS Q1x 2 16 p5 x15 m) fun x16 m=>
  Q58 G k0 p18 p17 p1 p0 x16 m)
  (Q58 G k0 p18 p17 p1 p0 p5 m))
def Qkf (G:Gt)(k0:V → V → V → V → V → M → R)(p19 p18 p17 p1 p0 p5:V)(m:M):R:=
  brb p19
  (Qke G k0 p18 p17 p1 p0 p5 m)
  (Qkd G p5 m)
def Q2b (G:Gt):Nat → V → V → V → V → V → M → R
 | 0,_,_,_,_,_,_=>none
 | i + 1,p18,p17,p1,p0,p5,m=>
  bp (pur (bin .lss true true .int p18 (.int .i64 33)) m) fun x17 m=>
  Qkf G (Q2b G i) x17 p18 p17 p1 p0 p5 m
def Qkg (G:Gt)(p18 p17 p1 p0 p5:V)(m:M):R:=
  Q2b G G.rds p18 p17 p1 p0 p5 m
def Qkh (G:Gt)(p0 p1 p5:V)(m:M):R:=
  bp (pur (aNilCheck p0) m) fun x18 m=>
  bp (pur (aFieldAddr 1 x18) m) fun x19 m=>
  bp (pur (aLoad true 33 x19 m) m) fun x20 m=>
  Qkg G (.int .i64 0) x20 p1 p0 p5 m
def Qki (G:Gt)(p0 p1 p5:V)(m:M):R:=
  bp (pur (binP m .eql true true .ptr p0 (.pointer none)) m) fun x21 m=>
  brb x21
  (some ((.slice none 0 0),m))
  (Qkh G p0 p1 p5 m)
def Qkj (G:Gt)(p0 p1:V)(m:M):R:=
  Qki G p0 p1 (.slice none 0 0) m
def Qd4 (G:Gt)(p0 p1:V)(m:M):R:=
  Qkj G p0 p1 m
theorem Q17s (G:Gt)(a0 a1:V)(m:M):ef G Tryz.f484 [a0,a1] m = Qd4 G a0 a1 m:=
  evFn_of (r:=fun r m=>Qd4 G (r 0) (r 1) m) rfl rfl (tr (seqQ (f:=fun r m=>Qkj G (r 0) (r 1) m) (tr (seqQ (f:=fun r m=>Qki G (r 0) (r 1) (r 5) m) (tr (seqQ (f:=fun r m=>Qkh G (r 0) (r 1) (r 5) m) (tr (tr (seqQ (f:=fun r m=>Qkd G (r 5) m) (fun r m=>by kernel_rfl)) (seqQ (f:=fun r m=>Qkg G (r 18) (r 17) (r 1) (r 0) (r 5) m) (tr (blockQ (loopQ (fun i r m=>Q2b G i (r 18) (r 17) (r 1) (r 0) (r 5) m) (fun _ _=>rfl) (fun i0=>tr (seqQ (f:=fun r m=>Qkf G (Q2b G i0) (r 19) (r 18) (r 17) (r 1) (r 0) (r 5) m) (tr (seqQ (f:=fun r m=>Qke G (Q2b G i0) (r 18) (r 17) (r 1) (r 0) (r 5) m) (tr (seqQ (f:=fun r m=>Q58 G (Q2b G i0) (r 18) (r 17) (r 1) (r 0) (r 5) m) (fun r m=>by kernel_rfl)) (fun r m=>by kernel_rfl))) (fun r m=>by kernel_rfl))) (fun r m=>by kernel_rfl)))) (fun r m=>by kernel_rfl)))) (fun r m=>by kernel_rfl))) (fun r m=>by kernel_rfl))) (fun r m=>by kernel_rfl))) (fun r m=>by kernel_rfl)) m
def Q17m:En:=⟨Qma,Tryz.f484,Tryz.func484,by kernel_rfl,arg2 Qd4,okarg2 Q17s⟩
def Q7c (G:Gt)(p0:V)(m:M):R:=
  bp (pur (bin .eql true true .slice p0 (.slice none 0 0)) m) fun x0 m=>
  brb x0
  (some ((.slice none 0 0),m))
  (bp (aBuildSlice Q45 Q55 9 0 [] m) fun x1 m=>
  bp (apS Q45 9 72 x1 p0 m) fun x2 m=>
  some (x2,m))
theorem Qx8 (G:Gt)(a0:V)(m:M):ef G Tryz.f485 [a0] m = Q7c G a0 m:=
  evFn_of (r:=fun r m=>Q7c G (r 0) m) rfl rfl (fun r m=>by kernel_rfl) m
def Qwz:En:=⟨Qfj,Tryz.f485,Tryz.func485,by kernel_rfl,arg1 Q7c,okarg1 Qx8⟩
def Q63 (G:Gt)(p0 p1:V)(m:M):R:=
  bp (pur (lenK 1 p0 m) m) fun x0 m=>
  bp (conv (.int .u64) x0 m) fun x1 m=>
  bp (G.tab Q6u [x1] m) fun x2 m=>
  bp (G.tab Q4t [p0,(.int .i64 0),x0,x2,p1] m) fun x3 m=>
  some (.tuple ⟨[]⟩,m)
theorem Qt5 (G:Gt)(a0 a1:V)(m:M):ef G Tryz.f486 [a0,a1] m = Q63 G a0 a1 m:=
  evFn_of (r:=fun r m=>Q63 G (r 0) (r 1) m) rfl rfl (fun r m=>by kernel_rfl) m
def Qs5:En:=⟨Qdy,Tryz.f486,Tryz.func486,by kernel_rfl,arg2 Q63,okarg2 Qt5⟩
def Qda (G:Gt)(p0:V)(m:M):R:=
  some (p0,m)
def Qdb (G:Gt)(p0 p3:V)(m:M):R:=
  bp (pur (aSliceSl 9 p0 (some p3) none) m) fun x0 m=>
  bp (unt (aClear Q55 9 x0 m)) fun _ m=>
  bp (pur (aSliceSl 9 p0 none (some p3)) m) fun x1 m=>
  some (x1,m)
def Q53 (G:Gt)(k1:V → V → V → V → M → R)(p5 p4 p0 p3:V)(m:M):R:=
  bp (pur (bin .add true true .int p5 (.int .i64 1)) m) fun x2 m=>
  k1 x2 p4 p0 p3 m
def Qcp (G:Gt)(k1:V → V → V → V → M → R)(p4 p5 p0 p3:V)(m:M):R:=
  bp (pur (aIndexAddrSl 9 p4 p5) m) fun x3 m=>
  bp (pur (aLoad true 9 x3 m) m) fun x4 m=>
  bp (pur (bin .sub true true .int p5 (.int .i64 1)) m) fun x5 m=>
  bp (pur (aIndexAddrSl 9 p4 x5) m) fun x6 m=>
  bp (pur (aLoad true 9 x6 m) m) fun x7 m=>
  bp (pur (bin .neq false true (.struct [(0,2,true,(.struct [(0,1,false,.int),(1,1,false,.int)])),(2,1,false,.int),(3,1,false,.int),(4,1,false,.int),(5,1,false,.int),(6,1,false,.str),(7,1,false,.int),(8,1,false,.bool)]) x4 x7) m) fun x8 m=>
  brb x8
  (bp (pur (aIndexAddrSl 9 p4 p5) m) fun x9 m=>
  bp (pur (aLoad true 9 x9 m) m) fun x10 m=>
  bp (pur (aIndexAddrSl 9 p0 p3) m) fun x11 m=>
  bp (unt (aStore 9 x11 x10 m)) fun _ m=>
  bp (pur (bin .add true true .int p3 (.int .i64 1)) m) fun x12 m=>
  Q53 G k1 p5 p4 p0 x12 m)
  (Q53 G k1 p5 p4 p0 p3 m)
def Q1z (G:Gt):Nat → V → V → V → V → M → R
 | 0,_,_,_,_,_=>none
 | i + 1,p5,p4,p0,p3,m=>
  bp (pur (lenK 1 p4 m) m) fun x13 m=>
  bp (pur (bin .lss false true .int p5 x13) m) fun x14 m=>
  brb x14
  (Qcp G (Q1z G i) p4 p5 p0 p3 m)
  (Qdb G p0 p3 m)
def Qdc (G:Gt)(p5 p4 p0 p3:V)(m:M):R:=
  Q1z G G.rds p5 p4 p0 p3 m
def Qdd (G:Gt)(p4 p0 p3:V)(m:M):R:=
  Qdc G (.int .i64 1) p4 p0 p3 m
def Qde (G:Gt)(k0:V → V → M → R)(p25 p0 p3:V)(m:M):R:=
  brb p25
  (bp (pur (aSliceSl 9 p0 (some p3) none) m) fun x15 m=>
  Qdd G x15 p0 p3 m)
  (bp (pur (bin .add true true .int p3 (.int .i64 1)) m) fun x16 m=>
  k0 x16 p0 m)
def Qdf (G:Gt)(k0:V → V → M → R)(p0 p3:V)(m:M):R:=
  bp (pur (aIndexAddrSl 9 p0 p3) m) fun x17 m=>
  bp (pur (aLoad true 9 x17 m) m) fun x18 m=>
  bp (pur (bin .sub true true .int p3 (.int .i64 1)) m) fun x19 m=>
  bp (pur (aIndexAddrSl 9 p0 x19) m) fun x20 m=>
  bp (pur (aLoad true 9 x20 m) m) fun x21 m=>
  bp (pur (bin .eql false true (.struct [(0,2,true,(.struct [(0,1,false,.int),(1,1,false,.int)])),(2,1,false,.int),(3,1,false,.int),(4,1,false,.int),(5,1,false,.int),(6,1,false,.str),(7,1,false,.int),(8,1,false,.bool)]) x18 x21) m) fun x22 m=>
  Qde G k0 x22 p0 p3 m
def Q24 (G:Gt):Nat → V → V → M → R
 | 0,_,_,_=>none
 | i + 1,p3,p0,m=>
  bp (pur (lenK 1 p0 m) m) fun x23 m=>
  bp (pur (bin .lss false true .int p3 x23) m) fun x24 m=>
  brb x24
  (Qdf G (Q24 G i) p0 p3 m)
  (Qda G p0 m)
def Qdg (G:Gt)(p3 p0:V)(m:M):R:=
  Q24 G G.rds p3 p0 m
def Qdh (G:Gt)(p0:V)(m:M):R:=
  Qdg G (.int .i64 1) p0 m
def Qdi (G:Gt)(p0:V)(m:M):R:=
  bp (pur (lenK 1 p0 m) m) fun x25 m=>
  bp (pur (bin .lss true true .int x25 (.int .i64 2)) m) fun x26 m=>
  brb x26
  (some (p0,m))
  (Qdh G p0 m)
def Q6g (G:Gt)(p0:V)(m:M):R:=
  Qdi G p0 m
theorem Que (G:Gt)(a0:V)(m:M):ef G Tryz.f488 [a0] m = Q6g G a0 m:=
  evFn_of (r:=fun r m=>Q6g G (r 0) m) rfl rfl (tr (seqQ (f:=fun r m=>Qdi G (r 0) m) (tr (seqQ (f:=fun r m=>Qdh G (r 0) m) (tr (tr (seqQ (f:=fun r m=>Qda G (r 0) m) (fun r m=>by kernel_rfl)) (seqQ (f:=fun r m=>Qdg G (r 3) (r 0) m) (tr (blockQ (loopQ (fun i r m=>Q24 G i (r 3) (r 0) m) (fun _ _=>rfl) (fun i0=>tr (seqQ (f:=fun r m=>Qdf G (Q24 G i0) (r 0) (r 3) m) (tr (tr seqD (blockQ (seqQ (f:=fun r m=>Qde G (Q24 G i0) (r 25) (r 0) (r 3) m) (tr (condQ (seqQ (f:=fun r m=>Qdd G (r 4) (r 0) (r 3) m) (tr (tr (seqQ (f:=fun r m=>Qdb G (r 0) (r 3) m) (fun r m=>by kernel_rfl)) (seqQ (f:=fun r m=>Qdc G (r 5) (r 4) (r 0) (r 3) m) (tr (blockQ (loopQ (fun i r m=>Q1z G i (r 5) (r 4) (r 0) (r 3) m) (fun _ _=>rfl) (fun i1=>tr (seqQ (f:=fun r m=>Qcp G (Q1z G i1) (r 4) (r 5) (r 0) (r 3) m) (tr (seqQ (f:=fun r m=>Q53 G (Q1z G i1) (r 5) (r 4) (r 0) (r 3) m) (fun r m=>by kernel_rfl)) (fun r m=>by kernel_rfl))) (fun r m=>by kernel_rfl)))) (fun r m=>by kernel_rfl)))) (fun r m=>by kernel_rfl))) (refQ)) (fun r m=>by kernel_rfl))))) (fun r m=>by kernel_rfl))) (fun r m=>by kernel_rfl)))) (fun r m=>by kernel_rfl)))) (fun r m=>by kernel_rfl))) (fun r m=>by kernel_rfl))) (fun r m=>by kernel_rfl)) m
def Qtc:En:=⟨Qej,Tryz.f488,Tryz.func488,by kernel_rfl,arg1 Q6g,okarg1 Que⟩
end
end Go.Ab.Sh

set_option linter.unusedVariables false
set_option maxRecDepth 100000
namespace Go.Ab.Sh
open Go Go.Ab Go.Proofs
noncomputable section
def Qe9 (G:Gt)(k0:V → V → V → V → V → M → R)(p8 p2 p1 p3 p0:V)(m:M):R:=
  bp (pur (bin .add true true .int p8 (.int .i64 1)) m) fun x0 m=>
  k0 x0 p2 p1 p3 p0 m
def Q64 (G:Gt)(k1:V → V → V → V → V → V → M → R)(k0:V → V → V → V → V → M → R)(p34 p0 p9 p1 p3 p8 p2:V)(m:M):R:=
  brb p34
  (bp (pur (bin .sub true true .int p9 (.int .i64 1)) m) fun x1 m=>
  bp (pur (bin .sub true true .int p9 (.int .i64 1)) m) fun x2 m=>
  bp (pur (aIndexAddrSl 2 p0 x2) m) fun x3 m=>
  bp (pur (aLoad true 2 x3 m) m) fun x4 m=>
  bp (pur (aIndexAddrSl 2 p0 p9) m) fun x5 m=>
  bp (pur (aLoad true 2 x5 m) m) fun x6 m=>
  bp (pur (aIndexAddrSl 2 p0 p9) m) fun x7 m=>
  bp (unt (aStore 2 x7 x4 m)) fun _ m=>
  bp (pur (aIndexAddrSl 2 p0 x1) m) fun x8 m=>
  bp (unt (aStore 2 x8 x6 m)) fun _ m=>
  bp (pur (bin .sub true true .int p9 (.int .i64 1)) m) fun x9 m=>
  k1 x9 p1 p3 p0 p8 p2 m)
  (Qe9 G k0 p8 p2 p1 p3 p0 m)
def Q28 (G:Gt)(k0:V → V → V → V → V → M → R):Nat → V → V → V → V → V → V → M → R
 | 0,_,_,_,_,_,_,_=>none
 | i + 1,p9,p1,p3,p0,p8,p2,m=>
  bp (pur (bin .gtr false true .int p9 p1) m) fun x10 m=>
  brt x10
  (bp (pur (aIndexAddrSl 2 p0 p9) m) fun x11 m=>
  bp (pur (aLoad true 2 x11 m) m) fun x12 m=>
  bp (pur (bin .sub true true .int p9 (.int .i64 1)) m) fun x13 m=>
  bp (pur (aIndexAddrSl 2 p0 x13) m) fun x14 m=>
  bp (pur (aLoad true 2 x14 m) m) fun x15 m=>
  bp (evCall G.tab p3 [x12,x15] m) fun x16 m=>
  bp (pur (bin .lss true true .int x16 (.int .i64 0)) m) fun x17 m=>
  Q64 G (Q28 G k0 i) k0 x17 p0 p9 p1 p3 p8 p2 m)
  (Q64 G (Q28 G k0 i) k0 (.bool false) p0 p9 p1 p3 p8 p2 m)
  (none)
def Qea (G:Gt)(k0:V → V → V → V → V → M → R)(p9 p1 p3 p0 p8 p2:V)(m:M):R:=
  Q28 G k0 G.rds p9 p1 p3 p0 p8 p2 m
def Qeb (G:Gt)(k0:V → V → V → V → V → M → R)(p8 p1 p3 p0 p2:V)(m:M):R:=
  Qea G k0 p8 p1 p3 p0 p8 p2 m
def Qq (G:Gt):Nat → V → V → V → V → V → M → R
 | 0,_,_,_,_,_,_=>none
 | i + 1,p8,p2,p1,p3,p0,m=>
  bp (pur (bin .lss false true .int p8 p2) m) fun x18 m=>
  brb x18
  (Qeb G (Qq G i) p8 p1 p3 p0 p2 m)
  (some (.tuple ⟨[]⟩,m))
def Qec (G:Gt)(p8 p2 p1 p3 p0:V)(m:M):R:=
  Qq G G.rds p8 p2 p1 p3 p0 m
def Q6t (G:Gt)(p1 p2 p3 p0:V)(m:M):R:=
  bp (pur (bin .add true true .int p1 (.int .i64 1)) m) fun x19 m=>
  Qec G x19 p2 p1 p3 p0 m
theorem Qvr (G:Gt)(a0 a1 a2 a3:V)(m:M):ef G Tryz.f489 [a0,a1,a2,a3] m = Q6t G a1 a2 a3 a0 m:=
  evFn_of (r:=fun r m=>Q6t G (r 1) (r 2) (r 3) (r 0) m) rfl rfl (tr (seqQ (f:=fun r m=>Qec G (r 8) (r 2) (r 1) (r 3) (r 0) m) (tr (blockQ (loopQ (fun i r m=>Qq G i (r 8) (r 2) (r 1) (r 3) (r 0) m) (fun _ _=>rfl) (fun i0=>tr (seqQ (f:=fun r m=>Qeb G (Qq G i0) (r 8) (r 1) (r 3) (r 0) (r 2) m) (tr (tr (seqQ (f:=fun r m=>Qe9 G (Qq G i0) (r 8) (r 2) (r 1) (r 3) (r 0) m) (fun r m=>by kernel_rfl)) (blockQ (seqQ (f:=fun r m=>Qea G (Qq G i0) (r 9) (r 1) (r 3) (r 0) (r 8) (r 2) m) (tr (blockQ (loopQ (fun i r m=>Q28 G (Qq G i0) i (r 9) (r 1) (r 3) (r 0) (r 8) (r 2) m) (fun _ _=>rfl) (fun i1=>tr (tr seqD (seqQ (f:=fun r m=>Q64 G (Q28 G (Qq G i0) i1) (Qq G i0) (r 34) (r 0) (r 9) (r 1) (r 3) (r 8) (r 2) m) (fun r m=>by kernel_rfl))) (fun r m=>by kernel_rfl)))) (fun r m=>by kernel_rfl))))) (fun r m=>by kernel_rfl))) (fun r m=>by kernel_rfl)))) (fun r m=>by kernel_rfl))) (fun r m=>by kernel_rfl)) m
def Quk:En:=⟨Qex,Tryz.f489,Tryz.func489,by kernel_rfl,arg4 (fun G a0 a1 a2 a3 m=>Q6t G a1 a2 a3 a0 m),okarg4 Qvr⟩
def Qhv (G:Gt)(p0 p1 p2 p4 p3:V)(m:M):R:=
  bp (G.tab Q9o [p0,p1,p2,p4] m) fun x0 m=>
  bp (pur (aExtract x0 0) m) fun x1 m=>
  bp (pur (aExtract x0 1) m) fun x2 m=>
  bp (G.tab Q9o [p0,x2,p3,p4] m) fun x3 m=>
  bp (pur (aExtract x3 0) m) fun x4 m=>
  bp (pur (aExtract x3 1) m) fun x5 m=>
  bp (G.tab Q9o [p0,x1,x4,p4] m) fun x6 m=>
  bp (pur (aExtract x6 0) m) fun x7 m=>
  bp (pur (aExtract x6 1) m) fun x8 m=>
  some (x8,m)
theorem Q1dx (G:Gt)(a0 a1 a2 a3 a4:V)(m:M):ef G Tryz.f499 [a0,a1,a2,a3,a4] m = Qhv G a0 a1 a2 a4 a3 m:=
  evFn_of (r:=fun r m=>Qhv G (r 0) (r 1) (r 2) (r 4) (r 3) m) rfl rfl (fun r m=>by kernel_rfl) m
def Q1d0:En:=⟨Qri,Tryz.f499,Tryz.func499,by kernel_rfl,arg5 (fun G a0 a1 a2 a3 a4 m=>Qhv G a0 a1 a2 a4 a3 m),okarg5 Q1dx⟩
def Q7d (G:Gt)(k0:V → V → V → V → V → V → V → M → R)(p97 p0 p1 p2 p13 p4 p3 p10 p11 p12:V)(m:M):R:=
  brb p97
  (bp (G.tab Qr1 [p0,p1,p2,p13,p4] m) fun x0 m=>
  k0 p2 x0 p0 p4 p3 p10 p11 m)
  (bp (G.tab Qyp [p0,p1,p2,p13,p4] m) fun x1 m=>
  bp (pur (aExtract x1 0) m) fun x2 m=>
  bp (pur (aExtract x1 1) m) fun x3 m=>
  bp (pur (bin .sub false true .int x2 p1) m) fun x4 m=>
  bp (pur (bin .sub false true .int p2 x2) m) fun x5 m=>
  bp (pur (bin .quo true true .int p12 (.int .i64 8)) m) fun x6 m=>
  bp (pur (bin .lss false true .int x4 x5) m) fun x7 m=>
  brb x7
  (bp (pur (bin .geq false true .int x4 x6) m) fun x8 m=>
  bp (G.tab Q4t [p0,p1,x2,p3,p4] m) fun x9 m=>
  bp (pur (bin .add true true .int x2 (.int .i64 1)) m) fun x10 m=>
  k0 p2 x10 p0 p4 p3 x8 x3 m)
  (bp (pur (bin .geq false true .int x5 x6) m) fun x11 m=>
  bp (pur (bin .add true true .int x2 (.int .i64 1)) m) fun x12 m=>
  bp (G.tab Q4t [p0,x12,p2,p3,p4] m) fun x13 m=>
  k0 x2 p1 p0 p4 p3 x11 x3 m))
def Q8a (G:Gt)(k0:V → V → V → V → V → V → V → M → R)(p1 p4 p0 p13 p2 p3 p10 p11 p12:V)(m:M):R:=
  bp (pur (bin .gtr true true .int p1 (.int .i64 0)) m) fun x14 m=>
  brt x14
  (bp (pur (bin .sub true true .int p1 (.int .i64 1)) m) fun x15 m=>
  bp (pur (aIndexAddrSl 9 p0 x15) m) fun x16 m=>
  bp (pur (aLoad true 9 x16 m) m) fun x17 m=>
  bp (pur (aIndexAddrSl 9 p0 p13) m) fun x18 m=>
  bp (pur (aLoad true 9 x18 m) m) fun x19 m=>
  bp (evCall G.tab p4 [x17,x19] m) fun x20 m=>
  bp (pur (bin .lss true true .int x20 (.int .i64 0)) m) fun x21 m=>
  bp (pur (un .not x21) m) fun x22 m=>
  Q7d G k0 x22 p0 p1 p2 p13 p4 p3 p10 p11 p12 m)
  (Q7d G k0 (.bool false) p0 p1 p2 p13 p4 p3 p10 p11 p12 m)
  (none)
def Q3k (G:Gt)(k0:V → V → V → V → V → V → V → M → R)(p75 p0 p1 p2 p4 p13 p3 p10 p11 p12:V)(m:M):R:=
  brb p75
  (bp (G.tab Qm5 [p0,p1,p2,p4] m) fun x23 m=>
  brb x23
  (some (.tuple ⟨[]⟩,m))
  (Q8a G k0 p1 p4 p0 p13 p2 p3 p10 p11 p12 m))
  (Q8a G k0 p1 p4 p0 p13 p2 p3 p10 p11 p12 m)
def Q8b (G:Gt)(k0:V → V → V → V → V → V → V → M → R)(p10 p11 p14 p0 p1 p2 p4 p13 p3 p12:V)(m:M):R:=
  brb p10
  (brb p11
  (bp (pur (bin .eql true true .int p14 (.int .i64 1)) m) fun x24 m=>
  Q3k G k0 x24 p0 p1 p2 p4 p13 p3 p10 p11 p12 m)
  (Q3k G k0 (.bool false) p0 p1 p2 p4 p13 p3 p10 p11 p12 m))
  (Q3k G k0 (.bool false) p0 p1 p2 p4 p13 p3 p10 p11 p12 m)
def Qhw (G:Gt)(k0:V → V → V → V → V → V → V → M → R)(p14 p0 p1 p2 p4 p13 p10 p11 p3 p12:V)(m:M):R:=
  bp (pur (bin .eql true true .int p14 (.int .i64 2)) m) fun x25 m=>
  brb x25
  (bp (G.tab Qu4 [p0,p1,p2,p4] m) fun x26 m=>
  bp (pur (bin .sub true true .int p2 (.int .i64 1)) m) fun x27 m=>
  bp (pur (bin .sub false true .int p13 p1) m) fun x28 m=>
  bp (pur (bin .sub false true .int x27 x28) m) fun x29 m=>
  Q8b G k0 p10 p11 (.int .i64 1) p0 p1 p2 p4 x29 p3 p12 m)
  (Q8b G k0 p10 p11 p14 p0 p1 p2 p4 p13 p3 p12 m)
def Q8c (G:Gt)(k0:V → V → V → V → V → V → V → M → R)(p0 p1 p2 p4 p10 p11 p3 p12:V)(m:M):R:=
  bp (G.tab Qvf [p0,p1,p2,p4] m) fun x30 m=>
  bp (pur (aExtract x30 0) m) fun x31 m=>
  bp (pur (aExtract x30 1) m) fun x32 m=>
  Qhw G k0 x32 p0 p1 p2 p4 x31 p10 p11 p3 p12 m
def Qhx (G:Gt)(k0:V → V → V → V → V → V → V → M → R)(p10 p0 p1 p2 p4 p3 p11 p12:V)(m:M):R:=
  bp (pur (un .not p10) m) fun x33 m=>
  brb x33
  (bp (G.tab Qsv [p0,p1,p2,p4] m) fun x34 m=>
  bp (pur (bin .sub true true .int p3 (.int .i64 1)) m) fun x35 m=>
  Q8c G k0 p0 p1 p2 p4 p10 p11 x35 p12 m)
  (Q8c G k0 p0 p1 p2 p4 p10 p11 p3 p12 m)
def Qhy (G:Gt)(k0:V → V → V → V → V → V → V → M → R)(p3 p0 p1 p2 p4 p10 p11 p12:V)(m:M):R:=
  bp (pur (bin .eql true true .int p3 (.int .i64 0)) m) fun x36 m=>
  brb x36
  (bp (G.tab Qzp [p0,p1,p2,p4] m) fun x37 m=>
  some (.tuple ⟨[]⟩,m))
  (Qhx G k0 p10 p0 p1 p2 p4 p3 p11 p12 m)
def Qhz (G:Gt)(k0:V → V → V → V → V → V → V → M → R)(p12 p0 p1 p2 p4 p3 p10 p11:V)(m:M):R:=
  bp (pur (bin .leq true true .int p12 (.int .i64 12)) m) fun x38 m=>
  brb x38
  (bp (G.tab Qe1 [p0,p1,p2,p4] m) fun x39 m=>
  some (.tuple ⟨[]⟩,m))
  (Qhy G k0 p3 p0 p1 p2 p4 p10 p11 p12 m)
def Qa (G:Gt):Nat → V → V → V → V → V → V → V → M → R
 | 0,_,_,_,_,_,_,_,_=>none
 | i + 1,p2,p1,p0,p4,p3,p10,p11,m=>
  bp (pur (bin .sub false true .int p2 p1) m) fun x40 m=>
  Qhz G (Qa G i) x40 p0 p1 p2 p4 p3 p10 p11 m
def Qi0 (G:Gt)(p2 p1 p0 p4 p3 p10 p11:V)(m:M):R:=
  Qa G G.rds p2 p1 p0 p4 p3 p10 p11 m
def Qi1 (G:Gt)(p2 p1 p0 p4 p3 p10:V)(m:M):R:=
  Qi0 G p2 p1 p0 p4 p3 p10 (.bool true) m
def Q9j (G:Gt)(p2 p1 p0 p4 p3:V)(m:M):R:=
  Qi1 G p2 p1 p0 p4 p3 (.bool true) m
theorem Q125 (G:Gt)(a0 a1 a2 a3 a4:V)(m:M):ef G Tryz.f531 [a0,a1,a2,a3,a4] m = Q9j G a2 a1 a0 a4 a3 m:=
  evFn_of (r:=fun r m=>Q9j G (r 2) (r 1) (r 0) (r 4) (r 3) m) rfl rfl (tr (seqQ (f:=fun r m=>Qi1 G (r 2) (r 1) (r 0) (r 4) (r 3) (r 10) m) (tr (seqQ (f:=fun r m=>Qi0 G (r 2) (r 1) (r 0) (r 4) (r 3) (r 10) (r 11) m) (tr (blockQ (loopQ (fun i r m=>Qa G i (r 2) (r 1) (r 0) (r 4) (r 3) (r 10) (r 11) m) (fun _ _=>rfl) (fun i0=>tr (blockQ (seqQ (f:=fun r m=>Qhz G (Qa G i0) (r 12) (r 0) (r 1) (r 2) (r 4) (r 3) (r 10) (r 11) m) (tr (seqQ (f:=fun r m=>Qhy G (Qa G i0) (r 3) (r 0) (r 1) (r 2) (r 4) (r 10) (r 11) (r 12) m) (tr (seqQ (f:=fun r m=>Qhx G (Qa G i0) (r 10) (r 0) (r 1) (r 2) (r 4) (r 3) (r 11) (r 12) m) (tr (seqQ (f:=fun r m=>Q8c G (Qa G i0) (r 0) (r 1) (r 2) (r 4) (r 10) (r 11) (r 3) (r 12) m) (tr (seqQ (f:=fun r m=>Qhw G (Qa G i0) (r 14) (r 0) (r 1) (r 2) (r 4) (r 13) (r 10) (r 11) (r 3) (r 12) m) (tr (seqQ (f:=fun r m=>Q8b G (Qa G i0) (r 10) (r 11) (r 14) (r 0) (r 1) (r 2) (r 4) (r 13) (r 3) (r 12) m) (tr (tr (seqQ (f:=fun r m=>Q8a G (Qa G i0) (r 1) (r 4) (r 0) (r 13) (r 2) (r 3) (r 10) (r 11) (r 12) m) (tr (tr seqD (seqQ (f:=fun r m=>Q7d G (Qa G i0) (r 97) (r 0) (r 1) (r 2) (r 13) (r 4) (r 3) (r 10) (r 11) (r 12) m) (fun r m=>by kernel_rfl))) (fun r m=>by kernel_rfl))) (seqQ (f:=fun r m=>Q3k G (Qa G i0) (r 75) (r 0) (r 1) (r 2) (r 4) (r 13) (r 3) (r 10) (r 11) (r 12) m) (fun r m=>by kernel_rfl))) (fun r m=>by kernel_rfl))) (fun r m=>by kernel_rfl))) (fun r m=>by kernel_rfl))) (fun r m=>by kernel_rfl))) (fun r m=>by kernel_rfl))) (fun r m=>by kernel_rfl)))) (fun r m=>by kernel_rfl)))) (fun r m=>by kernel_rfl))) (fun r m=>by kernel_rfl))) (fun r m=>by kernel_rfl)) m
def Q115:En:=⟨Q4t,Tryz.f531,Tryz.func531,by kernel_rfl,arg5 (fun G a0 a1 a2 a3 a4 m=>Q9j G a2 a1 a0 a4 a3 m),okarg5 Q125⟩
def Qi2 (G:Gt)(p0 p2 p1 p3:V)(m:M):R:=
  bp (pur (aIndexAddrSl 1 p0 p2) m) fun x0 m=>
  bp (pur (aLoad false 1 x0 m) m) fun x1 m=>
  bp (pur (aIndexAddrSl 1 p0 p1) m) fun x2 m=>
  bp (pur (aLoad false 1 x2 m) m) fun x3 m=>
  bp (G.tab Q3r [x1,x3] m) fun x4 m=>
  brb x4
  (bp (pur (aNilCheck p3) m) fun x5 m=>
  bp (pur (aLoad false 1 x5 m) m) fun x6 m=>
  bp (pur (bin .add true true .int x6 (.int .i64 1)) m) fun x7 m=>
  bp (pur (aNilCheck p3) m) fun x8 m=>
  bp (unt (aStore 1 x8 x7 m)) fun _ m=>
  some (.tuple ⟨[p2,p1]⟩,m))
  (some (.tuple ⟨[p1,p2]⟩,m))
theorem Q1dy (G:Gt)(a0 a1 a2 a3:V)(m:M):ef G Tryz.f538 [a0,a1,a2,a3] m = Qi2 G a0 a2 a1 a3 m:=
  evFn_of (r:=fun r m=>Qi2 G (r 0) (r 2) (r 1) (r 3) m) rfl rfl (fun r m=>by kernel_rfl) m
def Q1d5:En:=⟨Q9o,Tryz.f538,Tryz.func538,by kernel_rfl,arg4 (fun G a0 a1 a2 a3 m=>Qi2 G a0 a2 a1 a3 m),okarg4 Q1dy⟩
def Qcq (G:Gt)(k0:V → V → V → V → V → M → R)(p8 p2 p1 p3 p0:V)(m:M):R:=
  bp (pur (bin .add true true .int p8 (.int .i64 1)) m) fun x0 m=>
  k0 x0 p2 p1 p3 p0 m
def Q54 (G:Gt)(k1:V → V → V → V → V → V → M → R)(k0:V → V → V → V → V → M → R)(p34 p0 p9 p1 p3 p8 p2:V)(m:M):R:=
  brb p34
  (bp (pur (bin .sub true true .int p9 (.int .i64 1)) m) fun x1 m=>
  bp (pur (bin .sub true true .int p9 (.int .i64 1)) m) fun x2 m=>
  bp (pur (aIndexAddrSl 9 p0 x2) m) fun x3 m=>
  bp (pur (aLoad true 9 x3 m) m) fun x4 m=>
  bp (pur (aIndexAddrSl 9 p0 p9) m) fun x5 m=>
  bp (pur (aLoad true 9 x5 m) m) fun x6 m=>
  bp (pur (aIndexAddrSl 9 p0 p9) m) fun x7 m=>
  bp (unt (aStore 9 x7 x4 m)) fun _ m=>
  bp (pur (aIndexAddrSl 9 p0 x1) m) fun x8 m=>
  bp (unt (aStore 9 x8 x6 m)) fun _ m=>
  bp (pur (bin .sub true true .int p9 (.int .i64 1)) m) fun x9 m=>
  k1 x9 p1 p3 p0 p8 p2 m)
  (Qcq G k0 p8 p2 p1 p3 p0 m)
def Q20 (G:Gt)(k0:V → V → V → V → V → M → R):Nat → V → V → V → V → V → V → M → R
 | 0,_,_,_,_,_,_,_=>none
 | i + 1,p9,p1,p3,p0,p8,p2,m=>
  bp (pur (bin .gtr false true .int p9 p1) m) fun x10 m=>
  brt x10
  (bp (pur (aIndexAddrSl 9 p0 p9) m) fun x11 m=>
  bp (pur (aLoad true 9 x11 m) m) fun x12 m=>
  bp (pur (bin .sub true true .int p9 (.int .i64 1)) m) fun x13 m=>
  bp (pur (aIndexAddrSl 9 p0 x13) m) fun x14 m=>
  bp (pur (aLoad true 9 x14 m) m) fun x15 m=>
  bp (evCall G.tab p3 [x12,x15] m) fun x16 m=>
  bp (pur (bin .lss true true .int x16 (.int .i64 0)) m) fun x17 m=>
  Q54 G (Q20 G k0 i) k0 x17 p0 p9 p1 p3 p8 p2 m)
  (Q54 G (Q20 G k0 i) k0 (.bool false) p0 p9 p1 p3 p8 p2 m)
  (none)
def Qcr (G:Gt)(k0:V → V → V → V → V → M → R)(p9 p1 p3 p0 p8 p2:V)(m:M):R:=
  Q20 G k0 G.rds p9 p1 p3 p0 p8 p2 m
def Qcs (G:Gt)(k0:V → V → V → V → V → M → R)(p8 p1 p3 p0 p2:V)(m:M):R:=
  Qcr G k0 p8 p1 p3 p0 p8 p2 m
def Qn (G:Gt):Nat → V → V → V → V → V → M → R
 | 0,_,_,_,_,_,_=>none
 | i + 1,p8,p2,p1,p3,p0,m=>
  bp (pur (bin .lss false true .int p8 p2) m) fun x18 m=>
  brb x18
  (Qcs G (Qn G i) p8 p1 p3 p0 p2 m)
  (some (.tuple ⟨[]⟩,m))
def Qct (G:Gt)(p8 p2 p1 p3 p0:V)(m:M):R:=
  Qn G G.rds p8 p2 p1 p3 p0 m
def Q65 (G:Gt)(p1 p2 p3 p0:V)(m:M):R:=
  bp (pur (bin .add true true .int p1 (.int .i64 1)) m) fun x19 m=>
  Qct G x19 p2 p1 p3 p0 m
theorem Qt6 (G:Gt)(a0 a1 a2 a3:V)(m:M):ef G Tryz.f552 [a0,a1,a2,a3] m = Q65 G a1 a2 a3 a0 m:=
  evFn_of (r:=fun r m=>Q65 G (r 1) (r 2) (r 3) (r 0) m) rfl rfl (tr (seqQ (f:=fun r m=>Qct G (r 8) (r 2) (r 1) (r 3) (r 0) m) (tr (blockQ (loopQ (fun i r m=>Qn G i (r 8) (r 2) (r 1) (r 3) (r 0) m) (fun _ _=>rfl) (fun i0=>tr (seqQ (f:=fun r m=>Qcs G (Qn G i0) (r 8) (r 1) (r 3) (r 0) (r 2) m) (tr (tr (seqQ (f:=fun r m=>Qcq G (Qn G i0) (r 8) (r 2) (r 1) (r 3) (r 0) m) (fun r m=>by kernel_rfl)) (blockQ (seqQ (f:=fun r m=>Qcr G (Qn G i0) (r 9) (r 1) (r 3) (r 0) (r 8) (r 2) m) (tr (blockQ (loopQ (fun i r m=>Q20 G (Qn G i0) i (r 9) (r 1) (r 3) (r 0) (r 8) (r 2) m) (fun _ _=>rfl) (fun i1=>tr (tr seqD (seqQ (f:=fun r m=>Q54 G (Q20 G (Qn G i0) i1) (Qn G i0) (r 34) (r 0) (r 9) (r 1) (r 3) (r 8) (r 2) m) (fun r m=>by kernel_rfl))) (fun r m=>by kernel_rfl)))) (fun r m=>by kernel_rfl))))) (fun r m=>by kernel_rfl))) (fun r m=>by kernel_rfl)))) (fun r m=>by kernel_rfl))) (fun r m=>by kernel_rfl)) m
def Qs3:En:=⟨Qe1,Tryz.f552,Tryz.func552,by kernel_rfl,arg4 (fun G a0 a1 a2 a3 m=>Q65 G a1 a2 a3 a0 m),okarg4 Qt6⟩
end
end Go.Ab.Sh

set_option linter.unusedVariables false
set_option maxRecDepth 100000
namespace Go.Ab.Sh
open Go Go.Ab Go.Proofs
noncomputable section
end
end Go.Ab.Sh
