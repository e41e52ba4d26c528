/-
  Functions of the program as plain definitions. No conditions.
-/
import Derived.Test.YthlpkjlpdmfgiaaGreatDoorAb5
import Derived.Test.YthlpkjlpdmfgiaaGreatDoorZ
import Derived.KernelRfl
import Derived.Test.YthlpkjlpdmfgiaaGreatDoorProg
set_option linter.unusedVariables false
set_option maxRecDepth 100000
namespace Go.Ab.Sh
open Go Go.Ab Go.Proofs
noncomputable section
def Qxq (G:Gt)(p5 p4:V)(m:M):R:=
  bp (pur (aLoad true 2 p5 m) m) fun x0 m=>
  bp (unt (aStore 2 p4 x0 m)) fun _ m=>
  ob (ob (aLoad true 2 p4 m) fun v=>ob (some []) fun l=>some (v :: l)) fun l=>some (resVal l,m)
def Qd6 (G:Gt)(k0:V → V → V → V → V → V → M → R)(p7 p0 p6 p5 p1 p4:V)(m:M):R:=
  bp (pur (bin .add true true .int p7 (.int .i64 1)) m) fun x1 m=>
  k0 x1 p0 p6 p5 p1 p4 m
def Qj9 (G:Gt)(k0:V → V → V → V → V → V → M → R)(p5 p0 p6 p7 p1 p4:V)(m:M):R:=
  bp (pur (aFieldAddr 1 p5) m) fun x2 m=>
  bp (pur (aLoad false 1 x2 m) m) fun x3 m=>
  bp (pur (aSliceStr p0 (some p6) (some p7)) m) fun x4 m=>
  bp (pur (bin .add true true .int p6 (.int .i64 1)) m) fun x5 m=>
  bp (pur (aBuild Q65 [(0,1),(1,1)] [(0,p1),(1,x5)]) m) fun x6 m=>
  bp (pur (aBuild Qqs [(0,1),(1,2)] [(0,x4),(1,x6)]) m) fun x7 m=>
  bp (aBuildSlice Qqr Qqs 3 1 [(0,x7)] m) fun x8 m=>
  bp (apS Qqr 3 32 x3 x8 m) fun x9 m=>
  bp (pur (aFieldAddr 1 p5) m) fun x10 m=>
  bp (unt (aStore 1 x10 x9 m)) fun _ m=>
  Qd6 G k0 p7 p0 (.int .i64 (-1)) p5 p1 p4 m
def Qxr (G:Gt)(k0:V → V → V → V → V → V → M → R)(p28 p5 p6 p0 p7 p1 p4:V)(m:M):R:=
  brb p28
  (bp (pur (aFieldAddr 1 p5) m) fun x11 m=>
  bp (pur (aLoad false 1 x11 m) m) fun x12 m=>
  bp (pur (lenK 1 x12 m) m) fun x13 m=>
  bp (pur (bin .eql true true .int x13 (.int .i64 0)) m) fun x14 m=>
  brb x14
  (bp (pur (aFieldAddr 0 p5) m) fun x15 m=>
  bp (unt (aStore 1 x15 p6 m)) fun _ m=>
  Qj9 G k0 p5 p0 p6 p7 p1 p4 m)
  (Qj9 G k0 p5 p0 p6 p7 p1 p4 m))
  (Qd6 G k0 p7 p0 p6 p5 p1 p4 m)
def Qxs (G:Gt)(k0:V → V → V → V → V → V → M → R)(p6 p5 p0 p7 p1 p4:V)(m:M):R:=
  bp (pur (bin .geq true true .int p6 (.int .i64 0)) m) fun x16 m=>
  Qxr G k0 x16 p5 p6 p0 p7 p1 p4 m
def Qja (G:Gt)(k0:V → V → V → V → V → V → M → R)(p7 p0 p6 p5 p1 p4:V)(m:M):R:=
  Qd6 G k0 p7 p0 p6 p5 p1 p4 m
def Qjb (G:Gt)(k0:V → V → V → V → V → V → M → R)(p23 p6 p7 p0 p5 p1 p4:V)(m:M):R:=
  brb p23
  (bp (pur (bin .lss true true .int p6 (.int .i64 0)) m) fun x17 m=>
  brb x17
  (Qja G k0 p7 p0 p7 p5 p1 p4 m)
  (Qja G k0 p7 p0 p6 p5 p1 p4 m))
  (Qxs G k0 p6 p5 p0 p7 p1 p4 m)
def Qxt (G:Gt)(k0:V → V → V → V → V → V → M → R)(p7 p0 p6 p5 p1 p4:V)(m:M):R:=
  bp (pur (lenK 0 p0 m) m) fun x18 m=>
  bp (pur (bin .lss false true .int p7 x18) m) fun x19 m=>
  brb x19
  (bp (pur (aIndexStr p0 p7) m) fun x20 m=>
  bp (pur (bin .neq true true .int x20 (.int .u8 32)) m) fun x21 m=>
  Qjb G k0 x21 p6 p7 p0 p5 p1 p4 m)
  (Qjb G k0 (.bool false) p6 p7 p0 p5 p1 p4 m)
def Q1t (G:Gt):Nat → V → V → V → V → V → V → M → R
 | 0,_,_,_,_,_,_,_=>none
 | i + 1,p7,p0,p6,p5,p1,p4,m=>
  bp (pur (lenK 0 p0 m) m) fun x22 m=>
  bp (pur (bin .leq false true .int p7 x22) m) fun x23 m=>
  brb x23
  (Qxt G (Q1t G i) p7 p0 p6 p5 p1 p4 m)
  (Qxq G p5 p4 m)
def Qxu (G:Gt)(p7 p0 p6 p5 p1 p4:V)(m:M):R:=
  Q1t G G.rds p7 p0 p6 p5 p1 p4 m
def Qxv (G:Gt)(p0 p6 p5 p1 p4:V)(m:M):R:=
  Qxu G (.int .i64 0) p0 p6 p5 p1 p4 m
def Qxw (G:Gt)(p0 p5 p1 p4:V)(m:M):R:=
  Qxv G p0 (.int .i64 (-1)) p5 p1 p4 m
def Qxx (G:Gt)(p0 p1 p4:V)(m:M):R:=
  bp (some (aNew Qc0 Qim m)) fun x24 m=>
  Qxw G p0 x24 p1 p4 m
def Qp5 (G:Gt)(p0 p1:V)(m:M):R:=
  bp (some (aNew Qc0 Qim m)) fun x25 m=>
  Qxx G p0 p1 x25 m
theorem Q1fs (G:Gt)(a0 a1:V)(m:M):ef G Tryz.f89 [a0,a1] m = Qp5 G a0 a1 m:=
  evFn_of (r:=fun r m=>Qp5 G (r 0) (r 1) m) rfl rfl (tr (seqQ (f:=fun r m=>Qxx G (r 0) (r 1) (r 4) m) (tr (seqQ (f:=fun r m=>Qxw G (r 0) (r 5) (r 1) (r 4) m) (tr (seqQ (f:=fun r m=>Qxv G (r 0) (r 6) (r 5) (r 1) (r 4) m) (tr (tr (seqQ (f:=fun r m=>Qxq G (r 5) (r 4) m) (fun r m=>by kernel_rfl)) (seqQ (f:=fun r m=>Qxu G (r 7) (r 0) (r 6) (r 5) (r 1) (r 4) m) (tr (blockQ (loopQ (fun i r m=>Q1t G i (r 7) (r 0) (r 6) (r 5) (r 1) (r 4) m) (fun _ _=>rfl) (fun i0=>tr (seqQ (f:=fun r m=>Qxt G (Q1t G i0) (r 7) (r 0) (r 6) (r 5) (r 1) (r 4) m) (tr (tr (seqQ (f:=fun r m=>Qd6 G (Q1t G i0) (r 7) (r 0) (r 6) (r 5) (r 1) (r 4) m) (fun r m=>by kernel_rfl)) (blockQ (tr (seqQ (f:=fun r m=>Qxs G (Q1t G i0) (r 6) (r 5) (r 0) (r 7) (r 1) (r 4) m) (tr (seqQ (f:=fun r m=>Qxr G (Q1t G i0) (r 28) (r 5) (r 6) (r 0) (r 7) (r 1) (r 4) m) (tr (condQ (seqQ (f:=fun r m=>Qj9 G (Q1t G i0) (r 5) (r 0) (r 6) (r 7) (r 1) (r 4) m) (fun r m=>by kernel_rfl)) (refQ)) (fun r m=>by kernel_rfl))) (fun r m=>by kernel_rfl))) (seqQ (f:=fun r m=>Qjb G (Q1t G i0) (r 23) (r 6) (r 7) (r 0) (r 5) (r 1) (r 4) m) (tr (condQ (seqQ (f:=fun r m=>Qja G (Q1t G i0) (r 7) (r 0) (r 6) (r 5) (r 1) (r 4) m) (fun r m=>by kernel_rfl)) (refQ)) (fun r m=>by kernel_rfl)))))) (fun r m=>by kernel_rfl))) (fun r m=>by kernel_rfl)))) (fun r m=>by kernel_rfl)))) (fun r m=>by kernel_rfl))) (fun r m=>by kernel_rfl))) (fun r m=>by kernel_rfl))) (fun r m=>by kernel_rfl)) m
def Q1fc:En:=⟨Q12q,Tryz.f89,Tryz.func89,by kernel_rfl,arg2 Qp5,okarg2 Q1fs⟩
def Qdd (G:Gt)(p3:V)(m:M):R:=
  some (p3,m)
def Qde (G:Gt)(p15 p0 p3:V)(m:M):R:=
  brb p15
  (bp (G.tab Q36 [p0,(.int .i64 130)] m) fun x0 m=>
  Qdd G p3 m)
  (Qdd G p3 m)
def Qo4 (G:Gt)(p0 p3:V)(m:M):R:=
  bp (pur (aNilCheck p0) m) fun x1 m=>
  bp (pur (aFieldAddr 4 x1) m) fun x2 m=>
  bp (pur (aLoad false 1 x2 m) m) fun x3 m=>
  bp (pur (bin .eql true true .int x3 (.int .i64 0)) m) fun x4 m=>
  brb x4
  (bp (G.tab Q14n [p3] m) fun x5 m=>
  bp (pur (un .not x5) m) fun x6 m=>
  Qde G x6 p0 p3 m)
  (Qde G (.bool false) p0 p3 m)
def Qo5 (G:Gt)(p0:V)(m:M):R:=
  bp (G.tab Q3m [p0] m) fun x7 m=>
  Qo4 G p0 x7 m
def Qgj (G:Gt)(p0:V)(m:M):R:=
  Qo5 G p0 m
theorem Q19c (G:Gt)(a0:V)(m:M):ef G Tryz.f90 [a0] m = Qgj G a0 m:=
  evFn_of (r:=fun r m=>Qgj G (r 0) m) rfl rfl (tr (seqQ (f:=fun r m=>Qo5 G (r 0) m) (tr (seqQ (f:=fun r m=>Qo4 G (r 0) (r 3) m) (tr (tr (seqQ (f:=fun r m=>Qdd G (r 3) m) (fun r m=>by kernel_rfl)) (seqQ (f:=fun r m=>Qde G (r 15) (r 0) (r 3) m) (fun r m=>by kernel_rfl))) (fun r m=>by kernel_rfl))) (fun r m=>by kernel_rfl))) (fun r m=>by kernel_rfl)) m
def Q196:En:=⟨Q2g,Tryz.f90,Tryz.func90,by kernel_rfl,arg1 Qgj,okarg1 Q19c⟩
def Qmc (G:Gt)(p0 p1:V)(m:M):R:=
  bp (pur (aNilCheck p0) m) fun x0 m=>
  bp (pur (aFieldAddr 15 x0) m) fun x1 m=>
  bp (pur (aLoad false 1 x1 m) m) fun x2 m=>
  bp (aBuildSlice Qts [(.string ⟨#[]⟩)] 1 1 [(0,p1)] m) fun x3 m=>
  bp (apS Qts 1 16 x2 x3 m) fun x4 m=>
  bp (pur (aNilCheck p0) m) fun x5 m=>
  bp (pur (aFieldAddr 15 x5) m) fun x6 m=>
  bp (unt (aStore 1 x6 x4 m)) fun _ m=>
  some (.tuple ⟨[]⟩,m)
def Qcd (G:Gt)(k0:V → V → V → M → R)(p4 p0 p1:V)(m:M):R:=
  bp (pur (bin .add true true .int p4 (.int .i64 1)) m) fun x7 m=>
  k0 x7 p0 p1 m
def Qmd (G:Gt)(k0:V → V → V → M → R)(p0 p4 p1:V)(m:M):R:=
  bp (pur (aNilCheck p0) m) fun x8 m=>
  bp (pur (aFieldAddr 15 x8) m) fun x9 m=>
  bp (pur (aLoad false 1 x9 m) m) fun x10 m=>
  bp (pur (aIndexAddrSl 1 x10 p4) m) fun x11 m=>
  bp (pur (aLoad false 1 x11 m) m) fun x12 m=>
  bp (pur (bin .eql false true .str x12 p1) m) fun x13 m=>
  brb x13
  (bp (pur (aNilCheck p0) m) fun x14 m=>
  bp (pur (aFieldAddr 16 x14) m) fun x15 m=>
  bp (unt (aStore 1 x15 (.bool true) m)) fun _ m=>
  Qcd G k0 p4 p0 p1 m)
  (Qcd G k0 p4 p0 p1 m)
def Q42 (G:Gt):Nat → V → V → V → M → R
 | 0,_,_,_,_=>none
 | i + 1,p4,p0,p1,m=>
  bp (pur (aNilCheck p0) m) fun x16 m=>
  bp (pur (aFieldAddr 15 x16) m) fun x17 m=>
  bp (pur (aLoad false 1 x17 m) m) fun x18 m=>
  bp (pur (lenK 1 x18 m) m) fun x19 m=>
  bp (pur (bin .lss false true .int p4 x19) m) fun x20 m=>
  brb x20
  (Qmd G (Q42 G i) p0 p4 p1 m)
  (Qmc G p0 p1 m)
def Qme (G:Gt)(p4 p0 p1:V)(m:M):R:=
  Q42 G G.rds p4 p0 p1 m
def Qfb (G:Gt)(p0 p1:V)(m:M):R:=
  Qme G (.int .i64 0) p0 p1 m
theorem Q17s (G:Gt)(a0 a1:V)(m:M):ef G Tryz.f91 [a0,a1] m = Qfb G a0 a1 m:=
  evFn_of (r:=fun r m=>Qfb G (r 0) (r 1) m) rfl rfl (tr (tr (seqQ (f:=fun r m=>Qmc G (r 0) (r 1) m) (fun r m=>by kernel_rfl)) (seqQ (f:=fun r m=>Qme G (r 4) (r 0) (r 1) m) (tr (blockQ (loopQ (fun i r m=>Q42 G i (r 4) (r 0) (r 1) m) (fun _ _=>rfl) (fun i0=>tr (seqQ (f:=fun r m=>Qmd G (Q42 G i0) (r 0) (r 4) (r 1) m) (tr (seqQ (f:=fun r m=>Qcd G (Q42 G i0) (r 4) (r 0) (r 1) m) (fun r m=>by kernel_rfl)) (fun r m=>by kernel_rfl))) (fun r m=>by kernel_rfl)))) (fun r m=>by kernel_rfl)))) (fun r m=>by kernel_rfl)) m
def Q17l:En:=⟨Q54,Tryz.f91,Tryz.func91,by kernel_rfl,arg2 Qfb,okarg2 Q17s⟩
def Qdf (G:Gt)(p0 p2 p1:V)(m:M):R:=
  bp (G.tab Q54 [p0,p2] m) fun x0 m=>
  bp (pur (aNilCheck p0) m) fun x1 m=>
  bp (pur (aFieldAddr 12 x1) m) fun x2 m=>
  bp (unt (aStore 1 x2 p1 m)) fun _ m=>
  bp (pur (aNilCheck p0) m) fun x3 m=>
  bp (pur (aFieldAddr 13 x3) m) fun x4 m=>
  bp (pur (aLoad false 1 x4 m) m) fun x5 m=>
  bp (pur (bin .add true true .int x5 (.int .i64 1)) m) fun x6 m=>
  bp (pur (aNilCheck p0) m) fun x7 m=>
  bp (pur (aFieldAddr 13 x7) m) fun x8 m=>
  bp (unt (aStore 1 x8 x6 m)) fun _ m=>
  some (.tuple ⟨[]⟩,m)
theorem Q16z (G:Gt)(a0 a1 a2:V)(m:M):ef G Tryz.f92 [a0,a1,a2] m = Qdf G a0 a2 a1 m:=
  evFn_of (r:=fun r m=>Qdf G (r 0) (r 2) (r 1) m) rfl rfl (fun r m=>by kernel_rfl) m
def Q16i:En:=⟨Q7p,Tryz.f92,Tryz.func92,by kernel_rfl,arg3 (fun G a0 a1 a2 m=>Qdf G a0 a2 a1 m),okarg3 Q16z⟩
def Qi (G:Gt)(p0 p6:V)(m:M):R:=
  bp (G.tab Qcc [p0,p6] m) fun x0 m=>
  some (.tuple ⟨[]⟩,m)
def Ql4 (G:Gt)(p6 p2 p1 p0:V)(m:M):R:=
  bp (pur (bin .eql true true .str p6 (.string ⟨#[118,114,102]⟩)) m) fun x1 m=>
  brb x1
  (bp (G.tab Q2g [p1] m) fun x2 m=>
  bp (pur (aNilCheck p2) m) fun x3 m=>
  bp (pur (aFieldAddr 1 x3) m) fun x4 m=>
  bp (unt (aStore 1 x4 x2 m)) fun _ m=>
  Qi G p0 p6 m)
  (bp (pur (bin .eql true true .str p6 (.string ⟨#[97,100,100,114,101,115,115]⟩)) m) fun x5 m=>
  brb x5
  (bp (G.tab Q71 [p1] m) fun x6 m=>
  bp (pur (aNilCheck p2) m) fun x7 m=>
  bp (pur (aFieldAddr 2 x7) m) fun x8 m=>
  bp (unt (aStore 1 x8 x6 m)) fun _ m=>
  bp (G.tab Qst [p1,(.bool false),(.int .i64 1)] m) fun x9 m=>
  bp (pur (aNilCheck p2) m) fun x10 m=>
  bp (pur (aFieldAddr 3 x10) m) fun x11 m=>
  bp (unt (aStore 1 x11 x9 m)) fun _ m=>
  Qi G p0 p6 m)
  (bp (pur (bin .eql true true .str p6 (.string ⟨#[102,105,108,116,101,114]⟩)) m) fun x12 m=>
  brb x12
  (bp (G.tab Q2g [p1] m) fun x13 m=>
  bp (G.tab Q35 [p1,(.string ⟨#[105,110]⟩),(.string ⟨#[111,117,116]⟩),(.string ⟨#[111,117,116]⟩)] m) fun x14 m=>
  bp (pur (bin .add true true .str p6 (.string ⟨#[32]⟩)) m) fun x15 m=>
  bp (pur (bin .add false true .str x15 x14) m) fun x16 m=>
  bp (pur (bin .eql true true .str x14 (.string ⟨#[105,110]⟩)) m) fun x17 m=>
  brb x17
  (bp (pur (aNilCheck p2) m) fun x18 m=>
  bp (pur (aFieldAddr 5 x18) m) fun x19 m=>
  bp (unt (aStore 1 x19 x13 m)) fun _ m=>
  Qi G p0 x16 m)
  (bp (pur (aNilCheck p2) m) fun x20 m=>
  bp (pur (aFieldAddr 6 x20) m) fun x21 m=>
  bp (unt (aStore 1 x21 x13 m)) fun _ m=>
  Qi G p0 x16 m))
  (bp (pur (bin .eql true true .str p6 (.string ⟨#[110,97,116]⟩)) m) fun x22 m=>
  brb x22
  (bp (pur (aNilCheck p2) m) fun x23 m=>
  bp (pur (aFieldAddr 7 x23) m) fun x24 m=>
  bp (unt (aStore 1 x24 (.int .u8 2) m)) fun _ m=>
  bp (G.tab Q35 [p1,(.string ⟨#[105,110,115,105,100,101]⟩),(.string ⟨#[111,117,116,115,105,100,101]⟩),(.string ⟨#[111,117,116,115,105,100,101]⟩)] m) fun x25 m=>
  bp (pur (bin .eql true true .str x25 (.string ⟨#[105,110,115,105,100,101]⟩)) m) fun x26 m=>
  brb x26
  (bp (pur (aNilCheck p2) m) fun x27 m=>
  bp (pur (aFieldAddr 7 x27) m) fun x28 m=>
  bp (unt (aStore 1 x28 (.int .u8 1) m)) fun _ m=>
  Qi G p0 p6 m)
  (Qi G p0 p6 m))
  (bp (pur (bin .eql true true .str p6 (.string ⟨#[111,115,112,102]⟩)) m) fun x29 m=>
  brb x29
  (bp (G.tab Q35 [p1,(.string ⟨#[97,114,101,97]⟩),(.string ⟨#[99,111,115,116]⟩),(.string ⟨#[112,97,115,115,105,118,101]⟩)] m) fun x30 m=>
  bp (pur (bin .add true true .str p6 (.string ⟨#[32]⟩)) m) fun x31 m=>
  bp (pur (bin .add false true .str x31 x30) m) fun x32 m=>
  bp (pur (bin .eql true true .str x30 (.string ⟨#[97,114,101,97]⟩)) m) fun x33 m=>
  brb x33
  (bp (G.tab Q7q [p1,(.int .i64 0),(.int .i64 16777216)] m) fun x34 m=>
  bp (pur (aNilCheck p2) m) fun x35 m=>
  bp (pur (aFieldAddr 8 x35) m) fun x36 m=>
  bp (unt (aStore 1 x36 x34 m)) fun _ m=>
  Qi G p0 x32 m)
  (bp (pur (bin .eql true true .str x30 (.string ⟨#[99,111,115,116]⟩)) m) fun x37 m=>
  brb x37
  (bp (G.tab Q7q [p1,(.int .i64 1),(.int .i64 65535)] m) fun x38 m=>
  bp (pur (aNilCheck p2) m) fun x39 m=>
  bp (pur (aFieldAddr 9 x39) m) fun x40 m=>
  bp (unt (aStore 1 x40 x38 m)) fun _ m=>
  Qi G p0 x32 m)
  (bp (pur (bin .eql true true .str x30 (.string ⟨#[112,97,115,115,105,118,101]⟩)) m) fun x41 m=>
  brb x41
  (bp (pur (aNilCheck p2) m) fun x42 m=>
  bp (pur (aFieldAddr 10 x42) m) fun x43 m=>
  bp (unt (aStore 1 x43 (.bool true) m)) fun _ m=>
  Qi G p0 x32 m)
  (Qi G p0 x32 m))))
  (bp (pur (bin .eql true true .str p6 (.string ⟨#[115,104,117,116,100,111,119,110]⟩)) m) fun x44 m=>
  brb x44
  (bp (pur (aNilCheck p2) m) fun x45 m=>
  bp (pur (aFieldAddr 4 x45) m) fun x46 m=>
  bp (unt (aStore 1 x46 (.bool true) m)) fun _ m=>
  Qi G p0 p6 m)
  (bp (G.tab Q36 [p1,(.int .i64 130)] m) fun x47 m=>
  Qi G p0 p6 m))))))
def Qdg (G:Gt)(p1 p2 p0:V)(m:M):R:=
  bp (G.tab Q3m [p1] m) fun x48 m=>
  Ql4 G x48 p2 p1 p0 m
theorem Q170 (G:Gt)(a0 a1 a2:V)(m:M):ef G Tryz.f98 [a0,a1,a2] m = Qdg G a1 a2 a0 m:=
  evFn_of (r:=fun r m=>Qdg G (r 1) (r 2) (r 0) m) rfl rfl (tr (seqQ (f:=fun r m=>Ql4 G (r 6) (r 2) (r 1) (r 0) m) (tr (seqQ (f:=fun r m=>Qi G (r 0) (r 6) m) (fun r m=>by kernel_rfl)) (fun r m=>by kernel_rfl))) (fun r m=>by kernel_rfl)) m
def Q16j:En:=⟨Qo1,Tryz.f98,Tryz.func98,by kernel_rfl,arg3 (fun G a0 a1 a2 m=>Qdg G a1 a2 a0 m),okarg3 Q170⟩
def Qb4 (G:Gt)(p4:V)(m:M):R:=
  some (p4,m)
def Qjv (G:Gt)(p5 p0 p4:V)(m:M):R:=
  bp (pur (bin .neq true true .int p5 (.int .i64 0)) m) fun x0 m=>
  brb x0
  (bp (G.tab Q36 [p0,(.int .i64 130)] m) fun x1 m=>
  Qb4 G p4 m)
  (Qb4 G p4 m)
def Qjw (G:Gt)(p3 p0:V)(m:M):R:=
  bp (G.tab Q12x [p3] m) fun x2 m=>
  bp (pur (aExtract x2 0) m) fun x3 m=>
  bp (pur (aExtract x2 1) m) fun x4 m=>
  Qjv G x4 p0 x3 m
def Qjx (G:Gt)(p0 p3:V)(m:M):R:=
  bp (pur (aNilCheck p0) m) fun x5 m=>
  bp (pur (aFieldAddr 4 x5) m) fun x6 m=>
  bp (pur (aLoad false 1 x6 m) m) fun x7 m=>
  bp (pur (bin .neq true true .int x7 (.int .i64 0)) m) fun x8 m=>
  brb x8
  (some ((.int .u32 0),m))
  (Qjw G p3 p0 m)
def Qjy (G:Gt)(p0:V)(m:M):R:=
  bp (G.tab Q3m [p0] m) fun x9 m=>
  Qjx G p0 x9 m
def Qce (G:Gt)(p0:V)(m:M):R:=
  Qjy G p0 m
theorem Q15f (G:Gt)(a0:V)(m:M):ef G Tryz.f101 [a0] m = Qce G a0 m:=
  evFn_of (r:=fun r m=>Qce G (r 0) m) rfl rfl (tr (seqQ (f:=fun r m=>Qjy G (r 0) m) (tr (seqQ (f:=fun r m=>Qjx G (r 0) (r 3) m) (tr (seqQ (f:=fun r m=>Qjw G (r 3) (r 0) m) (tr (seqQ (f:=fun r m=>Qjv G (r 5) (r 0) (r 4) m) (tr (seqQ (f:=fun r m=>Qb4 G (r 4) m) (fun r m=>by kernel_rfl)) (fun r m=>by kernel_rfl))) (fun r m=>by kernel_rfl))) (fun r m=>by kernel_rfl))) (fun r m=>by kernel_rfl))) (fun r m=>by kernel_rfl)) m
def Q158:En:=⟨Q71,Tryz.f101,Tryz.func101,by kernel_rfl,arg1 Qce,okarg1 Q15f⟩
def Qcf (G:Gt)(p0 p1:V)(m:M):R:=
  bp (pur (aNilCheck p0) m) fun x0 m=>
  bp (pur (aFieldAddr 13 x0) m) fun x1 m=>
  bp (pur (aLoad false 1 x1 m) m) fun x2 m=>
  bp (G.tab Q111 [x2] m) fun x3 m=>
  bp (pur (bin .add true true .str (.string ⟨#[98,108,111,99,107,32]⟩) x3) m) fun x4 m=>
  bp (pur (bin .add true true .str x4 (.string ⟨#[58,32]⟩)) m) fun x5 m=>
  bp (pur (bin .add false true .str x5 p1) m) fun x6 m=>
  bp (G.tab Q54 [p0,x6] m) fun x7 m=>
  some (.tuple ⟨[]⟩,m)
theorem Q15g (G:Gt)(a0 a1:V)(m:M):ef G Tryz.f102 [a0,a1] m = Qcf G a0 a1 m:=
  evFn_of (r:=fun r m=>Qcf G (r 0) (r 1) m) rfl rfl (fun r m=>by kernel_rfl) m
def Q15b:En:=⟨Qcc,Tryz.f102,Tryz.func102,by kernel_rfl,arg2 Qcf,okarg2 Q15g⟩
end
end Go.Ab.Sh

set_option linter.unusedVariables false
set_option maxRecDepth 100000
namespace Go.Ab.Sh
open Go Go.Ab Go.Proofs
noncomputable section
def Q1c1 (G:Gt)(m:M):R:=
  some (.tuple ⟨[(.string ⟨#[]⟩),(.int .i64 0)]⟩,m)
def Q1c2 (G:Gt)(k0:V → V → V → M → R)(p22 p21 p20:V)(m:M):R:=
  bp (pur (bin .add true true .int p22 (.int .i64 1)) m) fun x0 m=>
  k0 x0 p21 p20 m
def Q104 (G:Gt)(k0:V → V → V → M → R):Nat → V → V → V → V → V → V → M → R
 | 0,_,_,_,_,_,_,_=>none
 | i + 1,p40,p39,p5,p22,p21,p20,m=>
  bp (pur (bin .lss false true .int p40 p39) m) fun x1 m=>
  brb x1
  (bp (pur (aFieldAddr 3 p5) m) fun x2 m=>
  bp (pur (aLoad false 1 x2 m) m) fun x3 m=>
  bp (evCall G.tab x3 [p40] m) fun x4 m=>
  bp (pur (bin .eql true true .int x4 (.int .i64 1)) m) fun x5 m=>
  brb x5
  (bp (pur (aFieldAddr 0 p5) m) fun x6 m=>
  bp (pur (aLoad false 1 x6 m) m) fun x7 m=>
  bp (pur (bin .add true true .str x7 (.string ⟨#[32]⟩)) m) fun x8 m=>
  bp (G.tab Q15h [p40] m) fun x9 m=>
  ckB (again (pur (aLoad false 1 x6 m) m) x7 && true)
  (bp (pur (bin .add false true .str x8 x9) m) fun x10 m=>
  some (.tuple ⟨[x10,(.int .i64 121)]⟩,m)))
  (bp (pur (bin .eql true true .int x4 (.int .i64 2)) m) fun x11 m=>
  brb x11
  (bp (pur (aFieldAddr 0 p5) m) fun x12 m=>
  bp (pur (aLoad false 1 x12 m) m) fun x13 m=>
  bp (pur (bin .add true true .str x13 (.string ⟨#[32]⟩)) m) fun x14 m=>
  bp (G.tab Q15h [p40] m) fun x15 m=>
  ckB (again (pur (aLoad false 1 x12 m) m) x13 && true)
  (bp (pur (bin .add false true .str x14 x15) m) fun x16 m=>
  some (.tuple ⟨[x16,(.int .i64 120)]⟩,m)))
  (bp (pur (bin .add true true .int p40 (.int .i64 1)) m) fun x17 m=>
  (Q104 G k0 i) x17 p39 p5 p22 p21 p20 m)))
  (Q1c2 G k0 p22 p21 p20 m)
def Q1aa (G:Gt)(k0:V → V → V → M → R)(p40 p39 p5 p22 p21 p20:V)(m:M):R:=
  Q104 G k0 G.rds p40 p39 p5 p22 p21 p20 m
def Q1ab (G:Gt)(k0:V → V → V → M → R)(p5 p22 p21 p20:V)(m:M):R:=
  bp (pur (aFieldAddr 1 p5) m) fun x18 m=>
  bp (pur (aLoad false 1 x18 m) m) fun x19 m=>
  Q1aa G k0 (.int .i64 0) x19 p5 p22 p21 p20 m
def Q1c3 (G:Gt)(k0:V → V → V → M → R)(p5 p22 p21 p20:V)(m:M):R:=
  bp (pur (aFieldAddr 1 p5) m) fun x20 m=>
  bp (pur (aLoad false 1 x20 m) m) fun x21 m=>
  bp (pur (aFieldAddr 2 p5) m) fun x22 m=>
  bp (pur (aLoad false 1 x22 m) m) fun x23 m=>
  bp (pur (bin .gtr false true .int x21 x23) m) fun x24 m=>
  brb x24
  (bp (pur (aFieldAddr 0 p5) m) fun x25 m=>
  bp (pur (aLoad false 1 x25 m) m) fun x26 m=>
  bp (pur (bin .add true true .str x26 (.string ⟨#[32]⟩)) m) fun x27 m=>
  bp (pur (aFieldAddr 2 p5) m) fun x28 m=>
  bp (pur (aLoad false 1 x28 m) m) fun x29 m=>
  bp (G.tab Q15h [x29] m) fun x30 m=>
  ckB (again (pur (aLoad false 1 x25 m) m) x26 && true)
  (bp (pur (bin .add false true .str x27 x30) m) fun x31 m=>
  some (.tuple ⟨[x31,(.int .i64 121)]⟩,m)))
  (Q1ab G k0 p5 p22 p21 p20 m)
def Q1c4 (G:Gt)(k0:V → V → V → M → R)(p20 p22 p21:V)(m:M):R:=
  bp (pur (aIndexAddrSl 4 p20 p22) m) fun x32 m=>
  bp (pur (aLoad true 4 x32 m) m) fun x33 m=>
  bp (some (aNew Q1jp Q55 m)) fun x34 m=>
  bp (unt (aStore 4 x34 x33 m)) fun _ m=>
  Q1c3 G k0 x34 p22 p21 p20 m
def Q1c5 (G:Gt)(k0:V → V → V → M → R)(p23 p20 p22 p21:V)(m:M):R:=
  brb p23
  (Q1c4 G k0 p20 p22 p21 m)
  (Q1c1 G m)
def Q48 (G:Gt):Nat → V → V → V → M → R
 | 0,_,_,_,_=>none
 | i + 1,p22,p21,p20,m=>
  bp (pur (bin .lss false true .int p22 p21) m) fun x35 m=>
  Q1c5 G (Q48 G i) x35 p20 p22 p21 m
def Q1c6 (G:Gt)(p22 p21 p20:V)(m:M):R:=
  Q48 G G.rds p22 p21 p20 m
def Q1c7 (G:Gt)(p1:V)(m:M):R:=
  bp (pur (aLoad true 12 p1 m) m) fun x36 m=>
  bp (G.tab Q1c8 [x36] m) fun x37 m=>
  bp (pur (lenK 1 x37 m) m) fun x38 m=>
  Q1c6 G (.int .i64 0) x38 x37 m
def Q105 (G:Gt)(p18 p1:V)(m:M):R:=
  brb p18
  (some (.tuple ⟨[(.string ⟨#[107,105,110,100]⟩),(.int .i64 121)]⟩,m))
  (Q1c7 G p1 m)
def Q1c9 (G:Gt)(p1:V)(m:M):R:=
  bp (pur (aFieldAddr 1 p1) m) fun x39 m=>
  bp (pur (aLoad false 1 x39 m) m) fun x40 m=>
  bp (pur (bin .neq true true .int x40 (.int .u8 1)) m) fun x41 m=>
  brb x41
  (bp (pur (aFieldAddr 1 p1) m) fun x42 m=>
  bp (pur (aLoad false 1 x42 m) m) fun x43 m=>
  bp (pur (bin .neq true true .int x43 (.int .u8 2)) m) fun x44 m=>
  Q105 G x44 p1 m)
  (Q105 G (.bool false) p1 m)
def Q1ca (G:Gt)(p1:V)(m:M):R:=
  bp (pur (aFieldAddr 0 p1) m) fun x45 m=>
  bp (pur (aLoad false 1 x45 m) m) fun x46 m=>
  bp (G.tab Q1ac [x46] m) fun x47 m=>
  bp (pur (un .not x47) m) fun x48 m=>
  brb x48
  (some (.tuple ⟨[(.string ⟨#[110,97,109,101]⟩),(.int .i64 121)]⟩,m))
  (Q1c9 G p1 m)
def Q17t (G:Gt)(p0:V)(m:M):R:=
  bp (some (aNew Qx (Value.cells p0).toList m)) fun x49 m=>
  Q1ca G x49 m
theorem Q1r6 (G:Gt)(a0:V)(m:M):ef G Tryz.f105 [a0] m = Q17t G a0 m:=
  evFn_of (r:=fun r m=>Q17t G (r 0) m) rfl rfl (tr (seqQ (f:=fun r m=>Q1ca G (r 1) m) (tr (seqQ (f:=fun r m=>Q1c9 G (r 1) m) (tr (tr (seqQ (f:=fun r m=>Q1c7 G (r 1) m) (tr (tr (seqQ (f:=fun r m=>Q1c1 G m) (fun r m=>by kernel_rfl)) (seqQ (f:=fun r m=>Q1c6 G (r 22) (r 21) (r 20) m) (tr (blockQ (loopQ (fun i r m=>Q48 G i (r 22) (r 21) (r 20) m) (fun _ _=>rfl) (fun i0=>tr (seqQ (f:=fun r m=>Q1c5 G (Q48 G i0) (r 23) (r 20) (r 22) (r 21) m) (tr (seqQ (f:=fun r m=>Q1c4 G (Q48 G i0) (r 20) (r 22) (r 21) m) (tr (tr (seqQ (f:=fun r m=>Q1c2 G (Q48 G i0) (r 22) (r 21) (r 20) m) (fun r m=>by kernel_rfl)) (blockQ (seqQ (f:=fun r m=>Q1c3 G (Q48 G i0) (r 5) (r 22) (r 21) (r 20) m) (tr (seqQ (f:=fun r m=>Q1ab G (Q48 G i0) (r 5) (r 22) (r 21) (r 20) m) (tr (seqQ (f:=fun r m=>Q1aa G (Q48 G i0) (r 40) (r 39) (r 5) (r 22) (r 21) (r 20) m) (tr (blockQ (loopQ (fun i r m=>Q104 G (Q48 G i0) i (r 40) (r 39) (r 5) (r 22) (r 21) (r 20) m) (fun _ _=>rfl) (fun i1=>fun r m=>by kernel_rfl))) (fun r m=>by kernel_rfl))) (fun r m=>by kernel_rfl))) (fun r m=>by kernel_rfl))))) (fun r m=>by kernel_rfl))) (fun r m=>by kernel_rfl))) (fun r m=>by kernel_rfl)))) (fun r m=>by kernel_rfl)))) (fun r m=>by kernel_rfl))) (seqQ (f:=fun r m=>Q105 G (r 18) (r 1) m) (fun r m=>by kernel_rfl))) (fun r m=>by kernel_rfl))) (fun r m=>by kernel_rfl))) (fun r m=>by kernel_rfl)) m
def Q1qy:En:=⟨Q1gl,Tryz.f105,Tryz.func105,by kernel_rfl,arg1 Q17t,okarg1 Q1r6⟩
def Q12y (G:Gt)(p2:V)(m:M):R:=
  some (p2,m)
def Q1cb (G:Gt)(p1:V)(m:M):R:=
  bp (pur (aFieldAddr 4 p1) m) fun x0 m=>
  bp (pur (aLoad false 1 x0 m) m) fun x1 m=>
  bp (pur (un .not x1) m) fun x2 m=>
  brb x2
  (bp (pur (aLoad true 11 p1 m) m) fun x3 m=>
  bp (G.tab Q18o [x3] m) fun x4 m=>
  Q12y G x4 m)
  (Q12y G (.bool false) m)
def Q17u (G:Gt)(p0:V)(m:M):R:=
  bp (some (aNew Q1r (Value.cells p0).toList m)) fun x5 m=>
  Q1cb G x5 m
theorem Q1r7 (G:Gt)(a0:V)(m:M):ef G Tryz.f106 [a0] m = Q17u G a0 m:=
  evFn_of (r:=fun r m=>Q17u G (r 0) m) rfl rfl (tr (seqQ (f:=fun r m=>Q1cb G (r 1) m) (tr (seqQ (f:=fun r m=>Q12y G (r 2) m) (fun r m=>by kernel_rfl)) (fun r m=>by kernel_rfl))) (fun r m=>by kernel_rfl)) m
def Q1r0:En:=⟨Q1gk,Tryz.f106,Tryz.func106,by kernel_rfl,arg1 Q17u,okarg1 Q1r7⟩
def Q1ad (G:Gt)(p0:V)(m:M):R:=
  bp (some (aNew Qx (Value.cells p0).toList m)) fun x0 m=>
  bp (some (aNew Qx Q1b m)) fun x1 m=>
  bp (pur (aLoad true 12 x0 m) m) fun x2 m=>
  bp (G.tab Q1jq [x2] m) fun x3 m=>
  bp (unt (aStore 12 x0 x3 m)) fun _ m=>
  bp (pur (aFieldAddr 2 x0) m) fun x4 m=>
  bp (pur (aLoad false 1 x4 m) m) fun x5 m=>
  bp (G.tab Qjz [x5] m) fun x6 m=>
  bp (pur (aFieldAddr 3 x0) m) fun x7 m=>
  bp (pur (aLoad false 1 x7 m) m) fun x8 m=>
  bp (G.tab Qsu [x8,(.func (.func Q12z) #[] #[])] m) fun x9 m=>
  bp (pur (aFieldAddr 4 x0) m) fun x10 m=>
  bp (pur (aLoad false 1 x10 m) m) fun x11 m=>
  bp (G.tab Qpz [x11,(.func (.func Q1ae) #[] #[])] m) fun x12 m=>
  bp (pur (aFieldAddr 7 x0) m) fun x13 m=>
  bp (pur (aLoad false 1 x13 m) m) fun x14 m=>
  bp (G.tab Qk0 [x14,(.func (.func Q171) #[] #[])] m) fun x15 m=>
  bp (pur (aFieldAddr 8 x0) m) fun x16 m=>
  bp (pur (aLoad false 1 x16 m) m) fun x17 m=>
  bp (G.tab Qgv [x17,(.func (.func Q14o) #[] #[])] m) fun x18 m=>
  bp (pur (aFieldAddr 9 x0) m) fun x19 m=>
  bp (pur (aLoad false 1 x19 m) m) fun x20 m=>
  bp (G.tab Qq0 [x20,(.func (.func Q1af) #[] #[])] m) fun x21 m=>
  bp (pur (aFieldAddr 6 x0) m) fun x22 m=>
  bp (pur (aLoad false 1 x22 m) m) fun x23 m=>
  bp (G.tab Q68 [x23,(.func (.func Q1li) #[] #[])] m) fun x24 m=>
  bp (pur (aLoad true 12 x0 m) m) fun x25 m=>
  bp (unt (aStore 12 x1 x25 m)) fun _ m=>
  ob (ob (aLoad true 12 x1 m) fun v=>ob (some []) fun l=>some (v :: l)) fun l=>some (resVal l,m)
theorem Q1sk (G:Gt)(a0:V)(m:M):ef G Tryz.f107 [a0] m = Q1ad G a0 m:=
  evFn_of (r:=fun r m=>Q1ad G (r 0) m) rfl rfl (fun r m=>by kernel_rfl) m
def Q1s9:En:=⟨Q1jm,Tryz.f107,Tryz.func107,by kernel_rfl,arg1 Q1ad,okarg1 Q1sk⟩
def Qfc (G:Gt)(p1 p0:V)(m:M):R:=
  bp (some (aNew Q1bn (Value.cells p1).toList m)) fun x0 m=>
  bp (G.tab Q69 [p0,(.func (.func Qmf) ⟨[]⟩ ⟨[x0]⟩)] m) fun x1 m=>
  some (.tuple ⟨[]⟩,m)
theorem Q17v (G:Gt)(a0 a1:V)(m:M):ef G Tryz.f108 [a0,a1] m = Qfc G a1 a0 m:=
  evFn_of (r:=fun r m=>Qfc G (r 1) (r 0) m) rfl rfl (fun r m=>by kernel_rfl) m
def Q17n:En:=⟨Qpy,Tryz.f108,Tryz.func108,by kernel_rfl,arg2 (fun G a0 a1 m=>Qfc G a1 a0 m),okarg2 Q17v⟩
def Qty (G:Gt)(p0:V)(m:M):R:=
  bp (some (aNew Qx (Value.cells p0).toList m)) fun x0 m=>
  bp (pur (aFieldAddr 0 x0) m) fun x1 m=>
  bp (pur (aLoad false 1 x1 m) m) fun x2 m=>
  some (x2,m)
theorem Q1jr (G:Gt)(a0:V)(m:M):ef G Tryz.f109 [a0] m = Qty G a0 m:=
  evFn_of (r:=fun r m=>Qty G (r 0) m) rfl rfl (fun r m=>by kernel_rfl) m
def Q1ja:En:=⟨Q16p,Tryz.f109,Tryz.func109,by kernel_rfl,arg1 Qty,okarg1 Q1jr⟩
def Q130 (G:Gt)(p11 p4 p0 p1:V)(m:M):R:=
  brb p11
  (bp (pur (aBuild Q2p [(0,1),(1,1)] []) m) fun x0 m=>
  bp (unt (aStore 2 p4 x0 m)) fun _ m=>
  ob (ob (aLoad true 2 p4 m) fun v=>ob (some [(.int .i64 1)]) fun l=>some (v :: l)) fun l=>some (resVal l,m))
  (bp (G.tab Q17w [p1] m) fun x1 m=>
  bp (pur (bin .andNot false true .int p0 x1) m) fun x2 m=>
  bp (pur (aBuild Q2p [(0,1),(1,1)] [(0,x2),(1,p1)]) m) fun x3 m=>
  bp (unt (aStore 2 p4 x3 m)) fun _ m=>
  ob (ob (aLoad true 2 p4 m) fun v=>ob (some [(.int .i64 0)]) fun l=>some (v :: l)) fun l=>some (resVal l,m))
def Q1cc (G:Gt)(p1 p4 p0:V)(m:M):R:=
  bp (pur (bin .lss true true .int p1 (.int .i64 0)) m) fun x4 m=>
  brb x4
  (Q130 G (.bool true) p4 p0 p1 m)
  (bp (pur (bin .gtr true true .int p1 (.int .i64 32)) m) fun x5 m=>
  Q130 G x5 p4 p0 p1 m)
def Q17x (G:Gt)(p1 p0:V)(m:M):R:=
  bp (some (aNew Q66 Q2p m)) fun x6 m=>
  Q1cc G p1 x6 p0 m
theorem Q1r8 (G:Gt)(a0 a1:V)(m:M):ef G Tryz.f110 [a0,a1] m = Q17x G a1 a0 m:=
  evFn_of (r:=fun r m=>Q17x G (r 1) (r 0) m) rfl rfl (tr (seqQ (f:=fun r m=>Q1cc G (r 1) (r 4) (r 0) m) (tr (tr seqD (seqQ (f:=fun r m=>Q130 G (r 11) (r 4) (r 0) (r 1) m) (fun r m=>by kernel_rfl))) (fun r m=>by kernel_rfl))) (fun r m=>by kernel_rfl)) m
def Q1r2:En:=⟨Q1gm,Tryz.f110,Tryz.func110,by kernel_rfl,arg2 (fun G a0 a1 m=>Q17x G a1 a0 m),okarg2 Q1r8⟩
def Q112 (G:Gt)(k0:V → V → V → V → M → R)(p13 p12 p11 p0:V)(m:M):R:=
  bp (pur (bin .add true true .int p13 (.int .i64 1)) m) fun x0 m=>
  k0 x0 p12 p11 p0 m
def Qxy (G:Gt)(k1:V → V → V → V → V → V → V → V → M → R)(p21 p20 p19 p0 p3 p13 p12 p11:V)(m:M):R:=
  bp (pur (bin .add true true .int p21 (.int .i64 1)) m) fun x1 m=>
  k1 x1 p20 p19 p0 p3 p13 p12 p11 m
def Qko (G:Gt)(k1:V → V → V → V → V → V → V → V → M → R):Nat → V → V → V → V → V → V → V → V → V → V → V → M → R
 | 0,_,_,_,_,_,_,_,_,_,_,_,_=>none
 | i + 1,p29,p28,p0,p3,p5,p21,p20,p19,p13,p12,p11,m=>
  bp (pur (bin .lss false true .int p29 p28) m) fun x2 m=>
  brb x2
  (bp (evCall G.tab p0 [p3,p5,p29] m) fun x3 m=>
  bp (pur (bin .add true true .int p29 (.int .i64 1)) m) fun x4 m=>
  (Qko G k1 i) x4 p28 p0 p3 p5 p21 p20 p19 p13 p12 p11 m)
  (Qxy G k1 p21 p20 p19 p0 p3 p13 p12 p11 m)
def Qxz (G:Gt)(k1:V → V → V → V → V → V → V → V → M → R)(p29 p28 p0 p3 p5 p21 p20 p19 p13 p12 p11:V)(m:M):R:=
  Qko G k1 G.rds p29 p28 p0 p3 p5 p21 p20 p19 p13 p12 p11 m
def Qy0 (G:Gt)(k1:V → V → V → V → V → V → V → V → M → R)(p6 p0 p3 p5 p21 p20 p19 p13 p12 p11:V)(m:M):R:=
  bp (pur (aFieldAddr 4 p6) m) fun x5 m=>
  bp (pur (aLoad false 1 x5 m) m) fun x6 m=>
  bp (pur (lenK 1 x6 m) m) fun x7 m=>
  Qxz G k1 (.int .i64 0) x7 p0 p3 p5 p21 p20 p19 p13 p12 p11 m
def Q113 (G:Gt)(k1:V → V → V → V → V → V → V → V → M → R)(p21 p19 p0 p3 p20 p13 p12 p11:V)(m:M):R:=
  bp (pur (aIndexAddrSl 6 p19 p21) m) fun x8 m=>
  bp (pur (aLoad true 6 x8 m) m) fun x9 m=>
  bp (some (aNew Qtu Q10t m)) fun x10 m=>
  bp (unt (aStore 6 x10 x9 m)) fun _ m=>
  Qy0 G k1 x10 p0 p3 p21 p21 p20 p19 p13 p12 p11 m
def Q114 (G:Gt)(k1:V → V → V → V → V → V → V → V → M → R)(k0:V → V → V → V → M → R)(p22 p21 p19 p0 p3 p20 p13 p12 p11:V)(m:M):R:=
  brb p22
  (Q113 G k1 p21 p19 p0 p3 p20 p13 p12 p11 m)
  (Q112 G k0 p13 p12 p11 p0 m)
def Q2e (G:Gt)(k0:V → V → V → V → M → R):Nat → V → V → V → V → V → V → V → V → M → R
 | 0,_,_,_,_,_,_,_,_,_=>none
 | i + 1,p21,p20,p19,p0,p3,p13,p12,p11,m=>
  bp (pur (bin .lss false true .int p21 p20) m) fun x11 m=>
  Q114 G (Q2e G k0 i) k0 x11 p21 p19 p0 p3 p20 p13 p12 p11 m
def Q115 (G:Gt)(k0:V → V → V → V → M → R)(p21 p20 p19 p0 p3 p13 p12 p11:V)(m:M):R:=
  Q2e G k0 G.rds p21 p20 p19 p0 p3 p13 p12 p11 m
def Q116 (G:Gt)(k0:V → V → V → V → M → R)(p4 p0 p3 p13 p12 p11:V)(m:M):R:=
  bp (pur (aFieldAddr 11 p4) m) fun x12 m=>
  bp (pur (aLoad false 1 x12 m) m) fun x13 m=>
  bp (pur (lenK 1 x13 m) m) fun x14 m=>
  Q115 G k0 (.int .i64 0) x14 x13 p0 p3 p13 p12 p11 m
def Q117 (G:Gt)(k0:V → V → V → V → M → R)(p13 p11 p0 p12:V)(m:M):R:=
  bp (pur (aIndexAddrSl 12 p11 p13) m) fun x15 m=>
  bp (pur (aLoad true 12 x15 m) m) fun x16 m=>
  bp (some (aNew Qx Q1b m)) fun x17 m=>
  bp (unt (aStore 12 x17 x16 m)) fun _ m=>
  Q116 G k0 x17 p0 p13 p13 p12 p11 m
def Q118 (G:Gt)(k0:V → V → V → V → M → R)(p14 p13 p11 p0 p12:V)(m:M):R:=
  brb p14
  (Q117 G k0 p13 p11 p0 p12 m)
  (some (.tuple ⟨[]⟩,m))
def Qs (G:Gt):Nat → V → V → V → V → M → R
 | 0,_,_,_,_,_=>none
 | i + 1,p13,p12,p11,p0,m=>
  bp (pur (bin .lss false true .int p13 p12) m) fun x18 m=>
  Q118 G (Qs G i) x18 p13 p11 p0 p12 m
def Q119 (G:Gt)(p13 p12 p11 p0:V)(m:M):R:=
  Qs G G.rds p13 p12 p11 p0 m
def Qr0 (G:Gt)(p1 p0:V)(m:M):R:=
  bp (pur (aLoad false 1 p1 m) m) fun x19 m=>
  bp (pur (aNilCheck x19) m) fun x20 m=>
  bp (pur (aFieldAddr 0 x20) m) fun x21 m=>
  bp (pur (aLoad false 1 x21 m) m) fun x22 m=>
  bp (pur (lenK 1 x22 m) m) fun x23 m=>
  Q119 G (.int .i64 0) x23 x22 p0 m
theorem Q1ib (G:Gt)(a0 a1:V)(m:M):ef G Tryz.f111 [a0,a1] m = Qr0 G a1 a0 m:=
  evFn_of (r:=fun r m=>Qr0 G (r 1) (r 0) m) rfl rfl (tr (seqQ (f:=fun r m=>Q119 G (r 13) (r 12) (r 11) (r 0) m) (tr (blockQ (loopQ (fun i r m=>Qs G i (r 13) (r 12) (r 11) (r 0) m) (fun _ _=>rfl) (fun i0=>tr (seqQ (f:=fun r m=>Q118 G (Qs G i0) (r 14) (r 13) (r 11) (r 0) (r 12) m) (tr (seqQ (f:=fun r m=>Q117 G (Qs G i0) (r 13) (r 11) (r 0) (r 12) m) (tr (tr (seqQ (f:=fun r m=>Q112 G (Qs G i0) (r 13) (r 12) (r 11) (r 0) m) (fun r m=>by kernel_rfl)) (blockQ (seqQ (f:=fun r m=>Q116 G (Qs G i0) (r 4) (r 0) (r 3) (r 13) (r 12) (r 11) m) (tr (seqQ (f:=fun r m=>Q115 G (Qs G i0) (r 21) (r 20) (r 19) (r 0) (r 3) (r 13) (r 12) (r 11) m) (tr (blockQ (loopQ (fun i r m=>Q2e G (Qs G i0) i (r 21) (r 20) (r 19) (r 0) (r 3) (r 13) (r 12) (r 11) m) (fun _ _=>rfl) (fun i1=>tr (seqQ (f:=fun r m=>Q114 G (Q2e G (Qs G i0) i1) (Qs G i0) (r 22) (r 21) (r 19) (r 0) (r 3) (r 20) (r 13) (r 12) (r 11) m) (tr (seqQ (f:=fun r m=>Q113 G (Q2e G (Qs G i0) i1) (r 21) (r 19) (r 0) (r 3) (r 20) (r 13) (r 12) (r 11) m) (tr (tr (seqQ (f:=fun r m=>Qxy G (Q2e G (Qs G i0) i1) (r 21) (r 20) (r 19) (r 0) (r 3) (r 13) (r 12) (r 11) m) (fun r m=>by kernel_rfl)) (blockQ (seqQ (f:=fun r m=>Qy0 G (Q2e G (Qs G i0) i1) (r 6) (r 0) (r 3) (r 5) (r 21) (r 20) (r 19) (r 13) (r 12) (r 11) m) (tr (seqQ (f:=fun r m=>Qxz G (Q2e G (Qs G i0) i1) (r 29) (r 28) (r 0) (r 3) (r 5) (r 21) (r 20) (r 19) (r 13) (r 12) (r 11) m) (tr (blockQ (loopQ (fun i r m=>Qko G (Q2e G (Qs G i0) i1) i (r 29) (r 28) (r 0) (r 3) (r 5) (r 21) (r 20) (r 19) (r 13) (r 12) (r 11) m) (fun _ _=>rfl) (fun i2=>fun r m=>by kernel_rfl))) (fun r m=>by kernel_rfl))) (fun r m=>by kernel_rfl))))) (fun r m=>by kernel_rfl))) (fun r m=>by kernel_rfl))) (fun r m=>by kernel_rfl)))) (fun r m=>by kernel_rfl))) (fun r m=>by kernel_rfl))))) (fun r m=>by kernel_rfl))) (fun r m=>by kernel_rfl))) (fun r m=>by kernel_rfl)))) (fun r m=>by kernel_rfl))) (fun r m=>by kernel_rfl)) m
def Q1hx:En:=⟨Q14g,Tryz.f111,Tryz.func111,by kernel_rfl,arg2 (fun G a0 a1 m=>Qr0 G a1 a0 m),okarg2 Q1ib⟩
end
end Go.Ab.Sh
