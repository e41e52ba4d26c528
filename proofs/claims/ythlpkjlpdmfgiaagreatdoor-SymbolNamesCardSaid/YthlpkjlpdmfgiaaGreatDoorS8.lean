/-
  Functions of the program as plain definitions. No conditions.
-/
import Derived.Test.YthlpkjlpdmfgiaaGreatDoorAb5
import Derived.Test.YthlpkjlpdmfgiaaGreatDoorZ
import Derived.KernelRfl
import Derived.Test.YthlpkjlpdmfgiaaGreatDoorProg
set_option linter.unusedVariables false
set_option maxRecDepth 100000
namespace Go.Ab.Sh
open Go Go.Ab Go.Proofs
noncomputable section
def Q56 (G:Gt)(k0:V → V → V → V → V → V → V → M → R)(p97 p0 p1 p2 p13 p4 p3 p10 p11 p12:V)(m:M):R:=
  brb p97
  (bp (G.tab Qlz [p0,p1,p2,p13,p4] m) fun x0 m=>
  k0 p2 x0 p0 p4 p3 p10 p11 m)
  (bp (G.tab Qr4 [p0,p1,p2,p13,p4] m) fun x1 m=>
  bp (pur (aExtract x1 0) m) fun x2 m=>
  bp (pur (aExtract x1 1) m) fun x3 m=>
  bp (pur (bin .sub false true .int x2 p1) m) fun x4 m=>
  bp (pur (bin .sub false true .int p2 x2) m) fun x5 m=>
  bp (pur (bin .quo true true .int p12 (.int .i64 8)) m) fun x6 m=>
  bp (pur (bin .lss false true .int x4 x5) m) fun x7 m=>
  brb x7
  (bp (pur (bin .geq false true .int x4 x6) m) fun x8 m=>
  bp (G.tab Q39 [p0,p1,x2,p3,p4] m) fun x9 m=>
  bp (pur (bin .add true true .int x2 (.int .i64 1)) m) fun x10 m=>
  k0 p2 x10 p0 p4 p3 x8 x3 m)
  (bp (pur (bin .geq false true .int x5 x6) m) fun x11 m=>
  bp (pur (bin .add true true .int x2 (.int .i64 1)) m) fun x12 m=>
  bp (G.tab Q39 [p0,x12,p2,p3,p4] m) fun x13 m=>
  k0 x2 p1 p0 p4 p3 x11 x3 m))
def Q5f (G:Gt)(k0:V → V → V → V → V → V → V → M → R)(p1 p4 p0 p13 p2 p3 p10 p11 p12:V)(m:M):R:=
  bp (pur (bin .gtr true true .int p1 (.int .i64 0)) m) fun x14 m=>
  brt x14
  (bp (pur (bin .sub true true .int p1 (.int .i64 1)) m) fun x15 m=>
  bp (pur (aIndexAddrSl 3 p0 x15) m) fun x16 m=>
  bp (pur (aLoad true 3 x16 m) m) fun x17 m=>
  bp (pur (aIndexAddrSl 3 p0 p13) m) fun x18 m=>
  bp (pur (aLoad true 3 x18 m) m) fun x19 m=>
  bp (evCall G.tab p4 [x17,x19] m) fun x20 m=>
  bp (pur (bin .lss true true .int x20 (.int .i64 0)) m) fun x21 m=>
  bp (pur (un .not x21) m) fun x22 m=>
  Q56 G k0 x22 p0 p1 p2 p13 p4 p3 p10 p11 p12 m)
  (Q56 G k0 (.bool false) p0 p1 p2 p13 p4 p3 p10 p11 p12 m)
  (none)
def Q2o (G:Gt)(k0:V → V → V → V → V → V → V → M → R)(p75 p0 p1 p2 p4 p13 p3 p10 p11 p12:V)(m:M):R:=
  brb p75
  (bp (G.tab Qhc [p0,p1,p2,p4] m) fun x23 m=>
  brb x23
  (some (.tuple ⟨[]⟩,m))
  (Q5f G k0 p1 p4 p0 p13 p2 p3 p10 p11 p12 m))
  (Q5f G k0 p1 p4 p0 p13 p2 p3 p10 p11 p12 m)
def Q5g (G:Gt)(k0:V → V → V → V → V → V → V → M → R)(p10 p11 p14 p0 p1 p2 p4 p13 p3 p12:V)(m:M):R:=
  brb p10
  (brb p11
  (bp (pur (bin .eql true true .int p14 (.int .i64 1)) m) fun x24 m=>
  Q2o G k0 x24 p0 p1 p2 p4 p13 p3 p10 p11 p12 m)
  (Q2o G k0 (.bool false) p0 p1 p2 p4 p13 p3 p10 p11 p12 m))
  (Q2o G k0 (.bool false) p0 p1 p2 p4 p13 p3 p10 p11 p12 m)
def Qc3 (G:Gt)(k0:V → V → V → V → V → V → V → M → R)(p14 p0 p1 p2 p4 p13 p10 p11 p3 p12:V)(m:M):R:=
  bp (pur (bin .eql true true .int p14 (.int .i64 2)) m) fun x25 m=>
  brb x25
  (bp (G.tab Qno [p0,p1,p2,p4] m) fun x26 m=>
  bp (pur (bin .sub true true .int p2 (.int .i64 1)) m) fun x27 m=>
  bp (pur (bin .sub false true .int p13 p1) m) fun x28 m=>
  bp (pur (bin .sub false true .int x27 x28) m) fun x29 m=>
  Q5g G k0 p10 p11 (.int .i64 1) p0 p1 p2 p4 x29 p3 p12 m)
  (Q5g G k0 p10 p11 p14 p0 p1 p2 p4 p13 p3 p12 m)
def Q5h (G:Gt)(k0:V → V → V → V → V → V → V → M → R)(p0 p1 p2 p4 p10 p11 p3 p12:V)(m:M):R:=
  bp (G.tab Qp8 [p0,p1,p2,p4] m) fun x30 m=>
  bp (pur (aExtract x30 0) m) fun x31 m=>
  bp (pur (aExtract x30 1) m) fun x32 m=>
  Qc3 G k0 x32 p0 p1 p2 p4 x31 p10 p11 p3 p12 m
def Qc4 (G:Gt)(k0:V → V → V → V → V → V → V → M → R)(p10 p0 p1 p2 p4 p3 p11 p12:V)(m:M):R:=
  bp (pur (un .not p10) m) fun x33 m=>
  brb x33
  (bp (G.tab Qmk [p0,p1,p2,p4] m) fun x34 m=>
  bp (pur (bin .sub true true .int p3 (.int .i64 1)) m) fun x35 m=>
  Q5h G k0 p0 p1 p2 p4 p10 p11 x35 p12 m)
  (Q5h G k0 p0 p1 p2 p4 p10 p11 p3 p12 m)
def Qc5 (G:Gt)(k0:V → V → V → V → V → V → V → M → R)(p3 p0 p1 p2 p4 p10 p11 p12:V)(m:M):R:=
  bp (pur (bin .eql true true .int p3 (.int .i64 0)) m) fun x36 m=>
  brb x36
  (bp (G.tab Qt2 [p0,p1,p2,p4] m) fun x37 m=>
  some (.tuple ⟨[]⟩,m))
  (Qc4 G k0 p10 p0 p1 p2 p4 p3 p11 p12 m)
def Qc6 (G:Gt)(k0:V → V → V → V → V → V → V → M → R)(p12 p0 p1 p2 p4 p3 p10 p11:V)(m:M):R:=
  bp (pur (bin .leq true true .int p12 (.int .i64 12)) m) fun x38 m=>
  brb x38
  (bp (G.tab Qa8 [p0,p1,p2,p4] m) fun x39 m=>
  some (.tuple ⟨[]⟩,m))
  (Qc5 G k0 p3 p0 p1 p2 p4 p10 p11 p12 m)
def Q4 (G:Gt):Nat → V → V → V → V → V → V → V → M → R
 | 0,_,_,_,_,_,_,_,_=>none
 | i + 1,p2,p1,p0,p4,p3,p10,p11,m=>
  bp (pur (bin .sub false true .int p2 p1) m) fun x40 m=>
  Qc6 G (Q4 G i) x40 p0 p1 p2 p4 p3 p10 p11 m
def Qc7 (G:Gt)(p2 p1 p0 p4 p3 p10 p11:V)(m:M):R:=
  Q4 G G.rds p2 p1 p0 p4 p3 p10 p11 m
def Qc8 (G:Gt)(p2 p1 p0 p4 p3 p10:V)(m:M):R:=
  Qc7 G p2 p1 p0 p4 p3 p10 (.bool true) m
def Q6l (G:Gt)(p2 p1 p0 p4 p3:V)(m:M):R:=
  Qc8 G p2 p1 p0 p4 p3 (.bool true) m
theorem Qu8 (G:Gt)(a0 a1 a2 a3 a4:V)(m:M):ef G Tryz.f138 [a0,a1,a2,a3,a4] m = Q6l G a2 a1 a0 a4 a3 m:=
  evFn_of (r:=fun r m=>Q6l G (r 2) (r 1) (r 0) (r 4) (r 3) m) rfl rfl (tr (seqQ (f:=fun r m=>Qc8 G (r 2) (r 1) (r 0) (r 4) (r 3) (r 10) m) (tr (seqQ (f:=fun r m=>Qc7 G (r 2) (r 1) (r 0) (r 4) (r 3) (r 10) (r 11) m) (tr (blockQ (loopQ (fun i r m=>Q4 G i (r 2) (r 1) (r 0) (r 4) (r 3) (r 10) (r 11) m) (fun _ _=>rfl) (fun i0=>tr (blockQ (seqQ (f:=fun r m=>Qc6 G (Q4 G i0) (r 12) (r 0) (r 1) (r 2) (r 4) (r 3) (r 10) (r 11) m) (tr (seqQ (f:=fun r m=>Qc5 G (Q4 G i0) (r 3) (r 0) (r 1) (r 2) (r 4) (r 10) (r 11) (r 12) m) (tr (seqQ (f:=fun r m=>Qc4 G (Q4 G i0) (r 10) (r 0) (r 1) (r 2) (r 4) (r 3) (r 11) (r 12) m) (tr (seqQ (f:=fun r m=>Q5h G (Q4 G i0) (r 0) (r 1) (r 2) (r 4) (r 10) (r 11) (r 3) (r 12) m) (tr (seqQ (f:=fun r m=>Qc3 G (Q4 G i0) (r 14) (r 0) (r 1) (r 2) (r 4) (r 13) (r 10) (r 11) (r 3) (r 12) m) (tr (seqQ (f:=fun r m=>Q5g G (Q4 G i0) (r 10) (r 11) (r 14) (r 0) (r 1) (r 2) (r 4) (r 13) (r 3) (r 12) m) (tr (tr (seqQ (f:=fun r m=>Q5f G (Q4 G i0) (r 1) (r 4) (r 0) (r 13) (r 2) (r 3) (r 10) (r 11) (r 12) m) (tr (tr seqD (seqQ (f:=fun r m=>Q56 G (Q4 G i0) (r 97) (r 0) (r 1) (r 2) (r 13) (r 4) (r 3) (r 10) (r 11) (r 12) m) (fun r m=>by kernel_rfl))) (fun r m=>by kernel_rfl))) (seqQ (f:=fun r m=>Q2o G (Q4 G i0) (r 75) (r 0) (r 1) (r 2) (r 4) (r 13) (r 3) (r 10) (r 11) (r 12) m) (fun r m=>by kernel_rfl))) (fun r m=>by kernel_rfl))) (fun r m=>by kernel_rfl))) (fun r m=>by kernel_rfl))) (fun r m=>by kernel_rfl))) (fun r m=>by kernel_rfl))) (fun r m=>by kernel_rfl)))) (fun r m=>by kernel_rfl)))) (fun r m=>by kernel_rfl))) (fun r m=>by kernel_rfl))) (fun r m=>by kernel_rfl)) m
def Qtp:En:=⟨Q39,Tryz.f138,Tryz.func138,by kernel_rfl,arg5 (fun G a0 a1 a2 a3 a4 m=>Q6l G a2 a1 a0 a4 a3 m),okarg5 Qu8⟩
def Q1cd (G:Gt)(p3:V)(m:M):R:=
  some (p3,m)
def Q132 (G:Gt):Nat → V → V → V → V → M → R
 | 0,_,_,_,_,_=>none
 | i + 1,p8,p7,p6,p3,m=>
  bp (pur (bin .lss false true .int p8 p7) m) fun x0 m=>
  brb x0
  (bp (pur (aIndexAddrSl 1 p6 p8) m) fun x1 m=>
  bp (pur (aLoad false 1 x1 m) m) fun x2 m=>
  bp (pur (bin .neq false true .int x2 p3) m) fun x3 m=>
  brb x3
  (some (x2,m))
  (bp (pur (bin .add true true .int p8 (.int .i64 1)) m) fun x4 m=>
  (Q132 G i) x4 p7 p6 p3 m))
  (Q1cd G p3 m)
def Q1ce (G:Gt)(p8 p7 p6 p3:V)(m:M):R:=
  Q132 G G.rds p8 p7 p6 p3 m
def Q1cf (G:Gt)(p0 p3:V)(m:M):R:=
  bp (pur (lenK 1 p0 m) m) fun x5 m=>
  Q1ce G (.int .i64 0) x5 p0 p3 m
def Q1cg (G:Gt)(p0:V)(m:M):R:=
  Q1cf G p0 (.int .i64 0) m
def Q17y (G:Gt)(p0:V)(m:M):R:=
  Q1cg G p0 m
theorem Q1r9 (G:Gt)(a0:V)(m:M):ef G Tryz.f139 [a0] m = Q17y G a0 m:=
  evFn_of (r:=fun r m=>Q17y G (r 0) m) rfl rfl (tr (seqQ (f:=fun r m=>Q1cg G (r 0) m) (tr (seqQ (f:=fun r m=>Q1cf G (r 0) (r 3) m) (tr (tr (seqQ (f:=fun r m=>Q1cd G (r 3) m) (fun r m=>by kernel_rfl)) (seqQ (f:=fun r m=>Q1ce G (r 8) (r 7) (r 6) (r 3) m) (tr (blockQ (loopQ (fun i r m=>Q132 G i (r 8) (r 7) (r 6) (r 3) m) (fun _ _=>rfl) (fun i0=>fun r m=>by kernel_rfl))) (fun r m=>by kernel_rfl)))) (fun r m=>by kernel_rfl))) (fun r m=>by kernel_rfl))) (fun r m=>by kernel_rfl)) m
def Q1qx:En:=⟨Q1gq,Tryz.f139,Tryz.func139,by kernel_rfl,arg1 Q17y,okarg1 Q1r9⟩
def Qu9 (G:Gt)(p0 p2 p1:V)(m:M):R:=
  bp (some (aNew Q2f (Value.cells p0).toList m)) fun x0 m=>
  bp (some (aNew Q160 (Value.cells p2).toList m)) fun x1 m=>
  bp (some (aMakeMap m)) fun x2 m=>
  bp (unt (aMapUpdate .int x2 (.int .i32 0) (.bool true) m)) fun _ m=>
  bp (unt (aMapUpdate .int x2 (.int .i32 1) (.bool true) m)) fun _ m=>
  bp (some (aNew Qp9 [(.map none)] m)) fun x3 m=>
  bp (unt (aStore 1 x3 x2 m)) fun _ m=>
  bp (some (aNew Q160 [.nilFunc] m)) fun x4 m=>
  let x5:V:=(.func (.func Q133) ⟨[]⟩ ⟨[x3,x1,x4,x0]⟩)
  bp (unt (aStore 1 x4 x5 m)) fun _ m=>
  bp (pur (aLoad false 1 x4 m) m) fun x6 m=>
  bp (evCall G.tab x6 [p1] m) fun x7 m=>
  some (.tuple ⟨[]⟩,m)
theorem Q1js (G:Gt)(a0 a1 a2:V)(m:M):ef G Tryz.f140 [a0,a1,a2] m = Qu9 G a0 a2 a1 m:=
  evFn_of (r:=fun r m=>Qu9 G (r 0) (r 2) (r 1) m) rfl rfl (fun r m=>by kernel_rfl) m
def Q1jc:En:=⟨Q175,Tryz.f140,Tryz.func140,by kernel_rfl,arg3 (fun G a0 a1 a2 m=>Qu9 G a0 a2 a1 m),okarg3 Q1js⟩
def Qkr (G:Gt)(p1 p2 p0:V)(m:M):R:=
  bp (pur (aLoad false 1 p1 m) m) fun x0 m=>
  bp (pur (aLoad false 1 p2 m) m) fun x1 m=>
  bp (pur (aNilCheck x1) m) fun x2 m=>
  bp (pur (aFieldAddr 2 x2) m) fun x3 m=>
  bp (pur (aLoad false 1 x3 m) m) fun x4 m=>
  bp (pur (aIndexAddrSl 3 x4 p0) m) fun x5 m=>
  bp (pur (aFieldAddr 0 x5) m) fun x6 m=>
  bp (pur (aLoad false 1 x6 m) m) fun x7 m=>
  bp (conv (.int .i64) x7 m) fun x8 m=>
  bp (aBuildSlice Q7o [(.int .i64 0)] 1 1 [(0,x8)] m) fun x9 m=>
  bp (apS Q7o 1 8 x0 x9 m) fun x10 m=>
  bp (unt (aStore 1 p1 x10 m)) fun _ m=>
  some (.tuple ⟨[]⟩,m)
theorem Q1d2 (G:Gt)(a0 a1 a2:V)(m:M):ef G Tryz.f142 [a0,a1,a2] m = Qkr G a1 a2 a0 m:=
  evFn_of (r:=fun r m=>Qkr G (r 1) (r 2) (r 0) m) rfl rfl (fun r m=>by kernel_rfl) m
def Q1cv:En:=⟨Qy3,Tryz.f142,Tryz.func142,by kernel_rfl,arg3 (fun G a0 a1 a2 m=>Qkr G a1 a2 a0 m),okarg3 Q1d2⟩
def Qhy (G:Gt)(p0:V)(m:M):R:=
  bp (pur (lenK 1 p0 m) m) fun x0 m=>
  bp (conv (.int .u64) x0 m) fun x1 m=>
  bp (G.tab Qb3 [x1] m) fun x2 m=>
  bp (G.tab Q73 [p0,(.int .i64 0),x0,x2] m) fun x3 m=>
  some (.tuple ⟨[]⟩,m)
theorem Q1aj (G:Gt)(a0:V)(m:M):ef G Tryz.f143 [a0] m = Qhy G a0 m:=
  evFn_of (r:=fun r m=>Qhy G (r 0) m) rfl rfl (fun r m=>by kernel_rfl) m
def Q19w:En:=⟨Qua,Tryz.f143,Tryz.func143,by kernel_rfl,arg1 Qhy,okarg1 Q1aj⟩
def Ql5 (G:Gt)(p0:V)(m:M):R:=
  some (p0,m)
def Ql6 (G:Gt)(p0 p3:V)(m:M):R:=
  bp (pur (aSliceSl 1 p0 (some p3) none) m) fun x0 m=>
  bp (unt (aClear [(.int .i64 0)] 1 x0 m)) fun _ m=>
  bp (pur (aSliceSl 1 p0 none (some p3)) m) fun x1 m=>
  some (x1,m)
def Qba (G:Gt)(k1:V → V → V → V → M → R)(p5 p4 p0 p3:V)(m:M):R:=
  bp (pur (bin .add true true .int p5 (.int .i64 1)) m) fun x2 m=>
  k1 x2 p4 p0 p3 m
def Qk7 (G:Gt)(k1:V → V → V → V → M → R)(p4 p5 p0 p3:V)(m:M):R:=
  bp (pur (aIndexAddrSl 1 p4 p5) m) fun x3 m=>
  bp (pur (aLoad false 1 x3 m) m) fun x4 m=>
  bp (pur (bin .sub true true .int p5 (.int .i64 1)) m) fun x5 m=>
  bp (pur (aIndexAddrSl 1 p4 x5) m) fun x6 m=>
  bp (pur (aLoad false 1 x6 m) m) fun x7 m=>
  bp (pur (bin .neq false true .int x4 x7) m) fun x8 m=>
  brb x8
  (bp (pur (aIndexAddrSl 1 p4 p5) m) fun x9 m=>
  bp (pur (aLoad false 1 x9 m) m) fun x10 m=>
  bp (pur (aIndexAddrSl 1 p0 p3) m) fun x11 m=>
  bp (unt (aStore 1 x11 x10 m)) fun _ m=>
  bp (pur (bin .add true true .int p3 (.int .i64 1)) m) fun x12 m=>
  Qba G k1 p5 p4 p0 x12 m)
  (Qba G k1 p5 p4 p0 p3 m)
def Q3a (G:Gt):Nat → V → V → V → V → M → R
 | 0,_,_,_,_,_=>none
 | i + 1,p5,p4,p0,p3,m=>
  bp (pur (lenK 1 p4 m) m) fun x13 m=>
  bp (pur (bin .lss false true .int p5 x13) m) fun x14 m=>
  brb x14
  (Qk7 G (Q3a G i) p4 p5 p0 p3 m)
  (Ql6 G p0 p3 m)
def Ql7 (G:Gt)(p5 p4 p0 p3:V)(m:M):R:=
  Q3a G G.rds p5 p4 p0 p3 m
def Ql8 (G:Gt)(p4 p0 p3:V)(m:M):R:=
  Ql7 G (.int .i64 1) p4 p0 p3 m
def Ql9 (G:Gt)(k0:V → V → M → R)(p25 p0 p3:V)(m:M):R:=
  brb p25
  (bp (pur (aSliceSl 1 p0 (some p3) none) m) fun x15 m=>
  Ql8 G x15 p0 p3 m)
  (bp (pur (bin .add true true .int p3 (.int .i64 1)) m) fun x16 m=>
  k0 x16 p0 m)
def Qla (G:Gt)(k0:V → V → M → R)(p0 p3:V)(m:M):R:=
  bp (pur (aIndexAddrSl 1 p0 p3) m) fun x17 m=>
  bp (pur (aLoad false 1 x17 m) m) fun x18 m=>
  bp (pur (bin .sub true true .int p3 (.int .i64 1)) m) fun x19 m=>
  bp (pur (aIndexAddrSl 1 p0 x19) m) fun x20 m=>
  bp (pur (aLoad false 1 x20 m) m) fun x21 m=>
  bp (pur (bin .eql false true .int x18 x21) m) fun x22 m=>
  Ql9 G k0 x22 p0 p3 m
def Q3p (G:Gt):Nat → V → V → M → R
 | 0,_,_,_=>none
 | i + 1,p3,p0,m=>
  bp (pur (lenK 1 p0 m) m) fun x23 m=>
  bp (pur (bin .lss false true .int p3 x23) m) fun x24 m=>
  brb x24
  (Qla G (Q3p G i) p0 p3 m)
  (Ql5 G p0 m)
def Qlb (G:Gt)(p3 p0:V)(m:M):R:=
  Q3p G G.rds p3 p0 m
def Qlc (G:Gt)(p0:V)(m:M):R:=
  Qlb G (.int .i64 1) p0 m
def Qld (G:Gt)(p0:V)(m:M):R:=
  bp (pur (lenK 1 p0 m) m) fun x25 m=>
  bp (pur (bin .lss true true .int x25 (.int .i64 2)) m) fun x26 m=>
  brb x26
  (some (p0,m))
  (Qlc G p0 m)
def Qe0 (G:Gt)(p0:V)(m:M):R:=
  Qld G p0 m
theorem Q176 (G:Gt)(a0:V)(m:M):ef G Tryz.f144 [a0] m = Qe0 G a0 m:=
  evFn_of (r:=fun r m=>Qe0 G (r 0) m) rfl rfl (tr (seqQ (f:=fun r m=>Qld G (r 0) m) (tr (seqQ (f:=fun r m=>Qlc G (r 0) m) (tr (tr (seqQ (f:=fun r m=>Ql5 G (r 0) m) (fun r m=>by kernel_rfl)) (seqQ (f:=fun r m=>Qlb G (r 3) (r 0) m) (tr (blockQ (loopQ (fun i r m=>Q3p G i (r 3) (r 0) m) (fun _ _=>rfl) (fun i0=>tr (seqQ (f:=fun r m=>Qla G (Q3p G i0) (r 0) (r 3) m) (tr (tr seqD (blockQ (seqQ (f:=fun r m=>Ql9 G (Q3p G i0) (r 25) (r 0) (r 3) m) (tr (condQ (seqQ (f:=fun r m=>Ql8 G (r 4) (r 0) (r 3) m) (tr (tr (seqQ (f:=fun r m=>Ql6 G (r 0) (r 3) m) (fun r m=>by kernel_rfl)) (seqQ (f:=fun r m=>Ql7 G (r 5) (r 4) (r 0) (r 3) m) (tr (blockQ (loopQ (fun i r m=>Q3a G i (r 5) (r 4) (r 0) (r 3) m) (fun _ _=>rfl) (fun i1=>tr (seqQ (f:=fun r m=>Qk7 G (Q3a G i1) (r 4) (r 5) (r 0) (r 3) m) (tr (seqQ (f:=fun r m=>Qba G (Q3a G i1) (r 5) (r 4) (r 0) (r 3) m) (fun r m=>by kernel_rfl)) (fun r m=>by kernel_rfl))) (fun r m=>by kernel_rfl)))) (fun r m=>by kernel_rfl)))) (fun r m=>by kernel_rfl))) (refQ)) (fun r m=>by kernel_rfl))))) (fun r m=>by kernel_rfl))) (fun r m=>by kernel_rfl)))) (fun r m=>by kernel_rfl)))) (fun r m=>by kernel_rfl))) (fun r m=>by kernel_rfl))) (fun r m=>by kernel_rfl)) m
def Q16d:En:=⟨Qo7,Tryz.f144,Tryz.func144,by kernel_rfl,arg1 Qe0,okarg1 Q176⟩
def Qub (G:Gt)(p0 p1:V)(m:M):R:=
  bp (some (aNew Q2f (Value.cells p0).toList m)) fun x0 m=>
  bp (G.tab Qa2 [p1,(.func (.func Q134) ⟨[]⟩ ⟨[x0]⟩)] m) fun x1 m=>
  bp (pur (un .not x1) m) fun x2 m=>
  some (x2,m)
theorem Q1jt (G:Gt)(a0 a1:V)(m:M):ef G Tryz.f145 [a0,a1] m = Qub G a0 a1 m:=
  evFn_of (r:=fun r m=>Qub G (r 0) (r 1) m) rfl rfl (fun r m=>by kernel_rfl) m
def Q1j9:En:=⟨Q177,Tryz.f145,Tryz.func145,by kernel_rfl,arg2 Qub,okarg2 Q1jt⟩
def Qa3 (G:Gt)(p0 p1:V)(m:M):R:=
  bp (G.tab Qle [p0,p1] m) fun x0 m=>
  bp (pur (bin .geq true true .int x0 (.int .i64 0)) m) fun x1 m=>
  some (x1,m)
theorem Q109 (G:Gt)(a0 a1:V)(m:M):ef G Tryz.f146 [a0,a1] m = Qa3 G a0 a1 m:=
  evFn_of (r:=fun r m=>Qa3 G (r 0) (r 1) m) rfl rfl (fun r m=>by kernel_rfl) m
def Qzw:En:=⟨Qa2,Tryz.f146,Tryz.func146,by kernel_rfl,arg2 Qa3,okarg2 Q109⟩
def Qpa (G:Gt)(p1 p0:V)(m:M):R:=
  bp (pur (aLoad false 1 p1 m) m) fun x0 m=>
  bp (G.tab Qml [x0,p0] m) fun x1 m=>
  bp (pur (un .not x1) m) fun x2 m=>
  some (x2,m)
theorem Q1ft (G:Gt)(a0 a1:V)(m:M):ef G Tryz.f147 [a0,a1] m = Qpa G a1 a0 m:=
  evFn_of (r:=fun r m=>Qpa G (r 1) (r 0) m) rfl rfl (fun r m=>by kernel_rfl) m
def Q1f9:En:=⟨Q135,Tryz.f147,Tryz.func147,by kernel_rfl,arg2 (fun G a0 a1 m=>Qpa G a1 a0 m),okarg2 Q1ft⟩
def Qci (G:Gt)(p0 p1:V)(m:M):R:=
  bp (G.tab Qgk [p0,p1] m) fun x0 m=>
  bp (pur (bin .geq true true .int x0 (.int .i64 0)) m) fun x1 m=>
  some (x1,m)
theorem Q15j (G:Gt)(a0 a1:V)(m:M):ef G Tryz.f148 [a0,a1] m = Qci G a0 a1 m:=
  evFn_of (r:=fun r m=>Qci G (r 0) (r 1) m) rfl rfl (fun r m=>by kernel_rfl) m
def Q159:En:=⟨Qml,Tryz.f148,Tryz.func148,by kernel_rfl,arg2 Qci,okarg2 Q15j⟩
end
end Go.Ab.Sh

set_option linter.unusedVariables false
set_option maxRecDepth 100000
namespace Go.Ab.Sh
open Go Go.Ab Go.Proofs
noncomputable section
def Q1ak (G:Gt)(p3 p2:V)(m:M):R:=
  bp (pur (aLoad true 13 p3 m) m) fun x0 m=>
  bp (unt (aStore 13 p2 x0 m)) fun _ m=>
  ob (ob (aLoad true 13 p2 m) fun v=>ob (some []) fun l=>some (v :: l)) fun l=>some (resVal l,m)
def Q10a (G:Gt):Nat → V → V → V → V → M → R
 | 0,_,_,_,_,_=>none
 | i + 1,p32,p1,p3,p2,m=>
  bp (pur (bin .lss true true .int p32 (.int .i64 2)) m) fun x1 m=>
  brb x1
  (bp (pur (bin .add true true .int (.int .i64 9) p32) m) fun x2 m=>
  bp (pur (bin .add true true .int (.int .i64 11) p32) m) fun x3 m=>
  bp (pur (aFieldAddr 3 p1) m) fun x4 m=>
  bp (pur (aLoad false 1 x4 m) m) fun x5 m=>
  bp (pur (bin .mul true true .int (.int .i64 8) p32) m) fun x6 m=>
  bp (pur (bin .sub true true .int (.int .i64 8) x6) m) fun x7 m=>
  bp (pur (bin .shr false true .int x5 x7) m) fun x8 m=>
  bp (conv (.int .u8) x8 m) fun x9 m=>
  bp (pur (aFieldAddr 4 p1) m) fun x10 m=>
  bp (pur (aLoad false 1 x10 m) m) fun x11 m=>
  bp (pur (bin .mul true true .int (.int .i64 8) p32) m) fun x12 m=>
  bp (pur (bin .sub true true .int (.int .i64 8) x12) m) fun x13 m=>
  bp (pur (bin .shr false true .int x11 x13) m) fun x14 m=>
  bp (conv (.int .u8) x14 m) fun x15 m=>
  bp (pur (aIndexAddrArr 13 1 p3 x2) m) fun x16 m=>
  bp (unt (aStore 1 x16 x9 m)) fun _ m=>
  ckB (again (pur (aLoad false 1 x10 m) m) x11 && true)
  (bp (pur (aIndexAddrArr 13 1 p3 x3) m) fun x17 m=>
  bp (unt (aStore 1 x17 x15 m)) fun _ m=>
  bp (pur (bin .add true true .int p32 (.int .i64 1)) m) fun x18 m=>
  (Q10a G i) x18 p1 p3 p2 m))
  (Q1ak G p3 p2 m)
def Q1al (G:Gt)(p32 p1 p3 p2:V)(m:M):R:=
  Q10a G G.rds p32 p1 p3 p2 m
def Q1am (G:Gt)(p1 p3 p2:V)(m:M):R:=
  Q1al G (.int .i64 0) p1 p3 p2 m
def Q1an (G:Gt)(p1 p3 p2:V)(m:M):R:=
  bp (pur (aFieldAddr 2 p1) m) fun x19 m=>
  bp (pur (aLoad false 1 x19 m) m) fun x20 m=>
  bp (pur (aIndexAddrArr 13 1 p3 (.int .i64 8)) m) fun x21 m=>
  bp (unt (aStore 1 x21 x20 m)) fun _ m=>
  Q1am G p1 p3 p2 m
def Q10b (G:Gt):Nat → V → V → V → V → M → R
 | 0,_,_,_,_,_=>none
 | i + 1,p6,p1,p3,p2,m=>
  bp (pur (bin .lss true true .int p6 (.int .i64 4)) m) fun x22 m=>
  brb x22
  (bp (pur (bin .add true true .int (.int .i64 4) p6) m) fun x23 m=>
  bp (pur (aFieldAddr 0 p1) m) fun x24 m=>
  bp (pur (aLoad false 1 x24 m) m) fun x25 m=>
  bp (pur (bin .mul true true .int (.int .i64 8) p6) m) fun x26 m=>
  bp (pur (bin .sub true true .int (.int .i64 24) x26) m) fun x27 m=>
  bp (pur (bin .shr false true .int x25 x27) m) fun x28 m=>
  bp (conv (.int .u8) x28 m) fun x29 m=>
  bp (pur (aFieldAddr 1 p1) m) fun x30 m=>
  bp (pur (aLoad false 1 x30 m) m) fun x31 m=>
  bp (pur (bin .mul true true .int (.int .i64 8) p6) m) fun x32 m=>
  bp (pur (bin .sub true true .int (.int .i64 24) x32) m) fun x33 m=>
  bp (pur (bin .shr false true .int x31 x33) m) fun x34 m=>
  bp (conv (.int .u8) x34 m) fun x35 m=>
  bp (pur (aIndexAddrArr 13 1 p3 p6) m) fun x36 m=>
  bp (unt (aStore 1 x36 x29 m)) fun _ m=>
  ckB (again (pur (aLoad false 1 x30 m) m) x31 && true)
  (bp (pur (aIndexAddrArr 13 1 p3 x23) m) fun x37 m=>
  bp (unt (aStore 1 x37 x35 m)) fun _ m=>
  bp (pur (bin .add true true .int p6 (.int .i64 1)) m) fun x38 m=>
  (Q10b G i) x38 p1 p3 p2 m))
  (Q1an G p1 p3 p2 m)
def Q1ao (G:Gt)(p6 p1 p3 p2:V)(m:M):R:=
  Q10b G G.rds p6 p1 p3 p2 m
def Q1ap (G:Gt)(p1 p3 p2:V)(m:M):R:=
  Q1ao G (.int .i64 0) p1 p3 p2 m
def Q1aq (G:Gt)(p1 p2:V)(m:M):R:=
  bp (some (aNew Q1d3 Q1d4 m)) fun x39 m=>
  Q1ap G p1 x39 p2 m
def Q15k (G:Gt)(p0:V)(m:M):R:=
  bp (some (aNew Q12n (Value.cells p0).toList m)) fun x40 m=>
  bp (some (aNew Q1d3 Q1d4 m)) fun x41 m=>
  Q1aq G x40 x41 m
theorem Q1pn (G:Gt)(a0:V)(m:M):ef G Tryz.f149 [a0] m = Q15k G a0 m:=
  evFn_of (r:=fun r m=>Q15k G (r 0) m) rfl rfl (tr (seqQ (f:=fun r m=>Q1aq G (r 1) (r 2) m) (tr (seqQ (f:=fun r m=>Q1ap G (r 1) (r 3) (r 2) m) (tr (tr (seqQ (f:=fun r m=>Q1an G (r 1) (r 3) (r 2) m) (tr (seqQ (f:=fun r m=>Q1am G (r 1) (r 3) (r 2) m) (tr (tr (seqQ (f:=fun r m=>Q1ak G (r 3) (r 2) m) (fun r m=>by kernel_rfl)) (seqQ (f:=fun r m=>Q1al G (r 32) (r 1) (r 3) (r 2) m) (tr (blockQ (loopQ (fun i r m=>Q10a G i (r 32) (r 1) (r 3) (r 2) m) (fun _ _=>rfl) (fun i0=>fun r m=>by kernel_rfl))) (fun r m=>by kernel_rfl)))) (fun r m=>by kernel_rfl))) (fun r m=>by kernel_rfl))) (seqQ (f:=fun r m=>Q1ao G (r 6) (r 1) (r 3) (r 2) m) (tr (blockQ (loopQ (fun i r m=>Q10b G i (r 6) (r 1) (r 3) (r 2) m) (fun _ _=>rfl) (fun i0=>fun r m=>by kernel_rfl))) (fun r m=>by kernel_rfl)))) (fun r m=>by kernel_rfl))) (fun r m=>by kernel_rfl))) (fun r m=>by kernel_rfl)) m
def Q1pi:En:=⟨Q1e8,Tryz.f149,Tryz.func149,by kernel_rfl,arg1 Q15k,okarg1 Q1pn⟩
def Qmm (G:Gt)(p2:V)(m:M):R:=
  some (p2,m)
def Q11b (G:Gt)(p0:V)(m:M):R:=
  bp (pur (lenK 0 p0 m) m) fun x0 m=>
  bp (pur (bin .geq true true .int x0 (.int .i64 1)) m) fun x1 m=>
  brb x1
  (bp (pur (lenK 0 p0 m) m) fun x2 m=>
  bp (pur (bin .leq true true .int x2 (.int .i64 32)) m) fun x3 m=>
  Qmm G x3 m)
  (Qmm G (.bool false) m)
def Qf0 (G:Gt)(k0:V → V → M → R)(p61 p3 p0:V)(m:M):R:=
  brb p61
  (some ((.bool false),m))
  (bp (pur (bin .add true true .int p3 (.int .i64 1)) m) fun x4 m=>
  k0 x4 p0 m)
def Q1y (G:Gt)(k0:V → V → M → R)(p5 p3 p6 p0:V)(m:M):R:=
  bp (pur (un .not p5) m) fun x5 m=>
  brb x5
  (bp (pur (bin .eql true true .int p3 (.int .i64 0)) m) fun x6 m=>
  brb x6
  (Qf0 G k0 (.bool true) p3 p0 m)
  (bp (pur (un .not p6) m) fun x7 m=>
  Qf0 G k0 x7 p3 p0 m))
  (Qf0 G k0 (.bool false) p3 p0 m)
def Q62 (G:Gt)(k0:V → V → M → R)(p4 p5 p3 p0:V)(m:M):R:=
  bp (pur (bin .geq true true .int p4 (.int .u8 48)) m) fun x8 m=>
  brb x8
  (bp (pur (bin .leq true true .int p4 (.int .u8 57)) m) fun x9 m=>
  brb x9
  (Q1y G k0 p5 p3 (.bool true) p0 m)
  (bp (pur (bin .eql true true .int p4 (.int .u8 45)) m) fun x10 m=>
  brb x10
  (Q1y G k0 p5 p3 (.bool true) p0 m)
  (bp (pur (bin .eql true true .int p4 (.int .u8 95)) m) fun x11 m=>
  brb x11
  (Q1y G k0 p5 p3 (.bool true) p0 m)
  (bp (pur (bin .eql true true .int p4 (.int .u8 46)) m) fun x12 m=>
  brb x12
  (Q1y G k0 p5 p3 (.bool true) p0 m)
  (bp (pur (bin .eql true true .int p4 (.int .u8 47)) m) fun x13 m=>
  Q1y G k0 p5 p3 x13 p0 m)))))
  (bp (pur (bin .eql true true .int p4 (.int .u8 45)) m) fun x14 m=>
  brb x14
  (Q1y G k0 p5 p3 (.bool true) p0 m)
  (bp (pur (bin .eql true true .int p4 (.int .u8 95)) m) fun x15 m=>
  brb x15
  (Q1y G k0 p5 p3 (.bool true) p0 m)
  (bp (pur (bin .eql true true .int p4 (.int .u8 46)) m) fun x16 m=>
  brb x16
  (Q1y G k0 p5 p3 (.bool true) p0 m)
  (bp (pur (bin .eql true true .int p4 (.int .u8 47)) m) fun x17 m=>
  Q1y G k0 p5 p3 x17 p0 m))))
def Q11c (G:Gt)(k0:V → V → M → R)(p4 p3 p0:V)(m:M):R:=
  bp (pur (bin .geq true true .int p4 (.int .u8 97)) m) fun x18 m=>
  brb x18
  (bp (pur (bin .leq true true .int p4 (.int .u8 122)) m) fun x19 m=>
  brb x19
  (Q62 G k0 p4 (.bool true) p3 p0 m)
  (bp (pur (bin .geq true true .int p4 (.int .u8 65)) m) fun x20 m=>
  brb x20
  (bp (pur (bin .leq true true .int p4 (.int .u8 90)) m) fun x21 m=>
  Q62 G k0 p4 x21 p3 p0 m)
  (Q62 G k0 p4 (.bool false) p3 p0 m)))
  (bp (pur (bin .geq true true .int p4 (.int .u8 65)) m) fun x22 m=>
  brb x22
  (bp (pur (bin .leq true true .int p4 (.int .u8 90)) m) fun x23 m=>
  Q62 G k0 p4 x23 p3 p0 m)
  (Q62 G k0 p4 (.bool false) p3 p0 m))
def Q11d (G:Gt)(k0:V → V → M → R)(p0 p3:V)(m:M):R:=
  bp (pur (aIndexStr p0 p3) m) fun x24 m=>
  Q11c G k0 x24 p3 p0 m
def Q2y (G:Gt):Nat → V → V → M → R
 | 0,_,_,_=>none
 | i + 1,p3,p0,m=>
  bp (pur (lenK 0 p0 m) m) fun x25 m=>
  bp (pur (bin .lss false true .int p3 x25) m) fun x26 m=>
  brb x26
  (Q11d G (Q2y G i) p0 p3 m)
  (Q11b G p0 m)
def Q11e (G:Gt)(p3 p0:V)(m:M):R:=
  Q2y G G.rds p3 p0 m
def Q11f (G:Gt)(p0:V)(m:M):R:=
  Q11e G (.int .i64 0) p0 m
def Qr5 (G:Gt)(p0:V)(m:M):R:=
  Q11f G p0 m
theorem Q1ic (G:Gt)(a0:V)(m:M):ef G Tryz.f153 [a0] m = Qr5 G a0 m:=
  evFn_of (r:=fun r m=>Qr5 G (r 0) m) rfl rfl (tr (seqQ (f:=fun r m=>Q11f G (r 0) m) (tr (tr (seqQ (f:=fun r m=>Q11b G (r 0) m) (tr (seqQ (f:=fun r m=>Qmm G (r 2) m) (fun r m=>by kernel_rfl)) (fun r m=>by kernel_rfl))) (seqQ (f:=fun r m=>Q11e G (r 3) (r 0) m) (tr (blockQ (loopQ (fun i r m=>Q2y G i (r 3) (r 0) m) (fun _ _=>rfl) (fun i0=>tr (seqQ (f:=fun r m=>Q11d G (Q2y G i0) (r 0) (r 3) m) (tr (tr seqD (blockQ (seqQ (f:=fun r m=>Q11c G (Q2y G i0) (r 4) (r 3) (r 0) m) (tr (seqQ (f:=fun r m=>Q62 G (Q2y G i0) (r 4) (r 5) (r 3) (r 0) m) (tr (seqQ (f:=fun r m=>Q1y G (Q2y G i0) (r 5) (r 3) (r 6) (r 0) m) (tr (seqQ (f:=fun r m=>Qf0 G (Q2y G i0) (r 61) (r 3) (r 0) m) (fun r m=>by kernel_rfl)) (fun r m=>by kernel_rfl))) (fun r m=>by kernel_rfl))) (fun r m=>by kernel_rfl))))) (fun r m=>by kernel_rfl))) (fun r m=>by kernel_rfl)))) (fun r m=>by kernel_rfl)))) (fun r m=>by kernel_rfl))) (fun r m=>by kernel_rfl)) m
def Q1i0:En:=⟨Q14n,Tryz.f153,Tryz.func153,by kernel_rfl,arg1 Qr5,okarg1 Q1ic⟩
def Qmn (G:Gt)(p0:V)(m:M):R:=
  bp (pur (bin .lss true true .int p0 (.int .i64 0)) m) fun x0 m=>
  brb x0
  (bp (pur (bin .add true true .int p0 (.int .i64 1)) m) fun x1 m=>
  bp (pur (un .neg x1) m) fun x2 m=>
  bp (conv (.int .u64) x2 m) fun x3 m=>
  bp (pur (bin .add true true .int x3 (.int .u64 1)) m) fun x4 m=>
  bp (G.tab Qmo [x4] m) fun x5 m=>
  bp (pur (bin .add true true .str (.string ⟨#[45]⟩) x5) m) fun x6 m=>
  some (x6,m))
  (bp (conv (.int .u64) p0 m) fun x7 m=>
  bp (G.tab Qmo [x7] m) fun x8 m=>
  some (x8,m))
theorem Q1e9 (G:Gt)(a0:V)(m:M):ef G Tryz.f159 [a0] m = Qmn G a0 m:=
  evFn_of (r:=fun r m=>Qmn G (r 0) m) rfl rfl (fun r m=>by kernel_rfl) m
def Q1dv:En:=⟨Q111,Tryz.f159,Tryz.func159,by kernel_rfl,arg1 Qmn,okarg1 Q1e9⟩
def Qe1 (G:Gt)(p31 p0 p8:V)(m:M):R:=
  brb p31
  (bp (G.tab Q36 [p0,(.int .i64 10)] m) fun x0 m=>
  some ((.int .i64 0),m))
  (some (p8,m))
def Qo8 (G:Gt)(p9 p8 p2 p0:V)(m:M):R:=
  bp (pur (bin .neq true true .int p9 (.int .i64 0)) m) fun x1 m=>
  brb x1
  (Qe1 G (.bool true) p0 p8 m)
  (bp (pur (bin .lss false true .int p8 p2) m) fun x2 m=>
  Qe1 G x2 p0 p8 m)
def Qe2 (G:Gt)(p7 p2 p0:V)(m:M):R:=
  bp (G.tab Q14p [p7] m) fun x3 m=>
  bp (pur (aExtract x3 0) m) fun x4 m=>
  bp (pur (aExtract x3 1) m) fun x5 m=>
  Qo8 G x5 x4 p2 p0 m
def Qo9 (G:Gt)(p1 p7 p2 p0:V)(m:M):R:=
  brb p1
  (bp (pur (bin .sub true true .int (.int .u32 4294967295) p7) m) fun x6 m=>
  Qe2 G x6 p2 p0 m)
  (Qe2 G p7 p2 p0 m)
def Qoa (G:Gt)(p0 p1 p7 p2:V)(m:M):R:=
  bp (pur (aNilCheck p0) m) fun x7 m=>
  bp (pur (aFieldAddr 4 x7) m) fun x8 m=>
  bp (pur (aLoad false 1 x8 m) m) fun x9 m=>
  bp (pur (bin .neq true true .int x9 (.int .i64 0)) m) fun x10 m=>
  brb x10
  (some ((.int .i64 0),m))
  (Qo9 G p1 p7 p2 p0 m)
def Qob (G:Gt)(p0 p1 p2:V)(m:M):R:=
  bp (G.tab Q71 [p0] m) fun x11 m=>
  Qoa G p0 p1 x11 p2 m
def Qgl (G:Gt)(p0 p1 p2:V)(m:M):R:=
  Qob G p0 p1 p2 m
theorem Q19d (G:Gt)(a0 a1 a2:V)(m:M):ef G Tryz.f160 [a0,a1,a2] m = Qgl G a0 a1 a2 m:=
  evFn_of (r:=fun r m=>Qgl G (r 0) (r 1) (r 2) m) rfl rfl (tr (seqQ (f:=fun r m=>Qob G (r 0) (r 1) (r 2) m) (tr (seqQ (f:=fun r m=>Qoa G (r 0) (r 1) (r 7) (r 2) m) (tr (seqQ (f:=fun r m=>Qo9 G (r 1) (r 7) (r 2) (r 0) m) (tr (seqQ (f:=fun r m=>Qe2 G (r 7) (r 2) (r 0) m) (tr (seqQ (f:=fun r m=>Qo8 G (r 9) (r 8) (r 2) (r 0) m) (tr (tr seqD (seqQ (f:=fun r m=>Qe1 G (r 31) (r 0) (r 8) m) (fun r m=>by kernel_rfl))) (fun r m=>by kernel_rfl))) (fun r m=>by kernel_rfl))) (fun r m=>by kernel_rfl))) (fun r m=>by kernel_rfl))) (fun r m=>by kernel_rfl))) (fun r m=>by kernel_rfl)) m
def Q194:En:=⟨Qst,Tryz.f160,Tryz.func160,by kernel_rfl,arg3 Qgl,okarg3 Q19d⟩
def Qy4 (G:Gt)(p7:V)(m:M):R:=
  bp (conv (.int .u32) p7 m) fun x0 m=>
  some (.tuple ⟨[x0,(.int .i64 0)]⟩,m)
def Qks (G:Gt):Nat → V → V → V → M → R
 | 0,_,_,_,_=>none
 | i + 1,p8,p4,p7,m=>
  bp (pur (bin .lss true true .int p8 (.int .i64 4)) m) fun x1 m=>
  brb x1
  (bp (pur (aIndexAddrSl 1 p4 p8) m) fun x2 m=>
  bp (pur (aLoad false 1 x2 m) m) fun x3 m=>
  bp (G.tab Q14q [x3,(.int .i64 255)] m) fun x4 m=>
  bp (pur (bin .lss true true .int x4 (.int .i64 0)) m) fun x5 m=>
  brb x5
  (some (.tuple ⟨[(.int .u32 0),(.int .i64 4)]⟩,m))
  (bp (pur (bin .mul true true .int (.int .i64 256) p7) m) fun x6 m=>
  bp (pur (bin .add false true .int x6 x4) m) fun x7 m=>
  bp (pur (bin .add true true .int p8 (.int .i64 1)) m) fun x8 m=>
  (Qks G i) x8 p4 x7 m))
  (Qy4 G p7 m)
def Qy5 (G:Gt)(p8 p4 p7:V)(m:M):R:=
  Qks G G.rds p8 p4 p7 m
def Qy6 (G:Gt)(p4 p7:V)(m:M):R:=
  Qy5 G (.int .i64 0) p4 p7 m
def Qy7 (G:Gt)(p4:V)(m:M):R:=
  Qy6 G p4 (.int .i64 0) m
def Qy8 (G:Gt)(p4:V)(m:M):R:=
  bp (pur (lenK 1 p4 m) m) fun x9 m=>
  bp (pur (bin .neq true true .int x9 (.int .i64 4)) m) fun x10 m=>
  brb x10
  (some (.tuple ⟨[(.int .u32 0),(.int .i64 4)]⟩,m))
  (Qy7 G p4 m)
def Qjf (G:Gt)(k0:V → V → V → V → M → R)(p6 p0 p4 p5:V)(m:M):R:=
  bp (pur (bin .add true true .int p6 (.int .i64 1)) m) fun x11 m=>
  k0 x11 p0 p4 p5 m
def Qjg (G:Gt)(k0:V → V → V → V → M → R)(p25 p4 p0 p5 p6:V)(m:M):R:=
  brb p25
  (bp (pur (aSliceStr p0 (some p5) (some p6)) m) fun x12 m=>
  bp (aBuildSlice Qts [(.string ⟨#[]⟩)] 1 1 [(0,x12)] m) fun x13 m=>
  bp (apS Qts 1 16 p4 x13 m) fun x14 m=>
  bp (pur (bin .add true true .int p6 (.int .i64 1)) m) fun x15 m=>
  Qjf G k0 p6 p0 x14 x15 m)
  (Qjf G k0 p6 p0 p4 p5 m)
def Qvm (G:Gt)(k0:V → V → V → V → M → R)(p6 p0 p4 p5:V)(m:M):R:=
  bp (pur (lenK 0 p0 m) m) fun x16 m=>
  bp (pur (bin .eql false true .int p6 x16) m) fun x17 m=>
  brb x17
  (Qjg G k0 (.bool true) p4 p0 p5 p6 m)
  (bp (pur (aIndexStr p0 p6) m) fun x18 m=>
  bp (pur (bin .eql true true .int x18 (.int .u8 46)) m) fun x19 m=>
  Qjg G k0 x19 p4 p0 p5 p6 m)
def Q4t (G:Gt):Nat → V → V → V → V → M → R
 | 0,_,_,_,_,_=>none
 | i + 1,p6,p0,p4,p5,m=>
  bp (pur (lenK 0 p0 m) m) fun x20 m=>
  bp (pur (bin .leq false true .int p6 x20) m) fun x21 m=>
  brb x21
  (Qvm G (Q4t G i) p6 p0 p4 p5 m)
  (Qy8 G p4 m)
def Qy9 (G:Gt)(p6 p0 p4 p5:V)(m:M):R:=
  Q4t G G.rds p6 p0 p4 p5 m
def Qya (G:Gt)(p0 p4 p5:V)(m:M):R:=
  Qy9 G (.int .i64 0) p0 p4 p5 m
def Qyb (G:Gt)(p0 p4:V)(m:M):R:=
  Qya G p0 p4 (.int .i64 0) m
def Qyc (G:Gt)(p0:V)(m:M):R:=
  Qyb G p0 (.slice none 0 0) m
def Qpb (G:Gt)(p0:V)(m:M):R:=
  Qyc G p0 m
theorem Q1fu (G:Gt)(a0:V)(m:M):ef G Tryz.f164 [a0] m = Qpb G a0 m:=
  evFn_of (r:=fun r m=>Qpb G (r 0) m) rfl rfl (tr (seqQ (f:=fun r m=>Qyc G (r 0) m) (tr (seqQ (f:=fun r m=>Qyb G (r 0) (r 4) m) (tr (seqQ (f:=fun r m=>Qya G (r 0) (r 4) (r 5) m) (tr (tr (seqQ (f:=fun r m=>Qy8 G (r 4) m) (tr (seqQ (f:=fun r m=>Qy7 G (r 4) m) (tr (seqQ (f:=fun r m=>Qy6 G (r 4) (r 7) m) (tr (tr (seqQ (f:=fun r m=>Qy4 G (r 7) m) (fun r m=>by kernel_rfl)) (seqQ (f:=fun r m=>Qy5 G (r 8) (r 4) (r 7) m) (tr (blockQ (loopQ (fun i r m=>Qks G i (r 8) (r 4) (r 7) m) (fun _ _=>rfl) (fun i0=>fun r m=>by kernel_rfl))) (fun r m=>by kernel_rfl)))) (fun r m=>by kernel_rfl))) (fun r m=>by kernel_rfl))) (fun r m=>by kernel_rfl))) (seqQ (f:=fun r m=>Qy9 G (r 6) (r 0) (r 4) (r 5) m) (tr (blockQ (loopQ (fun i r m=>Q4t G i (r 6) (r 0) (r 4) (r 5) m) (fun _ _=>rfl) (fun i0=>tr (seqQ (f:=fun r m=>Qvm G (Q4t G i0) (r 6) (r 0) (r 4) (r 5) m) (tr (tr (seqQ (f:=fun r m=>Qjf G (Q4t G i0) (r 6) (r 0) (r 4) (r 5) m) (fun r m=>by kernel_rfl)) (blockQ (seqQ (f:=fun r m=>Qjg G (Q4t G i0) (r 25) (r 4) (r 0) (r 5) (r 6) m) (fun r m=>by kernel_rfl)))) (fun r m=>by kernel_rfl))) (fun r m=>by kernel_rfl)))) (fun r m=>by kernel_rfl)))) (fun r m=>by kernel_rfl))) (fun r m=>by kernel_rfl))) (fun r m=>by kernel_rfl))) (fun r m=>by kernel_rfl)) m
def Q1fi:En:=⟨Q12x,Tryz.f164,Tryz.func164,by kernel_rfl,arg1 Qpb,okarg1 Q1fu⟩
def Q1ea (G:Gt)(m:M):R:=
  some ((.bool true),m)
def Qcj (G:Gt)(k0:V → V → V → M → R)(p55 p16 p15 p14:V)(m:M):R:=
  brb p55
  (some ((.bool false),m))
  (bp (pur (bin .add true true .int p16 (.int .i64 1)) m) fun x0 m=>
  k0 x0 p15 p14 m)
def Qhd (G:Gt)(k0:V → V → V → M → R)(p5 p3 p4 p16 p15 p14:V)(m:M):R:=
  bp (pur (un .not p5) m) fun x1 m=>
  brb x1
  (bp (pur (bin .eql true true .int p3 (.int .i64 0)) m) fun x2 m=>
  brb x2
  (Qcj G k0 (.bool true) p16 p15 p14 m)
  (bp (pur (bin .leq true true .int (.int .u8 48) p4) m) fun x3 m=>
  brb x3
  (bp (pur (bin .leq true true .int p4 (.int .u8 57)) m) fun x4 m=>
  bp (pur (un .not x4) m) fun x5 m=>
  brb x5
  (bp (conv .intStr p4 m) fun x6 m=>
  bp (G.tab Q178 [(.string ⟨#[45,95,46,47]⟩),x6] m) fun x7 m=>
  bp (pur (un .not x7) m) fun x8 m=>
  Qcj G k0 x8 p16 p15 p14 m)
  (Qcj G k0 (.bool false) p16 p15 p14 m))
  (bp (pur (un .not (.bool false)) m) fun x9 m=>
  brb x9
  (bp (conv .intStr p4 m) fun x10 m=>
  bp (G.tab Q178 [(.string ⟨#[45,95,46,47]⟩),x10] m) fun x11 m=>
  bp (pur (un .not x11) m) fun x12 m=>
  Qcj G k0 x12 p16 p15 p14 m)
  (Qcj G k0 (.bool false) p16 p15 p14 m))))
  (Qcj G k0 (.bool false) p16 p15 p14 m)
def Q1eb (G:Gt)(k0:V → V → V → M → R)(p4 p3 p16 p15 p14:V)(m:M):R:=
  bp (pur (bin .leq true true .int (.int .u8 97) p4) m) fun x13 m=>
  brb x13
  (bp (pur (bin .leq true true .int p4 (.int .u8 122)) m) fun x14 m=>
  brb x14
  (Qhd G k0 (.bool true) p3 p4 p16 p15 p14 m)
  (bp (pur (bin .leq true true .int (.int .u8 65) p4) m) fun x15 m=>
  brb x15
  (bp (pur (bin .leq true true .int p4 (.int .u8 90)) m) fun x16 m=>
  Qhd G k0 x16 p3 p4 p16 p15 p14 m)
  (Qhd G k0 (.bool false) p3 p4 p16 p15 p14 m)))
  (bp (pur (bin .leq true true .int (.int .u8 65) p4) m) fun x17 m=>
  brb x17
  (bp (pur (bin .leq true true .int p4 (.int .u8 90)) m) fun x18 m=>
  Qhd G k0 x18 p3 p4 p16 p15 p14 m)
  (Qhd G k0 (.bool false) p3 p4 p16 p15 p14 m))
def Q1ec (G:Gt)(k0:V → V → V → M → R)(p16 p14 p15:V)(m:M):R:=
  bp (pur (aIndexAddrSl 1 p14 p16) m) fun x19 m=>
  bp (pur (aLoad false 1 x19 m) m) fun x20 m=>
  Q1eb G k0 x20 p16 p16 p15 p14 m
def Q1ed (G:Gt)(k0:V → V → V → M → R)(p17 p16 p14 p15:V)(m:M):R:=
  brb p17
  (Q1ec G k0 p16 p14 p15 m)
  (Q1ea G m)
def Qa9 (G:Gt):Nat → V → V → V → M → R
 | 0,_,_,_,_=>none
 | i + 1,p16,p15,p14,m=>
  bp (pur (bin .lss false true .int p16 p15) m) fun x21 m=>
  Q1ed G (Qa9 G i) x21 p16 p14 p15 m
def Q1ee (G:Gt)(p16 p15 p14:V)(m:M):R:=
  Qa9 G G.rds p16 p15 p14 m
def Q1ef (G:Gt)(p0:V)(m:M):R:=
  bp (conv .bytes p0 m) fun x22 m=>
  bp (pur (lenK 1 x22 m) m) fun x23 m=>
  Q1ee G (.int .i64 0) x23 x22 m
def Q136 (G:Gt)(p12 p0:V)(m:M):R:=
  brb p12
  (some ((.bool false),m))
  (Q1ef G p0 m)
def Q1eg (G:Gt)(p0:V)(m:M):R:=
  bp (pur (bin .eql true true .str p0 (.string ⟨#[]⟩)) m) fun x24 m=>
  brb x24
  (Q136 G (.bool true) p0 m)
  (bp (pur (lenK 0 p0 m) m) fun x25 m=>
  bp (pur (bin .gtr true true .int x25 (.int .i64 32)) m) fun x26 m=>
  Q136 G x26 p0 m)
def Q1ar (G:Gt)(p0:V)(m:M):R:=
  Q1eg G p0 m
theorem Q1sl (G:Gt)(a0:V)(m:M):ef G Tryz.f167 [a0] m = Q1ar G a0 m:=
  evFn_of (r:=fun r m=>Q1ar G (r 0) m) rfl rfl (tr (seqQ (f:=fun r m=>Q1eg G (r 0) m) (tr (tr (seqQ (f:=fun r m=>Q1ef G (r 0) m) (tr (tr (seqQ (f:=fun r m=>Q1ea G m) (fun r m=>by kernel_rfl)) (seqQ (f:=fun r m=>Q1ee G (r 16) (r 15) (r 14) m) (tr (blockQ (loopQ (fun i r m=>Qa9 G i (r 16) (r 15) (r 14) m) (fun _ _=>rfl) (fun i0=>tr (seqQ (f:=fun r m=>Q1ed G (Qa9 G i0) (r 17) (r 16) (r 14) (r 15) m) (tr (seqQ (f:=fun r m=>Q1ec G (Qa9 G i0) (r 16) (r 14) (r 15) m) (tr (tr seqD (blockQ (seqQ (f:=fun r m=>Q1eb G (Qa9 G i0) (r 4) (r 3) (r 16) (r 15) (r 14) m) (tr (seqQ (f:=fun r m=>Qhd G (Qa9 G i0) (r 5) (r 3) (r 4) (r 16) (r 15) (r 14) m) (tr (seqQ (f:=fun r m=>Qcj G (Qa9 G i0) (r 55) (r 16) (r 15) (r 14) m) (fun r m=>by kernel_rfl)) (fun r m=>by kernel_rfl))) (fun r m=>by kernel_rfl))))) (fun r m=>by kernel_rfl))) (fun r m=>by kernel_rfl))) (fun r m=>by kernel_rfl)))) (fun r m=>by kernel_rfl)))) (fun r m=>by kernel_rfl))) (seqQ (f:=fun r m=>Q136 G (r 12) (r 0) m) (fun r m=>by kernel_rfl))) (fun r m=>by kernel_rfl))) (fun r m=>by kernel_rfl)) m
def Q1s6:En:=⟨Q1ac,Tryz.f167,Tryz.func167,by kernel_rfl,arg1 Q1ar,okarg1 Q1sl⟩
end
end Go.Ab.Sh
