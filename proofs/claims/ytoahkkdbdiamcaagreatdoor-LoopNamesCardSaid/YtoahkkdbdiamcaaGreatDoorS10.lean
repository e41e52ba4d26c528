/-
  Functions of the program as plain definitions. No conditions.
-/
import Derived.Test.YtoahkkdbdiamcaaGreatDoorAb5
import Derived.Test.YtoahkkdbdiamcaaGreatDoorZ
import Derived.KernelRfl
import Derived.Test.YtoahkkdbdiamcaaGreatDoorProg
set_option linter.unusedVariables false
set_option maxRecDepth 100000
namespace Go.Ab.Sh
open Go Go.Ab Go.Proofs
noncomputable section
def Qv2 (G:Gt)(p1 p0:V)(m:M):R:=
  bp (some (aNew Q7 (Value.cells p1).toList m)) fun x0 m=>
  bp (pur (aLoad true 2 x0 m) m) fun x1 m=>
  bp (G.tab Q152 [p0,x1] m) fun x2 m=>
  bp (pur (bin .neq true true .int x2 (.int .i64 0)) m) fun x3 m=>
  brb x3
  (some (.tuple ⟨[(.slice none 0 0),x2]⟩,m))
  (bp (pur (aNilCheck p0) m) fun x4 m=>
  bp (pur (aFieldAddr 1 x4) m) fun x5 m=>
  bp (pur (aLoad false 1 x5 m) m) fun x6 m=>
  bp (pur (aLoad true 2 x0 m) m) fun x7 m=>
  bp (pur (aLookup (.struct [(0,1,false,.int),(1,1,false,.int)]) (.slice none 0 0) false x6 x7 m) m) fun x8 m=>
  bp (G.tab Q71 [x8] m) fun x9 m=>
  some (.tuple ⟨[x9,(.int .i64 0)]⟩,m))
theorem Q1qs (G:Gt)(a0 a1:V)(m:M):ef G Tryz.f181 [a0,a1] m = Qv2 G a1 a0 m:=
  evFn_of (r:=fun r m=>Qv2 G (r 1) (r 0) m) rfl rfl (fun r m=>by kernel_rfl) m
def Q1qd:En:=⟨Qv3,Tryz.f181,Tryz.func181,by kernel_rfl,arg2 (fun G a0 a1 m=>Qv2 G a1 a0 m),okarg2 Q1qs⟩
def Q5z (G:Gt)(k0:V → V → V → V → V → V → V → M → R)(p97 p0 p1 p2 p13 p4 p3 p10 p11 p12:V)(m:M):R:=
  brb p97
  (bp (G.tab Qoa [p0,p1,p2,p13,p4] m) fun x0 m=>
  k0 p2 x0 p0 p4 p3 p10 p11 m)
  (bp (G.tab Qts [p0,p1,p2,p13,p4] m) fun x1 m=>
  bp (pur (aExtract x1 0) m) fun x2 m=>
  bp (pur (aExtract x1 1) m) fun x3 m=>
  bp (pur (bin .sub false true .int x2 p1) m) fun x4 m=>
  bp (pur (bin .sub false true .int p2 x2) m) fun x5 m=>
  bp (pur (bin .quo true true .int p12 (.int .i64 8)) m) fun x6 m=>
  bp (pur (bin .lss false true .int x4 x5) m) fun x7 m=>
  brb x7
  (bp (pur (bin .geq false true .int x4 x6) m) fun x8 m=>
  bp (G.tab Q3i [p0,p1,x2,p3,p4] m) fun x9 m=>
  bp (pur (bin .add true true .int x2 (.int .i64 1)) m) fun x10 m=>
  k0 p2 x10 p0 p4 p3 x8 x3 m)
  (bp (pur (bin .geq false true .int x5 x6) m) fun x11 m=>
  bp (pur (bin .add true true .int x2 (.int .i64 1)) m) fun x12 m=>
  bp (G.tab Q3i [p0,x12,p2,p3,p4] m) fun x13 m=>
  k0 x2 p1 p0 p4 p3 x11 x3 m))
def Q69 (G:Gt)(k0:V → V → V → V → V → V → V → M → R)(p1 p4 p0 p13 p2 p3 p10 p11 p12:V)(m:M):R:=
  bp (pur (bin .gtr true true .int p1 (.int .i64 0)) m) fun x14 m=>
  brt x14
  (bp (pur (bin .sub true true .int p1 (.int .i64 1)) m) fun x15 m=>
  bp (pur (aIndexAddrSl 8 p0 x15) m) fun x16 m=>
  bp (pur (aLoad true 8 x16 m) m) fun x17 m=>
  bp (pur (aIndexAddrSl 8 p0 p13) m) fun x18 m=>
  bp (pur (aLoad true 8 x18 m) m) fun x19 m=>
  bp (evCall G.tab p4 [x17,x19] m) fun x20 m=>
  bp (pur (bin .lss true true .int x20 (.int .i64 0)) m) fun x21 m=>
  bp (pur (un .not x21) m) fun x22 m=>
  Q5z G k0 x22 p0 p1 p2 p13 p4 p3 p10 p11 p12 m)
  (Q5z G k0 (.bool false) p0 p1 p2 p13 p4 p3 p10 p11 p12 m)
  (none)
def Q2s (G:Gt)(k0:V → V → V → V → V → V → V → M → R)(p75 p0 p1 p2 p4 p13 p3 p10 p11 p12:V)(m:M):R:=
  brb p75
  (bp (G.tab Qjq [p0,p1,p2,p4] m) fun x23 m=>
  brb x23
  (some (.tuple ⟨[]⟩,m))
  (Q69 G k0 p1 p4 p0 p13 p2 p3 p10 p11 p12 m))
  (Q69 G k0 p1 p4 p0 p13 p2 p3 p10 p11 p12 m)
def Q6a (G:Gt)(k0:V → V → V → V → V → V → V → M → R)(p10 p11 p14 p0 p1 p2 p4 p13 p3 p12:V)(m:M):R:=
  brb p10
  (brb p11
  (bp (pur (bin .eql true true .int p14 (.int .i64 1)) m) fun x24 m=>
  Q2s G k0 x24 p0 p1 p2 p4 p13 p3 p10 p11 p12 m)
  (Q2s G k0 (.bool false) p0 p1 p2 p4 p13 p3 p10 p11 p12 m))
  (Q2s G k0 (.bool false) p0 p1 p2 p4 p13 p3 p10 p11 p12 m)
def Qel (G:Gt)(k0:V → V → V → V → V → V → V → M → R)(p14 p0 p1 p2 p4 p13 p10 p11 p3 p12:V)(m:M):R:=
  bp (pur (bin .eql true true .int p14 (.int .i64 2)) m) fun x25 m=>
  brb x25
  (bp (G.tab Qpv [p0,p1,p2,p4] m) fun x26 m=>
  bp (pur (bin .sub true true .int p2 (.int .i64 1)) m) fun x27 m=>
  bp (pur (bin .sub false true .int p13 p1) m) fun x28 m=>
  bp (pur (bin .sub false true .int x27 x28) m) fun x29 m=>
  Q6a G k0 p10 p11 (.int .i64 1) p0 p1 p2 p4 x29 p3 p12 m)
  (Q6a G k0 p10 p11 p14 p0 p1 p2 p4 p13 p3 p12 m)
def Q6b (G:Gt)(k0:V → V → V → V → V → V → V → M → R)(p0 p1 p2 p4 p10 p11 p3 p12:V)(m:M):R:=
  bp (G.tab Qqy [p0,p1,p2,p4] m) fun x30 m=>
  bp (pur (aExtract x30 0) m) fun x31 m=>
  bp (pur (aExtract x30 1) m) fun x32 m=>
  Qel G k0 x32 p0 p1 p2 p4 x31 p10 p11 p3 p12 m
def Qem (G:Gt)(k0:V → V → V → V → V → V → V → M → R)(p10 p0 p1 p2 p4 p3 p11 p12:V)(m:M):R:=
  bp (pur (un .not p10) m) fun x33 m=>
  brb x33
  (bp (G.tab Qp3 [p0,p1,p2,p4] m) fun x34 m=>
  bp (pur (bin .sub true true .int p3 (.int .i64 1)) m) fun x35 m=>
  Q6b G k0 p0 p1 p2 p4 p10 p11 x35 p12 m)
  (Q6b G k0 p0 p1 p2 p4 p10 p11 p3 p12 m)
def Qen (G:Gt)(k0:V → V → V → V → V → V → V → M → R)(p3 p0 p1 p2 p4 p10 p11 p12:V)(m:M):R:=
  bp (pur (bin .eql true true .int p3 (.int .i64 0)) m) fun x36 m=>
  brb x36
  (bp (G.tab Qv4 [p0,p1,p2,p4] m) fun x37 m=>
  some (.tuple ⟨[]⟩,m))
  (Qem G k0 p10 p0 p1 p2 p4 p3 p11 p12 m)
def Qeo (G:Gt)(k0:V → V → V → V → V → V → V → M → R)(p12 p0 p1 p2 p4 p3 p10 p11:V)(m:M):R:=
  bp (pur (bin .leq true true .int p12 (.int .i64 12)) m) fun x38 m=>
  brb x38
  (bp (G.tab Qbl [p0,p1,p2,p4] m) fun x39 m=>
  some (.tuple ⟨[]⟩,m))
  (Qen G k0 p3 p0 p1 p2 p4 p10 p11 p12 m)
def Q2 (G:Gt):Nat → V → V → V → V → V → V → V → M → R
 | 0,_,_,_,_,_,_,_,_=>none
 | i + 1,p2,p1,p0,p4,p3,p10,p11,m=>
  bp (pur (bin .sub false true .int p2 p1) m) fun x40 m=>
  Qeo G (Q2 G i) x40 p0 p1 p2 p4 p3 p10 p11 m
def Qep (G:Gt)(p2 p1 p0 p4 p3 p10 p11:V)(m:M):R:=
  Q2 G G.rds p2 p1 p0 p4 p3 p10 p11 m
def Qeq (G:Gt)(p2 p1 p0 p4 p3 p10:V)(m:M):R:=
  Qep G p2 p1 p0 p4 p3 p10 (.bool true) m
def Q78 (G:Gt)(p2 p1 p0 p4 p3:V)(m:M):R:=
  Qeq G p2 p1 p0 p4 p3 (.bool true) m
theorem Qx3 (G:Gt)(a0 a1 a2 a3 a4:V)(m:M):ef G Tryz.f182 [a0,a1,a2,a3,a4] m = Q78 G a2 a1 a0 a4 a3 m:=
  evFn_of (r:=fun r m=>Q78 G (r 2) (r 1) (r 0) (r 4) (r 3) m) rfl rfl (tr (seqQ (f:=fun r m=>Qeq G (r 2) (r 1) (r 0) (r 4) (r 3) (r 10) m) (tr (seqQ (f:=fun r m=>Qep G (r 2) (r 1) (r 0) (r 4) (r 3) (r 10) (r 11) m) (tr (blockQ (loopQ (fun i r m=>Q2 G i (r 2) (r 1) (r 0) (r 4) (r 3) (r 10) (r 11) m) (fun _ _=>rfl) (fun i0=>tr (blockQ (seqQ (f:=fun r m=>Qeo G (Q2 G i0) (r 12) (r 0) (r 1) (r 2) (r 4) (r 3) (r 10) (r 11) m) (tr (seqQ (f:=fun r m=>Qen G (Q2 G i0) (r 3) (r 0) (r 1) (r 2) (r 4) (r 10) (r 11) (r 12) m) (tr (seqQ (f:=fun r m=>Qem G (Q2 G i0) (r 10) (r 0) (r 1) (r 2) (r 4) (r 3) (r 11) (r 12) m) (tr (seqQ (f:=fun r m=>Q6b G (Q2 G i0) (r 0) (r 1) (r 2) (r 4) (r 10) (r 11) (r 3) (r 12) m) (tr (seqQ (f:=fun r m=>Qel G (Q2 G i0) (r 14) (r 0) (r 1) (r 2) (r 4) (r 13) (r 10) (r 11) (r 3) (r 12) m) (tr (seqQ (f:=fun r m=>Q6a G (Q2 G i0) (r 10) (r 11) (r 14) (r 0) (r 1) (r 2) (r 4) (r 13) (r 3) (r 12) m) (tr (tr (seqQ (f:=fun r m=>Q69 G (Q2 G i0) (r 1) (r 4) (r 0) (r 13) (r 2) (r 3) (r 10) (r 11) (r 12) m) (tr (tr seqD (seqQ (f:=fun r m=>Q5z G (Q2 G i0) (r 97) (r 0) (r 1) (r 2) (r 13) (r 4) (r 3) (r 10) (r 11) (r 12) m) (fun r m=>by kernel_rfl))) (fun r m=>by kernel_rfl))) (seqQ (f:=fun r m=>Q2s G (Q2 G i0) (r 75) (r 0) (r 1) (r 2) (r 4) (r 13) (r 3) (r 10) (r 11) (r 12) m) (fun r m=>by kernel_rfl))) (fun r m=>by kernel_rfl))) (fun r m=>by kernel_rfl))) (fun r m=>by kernel_rfl))) (fun r m=>by kernel_rfl))) (fun r m=>by kernel_rfl))) (fun r m=>by kernel_rfl)))) (fun r m=>by kernel_rfl)))) (fun r m=>by kernel_rfl))) (fun r m=>by kernel_rfl))) (fun r m=>by kernel_rfl)) m
def Qx0:En:=⟨Q3i,Tryz.f182,Tryz.func182,by kernel_rfl,arg5 (fun G a0 a1 a2 a3 a4 m=>Q78 G a2 a1 a0 a4 a3 m),okarg5 Qx3⟩
def Q18r (G:Gt)(p0:V)(m:M):R:=
  brb (.bool false)
  (bp (conv (.int .u32) p0 m) fun x0 m=>
  bp (G.tab Q1ug [x0] m) fun x1 m=>
  some (x1,m))
  (bp (G.tab Q1fi [p0] m) fun x2 m=>
  some (x2,m))
theorem Q1xn (G:Gt)(a0:V)(m:M):ef G Tryz.f183 [a0] m = Q18r G a0 m:=
  evFn_of (r:=fun r m=>Q18r G (r 0) m) rfl rfl (fun r m=>by kernel_rfl) m
def Q1x9:En:=⟨Q6u,Tryz.f183,Tryz.func183,by kernel_rfl,arg1 Q18r,okarg1 Q1xn⟩
def Q1k0 (G:Gt)(p3:V)(m:M):R:=
  some (p3,m)
def Q18s (G:Gt):Nat → V → V → V → V → M → R
 | 0,_,_,_,_,_=>none
 | i + 1,p8,p7,p6,p3,m=>
  bp (pur (bin .lss false true .int p8 p7) m) fun x0 m=>
  brb x0
  (bp (pur (aIndexAddrSl 1 p6 p8) m) fun x1 m=>
  bp (pur (aLoad false 1 x1 m) m) fun x2 m=>
  bp (pur (bin .neq false true .int x2 p3) m) fun x3 m=>
  brb x3
  (some (x2,m))
  (bp (pur (bin .add true true .int p8 (.int .i64 1)) m) fun x4 m=>
  (Q18s G i) x4 p7 p6 p3 m))
  (Q1k0 G p3 m)
def Q1k1 (G:Gt)(p8 p7 p6 p3:V)(m:M):R:=
  Q18s G G.rds p8 p7 p6 p3 m
def Q1k2 (G:Gt)(p0 p3:V)(m:M):R:=
  bp (pur (lenK 1 p0 m) m) fun x5 m=>
  Q1k1 G (.int .i64 0) x5 p0 p3 m
def Q1k3 (G:Gt)(p0:V)(m:M):R:=
  Q1k2 G p0 (.int .i64 0) m
def Q1eu (G:Gt)(p0:V)(m:M):R:=
  Q1k3 G p0 m
theorem Q20v (G:Gt)(a0:V)(m:M):ef G Tryz.f184 [a0] m = Q1eu G a0 m:=
  evFn_of (r:=fun r m=>Q1eu G (r 0) m) rfl rfl (tr (seqQ (f:=fun r m=>Q1k3 G (r 0) m) (tr (seqQ (f:=fun r m=>Q1k2 G (r 0) (r 3) m) (tr (tr (seqQ (f:=fun r m=>Q1k0 G (r 3) m) (fun r m=>by kernel_rfl)) (seqQ (f:=fun r m=>Q1k1 G (r 8) (r 7) (r 6) (r 3) m) (tr (blockQ (loopQ (fun i r m=>Q18s G i (r 8) (r 7) (r 6) (r 3) m) (fun _ _=>rfl) (fun i0=>fun r m=>by kernel_rfl))) (fun r m=>by kernel_rfl)))) (fun r m=>by kernel_rfl))) (fun r m=>by kernel_rfl))) (fun r m=>by kernel_rfl)) m
def Q20k:En:=⟨Q1pc,Tryz.f184,Tryz.func184,by kernel_rfl,arg1 Q1eu,okarg1 Q20v⟩
def Qpw (G:Gt)(p2:V)(m:M):R:=
  some (p2,m)
def Q16l (G:Gt)(p0:V)(m:M):R:=
  bp (pur (lenK 0 p0 m) m) fun x0 m=>
  bp (pur (bin .geq true true .int x0 (.int .i64 1)) m) fun x1 m=>
  brb x1
  (bp (pur (lenK 0 p0 m) m) fun x2 m=>
  bp (pur (bin .leq true true .int x2 (.int .i64 32)) m) fun x3 m=>
  Qpw G x3 m)
  (Qpw G (.bool false) m)
def Qic (G:Gt)(k0:V → V → M → R)(p61 p3 p0:V)(m:M):R:=
  brb p61
  (some ((.bool false),m))
  (bp (pur (bin .add true true .int p3 (.int .i64 1)) m) fun x4 m=>
  k0 x4 p0 m)
def Q2a (G:Gt)(k0:V → V → M → R)(p5 p3 p6 p0:V)(m:M):R:=
  bp (pur (un .not p5) m) fun x5 m=>
  brb x5
  (bp (pur (bin .eql true true .int p3 (.int .i64 0)) m) fun x6 m=>
  brb x6
  (Qic G k0 (.bool true) p3 p0 m)
  (bp (pur (un .not p6) m) fun x7 m=>
  Qic G k0 x7 p3 p0 m))
  (Qic G k0 (.bool false) p3 p0 m)
def Q7g (G:Gt)(k0:V → V → M → R)(p4 p5 p3 p0:V)(m:M):R:=
  bp (pur (bin .geq true true .int p4 (.int .u8 48)) m) fun x8 m=>
  brb x8
  (bp (pur (bin .leq true true .int p4 (.int .u8 57)) m) fun x9 m=>
  brb x9
  (Q2a G k0 p5 p3 (.bool true) p0 m)
  (bp (pur (bin .eql true true .int p4 (.int .u8 45)) m) fun x10 m=>
  brb x10
  (Q2a G k0 p5 p3 (.bool true) p0 m)
  (bp (pur (bin .eql true true .int p4 (.int .u8 95)) m) fun x11 m=>
  brb x11
  (Q2a G k0 p5 p3 (.bool true) p0 m)
  (bp (pur (bin .eql true true .int p4 (.int .u8 46)) m) fun x12 m=>
  brb x12
  (Q2a G k0 p5 p3 (.bool true) p0 m)
  (bp (pur (bin .eql true true .int p4 (.int .u8 47)) m) fun x13 m=>
  Q2a G k0 p5 p3 x13 p0 m)))))
  (bp (pur (bin .eql true true .int p4 (.int .u8 45)) m) fun x14 m=>
  brb x14
  (Q2a G k0 p5 p3 (.bool true) p0 m)
  (bp (pur (bin .eql true true .int p4 (.int .u8 95)) m) fun x15 m=>
  brb x15
  (Q2a G k0 p5 p3 (.bool true) p0 m)
  (bp (pur (bin .eql true true .int p4 (.int .u8 46)) m) fun x16 m=>
  brb x16
  (Q2a G k0 p5 p3 (.bool true) p0 m)
  (bp (pur (bin .eql true true .int p4 (.int .u8 47)) m) fun x17 m=>
  Q2a G k0 p5 p3 x17 p0 m))))
def Q16m (G:Gt)(k0:V → V → M → R)(p4 p3 p0:V)(m:M):R:=
  bp (pur (bin .geq true true .int p4 (.int .u8 97)) m) fun x18 m=>
  brb x18
  (bp (pur (bin .leq true true .int p4 (.int .u8 122)) m) fun x19 m=>
  brb x19
  (Q7g G k0 p4 (.bool true) p3 p0 m)
  (bp (pur (bin .geq true true .int p4 (.int .u8 65)) m) fun x20 m=>
  brb x20
  (bp (pur (bin .leq true true .int p4 (.int .u8 90)) m) fun x21 m=>
  Q7g G k0 p4 x21 p3 p0 m)
  (Q7g G k0 p4 (.bool false) p3 p0 m)))
  (bp (pur (bin .geq true true .int p4 (.int .u8 65)) m) fun x22 m=>
  brb x22
  (bp (pur (bin .leq true true .int p4 (.int .u8 90)) m) fun x23 m=>
  Q7g G k0 p4 x23 p3 p0 m)
  (Q7g G k0 p4 (.bool false) p3 p0 m))
def Q16n (G:Gt)(k0:V → V → M → R)(p0 p3:V)(m:M):R:=
  bp (pur (aIndexStr p0 p3) m) fun x24 m=>
  Q16m G k0 x24 p3 p0 m
def Q3c (G:Gt):Nat → V → V → M → R
 | 0,_,_,_=>none
 | i + 1,p3,p0,m=>
  bp (pur (lenK 0 p0 m) m) fun x25 m=>
  bp (pur (bin .lss false true .int p3 x25) m) fun x26 m=>
  brb x26
  (Q16n G (Q3c G i) p0 p3 m)
  (Q16l G p0 m)
def Q16o (G:Gt)(p3 p0:V)(m:M):R:=
  Q3c G G.rds p3 p0 m
def Q16p (G:Gt)(p0:V)(m:M):R:=
  Q16o G (.int .i64 0) p0 m
def Qv5 (G:Gt)(p0:V)(m:M):R:=
  Q16p G p0 m
theorem Q1qt (G:Gt)(a0:V)(m:M):ef G Tryz.f188 [a0] m = Qv5 G a0 m:=
  evFn_of (r:=fun r m=>Qv5 G (r 0) m) rfl rfl (tr (seqQ (f:=fun r m=>Q16p G (r 0) m) (tr (tr (seqQ (f:=fun r m=>Q16l G (r 0) m) (tr (seqQ (f:=fun r m=>Qpw G (r 2) m) (fun r m=>by kernel_rfl)) (fun r m=>by kernel_rfl))) (seqQ (f:=fun r m=>Q16o G (r 3) (r 0) m) (tr (blockQ (loopQ (fun i r m=>Q3c G i (r 3) (r 0) m) (fun _ _=>rfl) (fun i0=>tr (seqQ (f:=fun r m=>Q16n G (Q3c G i0) (r 0) (r 3) m) (tr (tr seqD (blockQ (seqQ (f:=fun r m=>Q16m G (Q3c G i0) (r 4) (r 3) (r 0) m) (tr (seqQ (f:=fun r m=>Q7g G (Q3c G i0) (r 4) (r 5) (r 3) (r 0) m) (tr (seqQ (f:=fun r m=>Q2a G (Q3c G i0) (r 5) (r 3) (r 6) (r 0) m) (tr (seqQ (f:=fun r m=>Qic G (Q3c G i0) (r 61) (r 3) (r 0) m) (fun r m=>by kernel_rfl)) (fun r m=>by kernel_rfl))) (fun r m=>by kernel_rfl))) (fun r m=>by kernel_rfl))))) (fun r m=>by kernel_rfl))) (fun r m=>by kernel_rfl)))) (fun r m=>by kernel_rfl)))) (fun r m=>by kernel_rfl))) (fun r m=>by kernel_rfl)) m
def Q1qh:En:=⟨Q1aq,Tryz.f188,Tryz.func188,by kernel_rfl,arg1 Qv5,okarg1 Q1qt⟩
def Qpx (G:Gt)(p0:V)(m:M):R:=
  bp (pur (bin .lss true true .int p0 (.int .i64 0)) m) fun x0 m=>
  brb x0
  (bp (pur (bin .add true true .int p0 (.int .i64 1)) m) fun x1 m=>
  bp (pur (un .neg x1) m) fun x2 m=>
  bp (conv (.int .u64) x2 m) fun x3 m=>
  bp (pur (bin .add true true .int x3 (.int .u64 1)) m) fun x4 m=>
  bp (G.tab Qpy [x4] m) fun x5 m=>
  bp (pur (bin .add true true .str (.string ⟨#[45]⟩) x5) m) fun x6 m=>
  some (x6,m))
  (bp (conv (.int .u64) p0 m) fun x7 m=>
  bp (G.tab Qpy [x7] m) fun x8 m=>
  some (x8,m))
theorem Q1lz (G:Gt)(a0:V)(m:M):ef G Tryz.f194 [a0] m = Qpx G a0 m:=
  evFn_of (r:=fun r m=>Qpx G (r 0) m) rfl rfl (fun r m=>by kernel_rfl) m
def Q1lt:En:=⟨Q16q,Tryz.f194,Tryz.func194,by kernel_rfl,arg1 Qpx,okarg1 Q1lz⟩
def Qhd (G:Gt)(p31 p0 p8:V)(m:M):R:=
  brb p31
  (bp (G.tab Q3o [p0,(.int .i64 10)] m) fun x0 m=>
  some ((.int .i64 0),m))
  (some (p8,m))
def Qrj (G:Gt)(p9 p8 p2 p0:V)(m:M):R:=
  bp (pur (bin .neq true true .int p9 (.int .i64 0)) m) fun x1 m=>
  brb x1
  (Qhd G (.bool true) p0 p8 m)
  (bp (pur (bin .lss false true .int p8 p2) m) fun x2 m=>
  Qhd G x2 p0 p8 m)
def Qhe (G:Gt)(p7 p2 p0:V)(m:M):R:=
  bp (G.tab Q1ar [p7] m) fun x3 m=>
  bp (pur (aExtract x3 0) m) fun x4 m=>
  bp (pur (aExtract x3 1) m) fun x5 m=>
  Qrj G x5 x4 p2 p0 m
def Qrk (G:Gt)(p1 p7 p2 p0:V)(m:M):R:=
  brb p1
  (bp (pur (bin .sub true true .int (.int .u32 4294967295) p7) m) fun x6 m=>
  Qhe G x6 p2 p0 m)
  (Qhe G p7 p2 p0 m)
def Qrl (G:Gt)(p0 p1 p7 p2:V)(m:M):R:=
  bp (pur (aNilCheck p0) m) fun x7 m=>
  bp (pur (aFieldAddr 4 x7) m) fun x8 m=>
  bp (pur (aLoad false 1 x8 m) m) fun x9 m=>
  bp (pur (bin .neq true true .int x9 (.int .i64 0)) m) fun x10 m=>
  brb x10
  (some ((.int .i64 0),m))
  (Qrk G p1 p7 p2 p0 m)
def Qrm (G:Gt)(p0 p1 p2:V)(m:M):R:=
  bp (G.tab Q8y [p0] m) fun x11 m=>
  Qrl G p0 p1 x11 p2 m
def Qjr (G:Gt)(p0 p1 p2:V)(m:M):R:=
  Qrm G p0 p1 p2 m
theorem Q1gn (G:Gt)(a0 a1 a2:V)(m:M):ef G Tryz.f195 [a0,a1,a2] m = Qjr G a0 a1 a2 m:=
  evFn_of (r:=fun r m=>Qjr G (r 0) (r 1) (r 2) m) rfl rfl (tr (seqQ (f:=fun r m=>Qrm G (r 0) (r 1) (r 2) m) (tr (seqQ (f:=fun r m=>Qrl G (r 0) (r 1) (r 7) (r 2) m) (tr (seqQ (f:=fun r m=>Qrk G (r 1) (r 7) (r 2) (r 0) m) (tr (seqQ (f:=fun r m=>Qhe G (r 7) (r 2) (r 0) m) (tr (seqQ (f:=fun r m=>Qrj G (r 9) (r 8) (r 2) (r 0) m) (tr (tr seqD (seqQ (f:=fun r m=>Qhd G (r 31) (r 0) (r 8) m) (fun r m=>by kernel_rfl))) (fun r m=>by kernel_rfl))) (fun r m=>by kernel_rfl))) (fun r m=>by kernel_rfl))) (fun r m=>by kernel_rfl))) (fun r m=>by kernel_rfl))) (fun r m=>by kernel_rfl)) m
def Q1gc:En:=⟨Qwt,Tryz.f195,Tryz.func195,by kernel_rfl,arg3 Qjr,okarg3 Q1gn⟩
end
end Go.Ab.Sh

set_option linter.unusedVariables false
set_option maxRecDepth 100000
namespace Go.Ab.Sh
open Go Go.Ab Go.Proofs
noncomputable section
def Q12o (G:Gt)(p7:V)(m:M):R:=
  bp (conv (.int .u32) p7 m) fun x0 m=>
  some (.tuple ⟨[x0,(.int .i64 0)]⟩,m)
def Qob (G:Gt):Nat → V → V → V → M → R
 | 0,_,_,_,_=>none
 | i + 1,p8,p4,p7,m=>
  bp (pur (bin .lss true true .int p8 (.int .i64 4)) m) fun x1 m=>
  brb x1
  (bp (pur (aIndexAddrSl 1 p4 p8) m) fun x2 m=>
  bp (pur (aLoad false 1 x2 m) m) fun x3 m=>
  bp (G.tab Q1as [x3,(.int .i64 255)] m) fun x4 m=>
  bp (pur (bin .lss true true .int x4 (.int .i64 0)) m) fun x5 m=>
  brb x5
  (some (.tuple ⟨[(.int .u32 0),(.int .i64 4)]⟩,m))
  (bp (pur (bin .mul true true .int (.int .i64 256) p7) m) fun x6 m=>
  bp (pur (bin .add false true .int x6 x4) m) fun x7 m=>
  bp (pur (bin .add true true .int p8 (.int .i64 1)) m) fun x8 m=>
  (Qob G i) x8 p4 x7 m))
  (Q12o G p7 m)
def Q12p (G:Gt)(p8 p4 p7:V)(m:M):R:=
  Qob G G.rds p8 p4 p7 m
def Q12q (G:Gt)(p4 p7:V)(m:M):R:=
  Q12p G (.int .i64 0) p4 p7 m
def Q12r (G:Gt)(p4:V)(m:M):R:=
  Q12q G p4 (.int .i64 0) m
def Q12s (G:Gt)(p4:V)(m:M):R:=
  bp (pur (lenK 1 p4 m) m) fun x9 m=>
  bp (pur (bin .neq true true .int x9 (.int .i64 4)) m) fun x10 m=>
  brb x10
  (some (.tuple ⟨[(.int .u32 0),(.int .i64 4)]⟩,m))
  (Q12r G p4 m)
def Qmo (G:Gt)(k0:V → V → V → V → M → R)(p6 p0 p4 p5:V)(m:M):R:=
  bp (pur (bin .add true true .int p6 (.int .i64 1)) m) fun x11 m=>
  k0 x11 p0 p4 p5 m
def Qmp (G:Gt)(k0:V → V → V → V → M → R)(p25 p4 p0 p5 p6:V)(m:M):R:=
  brb p25
  (bp (pur (aSliceStr p0 (some p5) (some p6)) m) fun x12 m=>
  bp (aBuildSlice Qye [(.string ⟨#[]⟩)] 1 1 [(0,x12)] m) fun x13 m=>
  bp (apS Qye 1 16 p4 x13 m) fun x14 m=>
  bp (pur (bin .add true true .int p6 (.int .i64 1)) m) fun x15 m=>
  Qmo G k0 p6 p0 x14 x15 m)
  (Qmo G k0 p6 p0 p4 p5 m)
def Q107 (G:Gt)(k0:V → V → V → V → M → R)(p6 p0 p4 p5:V)(m:M):R:=
  bp (pur (lenK 0 p0 m) m) fun x16 m=>
  bp (pur (bin .eql false true .int p6 x16) m) fun x17 m=>
  brb x17
  (Qmp G k0 (.bool true) p4 p0 p5 p6 m)
  (bp (pur (aIndexStr p0 p6) m) fun x18 m=>
  bp (pur (bin .eql true true .int x18 (.int .u8 46)) m) fun x19 m=>
  Qmp G k0 x19 p4 p0 p5 p6 m)
def Q5r (G:Gt):Nat → V → V → V → V → M → R
 | 0,_,_,_,_,_=>none
 | i + 1,p6,p0,p4,p5,m=>
  bp (pur (lenK 0 p0 m) m) fun x20 m=>
  bp (pur (bin .leq false true .int p6 x20) m) fun x21 m=>
  brb x21
  (Q107 G (Q5r G i) p6 p0 p4 p5 m)
  (Q12s G p4 m)
def Q12t (G:Gt)(p6 p0 p4 p5:V)(m:M):R:=
  Q5r G G.rds p6 p0 p4 p5 m
def Q12u (G:Gt)(p0 p4 p5:V)(m:M):R:=
  Q12t G (.int .i64 0) p0 p4 p5 m
def Q12v (G:Gt)(p0 p4:V)(m:M):R:=
  Q12u G p0 p4 (.int .i64 0) m
def Q12w (G:Gt)(p0:V)(m:M):R:=
  Q12v G p0 (.slice none 0 0) m
def Qsl (G:Gt)(p0:V)(m:M):R:=
  Q12w G p0 m
theorem Q1np (G:Gt)(a0:V)(m:M):ef G Tryz.f199 [a0] m = Qsl G a0 m:=
  evFn_of (r:=fun r m=>Qsl G (r 0) m) rfl rfl (tr (seqQ (f:=fun r m=>Q12w G (r 0) m) (tr (seqQ (f:=fun r m=>Q12v G (r 0) (r 4) m) (tr (seqQ (f:=fun r m=>Q12u G (r 0) (r 4) (r 5) m) (tr (tr (seqQ (f:=fun r m=>Q12s G (r 4) m) (tr (seqQ (f:=fun r m=>Q12r G (r 4) m) (tr (seqQ (f:=fun r m=>Q12q G (r 4) (r 7) m) (tr (tr (seqQ (f:=fun r m=>Q12o G (r 7) m) (fun r m=>by kernel_rfl)) (seqQ (f:=fun r m=>Q12p G (r 8) (r 4) (r 7) m) (tr (blockQ (loopQ (fun i r m=>Qob G i (r 8) (r 4) (r 7) m) (fun _ _=>rfl) (fun i0=>fun r m=>by kernel_rfl))) (fun r m=>by kernel_rfl)))) (fun r m=>by kernel_rfl))) (fun r m=>by kernel_rfl))) (fun r m=>by kernel_rfl))) (seqQ (f:=fun r m=>Q12t G (r 6) (r 0) (r 4) (r 5) m) (tr (blockQ (loopQ (fun i r m=>Q5r G i (r 6) (r 0) (r 4) (r 5) m) (fun _ _=>rfl) (fun i0=>tr (seqQ (f:=fun r m=>Q107 G (Q5r G i0) (r 6) (r 0) (r 4) (r 5) m) (tr (tr (seqQ (f:=fun r m=>Qmo G (Q5r G i0) (r 6) (r 0) (r 4) (r 5) m) (fun r m=>by kernel_rfl)) (blockQ (seqQ (f:=fun r m=>Qmp G (Q5r G i0) (r 25) (r 4) (r 0) (r 5) (r 6) m) (fun r m=>by kernel_rfl)))) (fun r m=>by kernel_rfl))) (fun r m=>by kernel_rfl)))) (fun r m=>by kernel_rfl)))) (fun r m=>by kernel_rfl))) (fun r m=>by kernel_rfl))) (fun r m=>by kernel_rfl))) (fun r m=>by kernel_rfl)) m
def Q1n3:En:=⟨Q18t,Tryz.f199,Tryz.func199,by kernel_rfl,arg1 Qsl,okarg1 Q1np⟩
def Qnm (G:Gt)(p9 p0 p1:V)(m:M):R:=
  brb p9
  (some (.tuple ⟨[(.int .i64 0),(.int .i64 1)]⟩,m))
  (bp (conv (.int .i32) p1 m) fun x0 m=>
  bp (G.tab Q9k [p0,x0,(.int .i32 0),(.int .i32 1)] m) fun x1 m=>
  bp (G.tab Q6l [p0,x1] m) fun x2 m=>
  bp (pur (aExtract x2 0) m) fun x3 m=>
  bp (pur (aExtract x2 1) m) fun x4 m=>
  some (.tuple ⟨[x3,x4]⟩,m))
def Qyb (G:Gt)(p6 p1 p0:V)(m:M):R:=
  brb p6
  (some (.tuple ⟨[(.int .i64 0),(.int .i64 2)]⟩,m))
  (bp (pur (bin .lss true true .int p1 (.int .i64 0)) m) fun x5 m=>
  brb x5
  (Qnm G (.bool true) p0 p1 m)
  (bp (pur (aNilCheck p0) m) fun x6 m=>
  bp (pur (aFieldAddr 0 x6) m) fun x7 m=>
  bp (pur (aLoad false 1 x7 m) m) fun x8 m=>
  bp (pur (bin .geq false true .int p1 x8) m) fun x9 m=>
  Qnm G x9 p0 p1 m))
def Qya (G:Gt)(p0 p1:V)(m:M):R:=
  bp (pur (binP m .eql true true .ptr p0 (.pointer none)) m) fun x10 m=>
  Qyb G x10 p1 p0 m
def Q7q (G:Gt)(p0 p1:V)(m:M):R:=
  Qya G p0 p1 m
theorem Q1w7 (G:Gt)(a0 a1:V)(m:M):ef G Tryz.f202 [a0,a1] m = Q7q G a0 a1 m:=
  evFn_of (r:=fun r m=>Q7q G (r 0) (r 1) m) rfl rfl (tr (seqQ (f:=fun r m=>Qya G (r 0) (r 1) m) (tr (tr seqD (blockQ (seqQ (f:=fun r m=>Qyb G (r 6) (r 1) (r 0) m) (tr (condQ (refQ) (seqQ (f:=fun r m=>Qnm G (r 9) (r 0) (r 1) m) (fun r m=>by kernel_rfl))) (fun r m=>by kernel_rfl))))) (fun r m=>by kernel_rfl))) (fun r m=>by kernel_rfl)) m
def Q14y:En:=⟨Q7r,Tryz.f202,Tryz.func202,by kernel_rfl,arg2 Q7q,okarg2 Q1w7⟩
def Q1nq (G:Gt)(p0:V)(m:M):R:=
  bp (pur (bin .mul true true .int (.int .i64 2) p0) m) fun x0 m=>
  bp (pur (bin .add true true .int x0 (.int .i64 1)) m) fun x1 m=>
  some (x1,m)
theorem Q259 (G:Gt)(a0:V)(m:M):ef G Tryz.f203 [a0] m = Q1nq G a0 m:=
  evFn_of (r:=fun r m=>Q1nq G (r 0) m) rfl rfl (fun r m=>by kernel_rfl) m
def Q250:En:=⟨Q1xo,Tryz.f203,Tryz.func203,by kernel_rfl,arg1 Q1nq,okarg1 Q259⟩
def Q15a (G:Gt)(p0 p1 p2:V)(m:M):R:=
  bp (aBuildSlice Qcu [(.int .i64 0)] 1 2 [(0,p1),(1,p2)] m) fun x0 m=>
  bp (G.tab Q2z [p0,x0] m) fun x1 m=>
  bp (pur (bin .neq true true .int x1 (.int .i64 0)) m) fun x2 m=>
  brb x2
  (some (.tuple ⟨[(.int .i64 0),x1]⟩,m))
  (bp (conv (.int .i32) p1 m) fun x3 m=>
  bp (conv (.int .i32) p2 m) fun x4 m=>
  bp (G.tab Q2g [p0,x4,(.int .i32 0),(.int .i32 1)] m) fun x5 m=>
  bp (conv (.int .i32) p2 m) fun x6 m=>
  bp (G.tab Q2g [p0,x3,x5,x6] m) fun x7 m=>
  bp (G.tab Q6l [p0,x7] m) fun x8 m=>
  bp (pur (aExtract x8 0) m) fun x9 m=>
  bp (pur (aExtract x8 1) m) fun x10 m=>
  some (.tuple ⟨[x9,x10]⟩,m))
theorem Q1w8 (G:Gt)(a0 a1 a2:V)(m:M):ef G Tryz.f204 [a0,a1,a2] m = Q15a G a0 a1 a2 m:=
  evFn_of (r:=fun r m=>Q15a G (r 0) (r 1) (r 2) m) rfl rfl (fun r m=>by kernel_rfl) m
def Q1vy:En:=⟨Q1hv,Tryz.f204,Tryz.func204,by kernel_rfl,arg3 Q15a,okarg3 Q1w8⟩
def Q15b (G:Gt)(p0 p1:V)(m:M):R:=
  bp (G.tab Q46 [p0,p1,(.int .i64 0),(.int .i64 1)] m) fun x0 m=>
  bp (pur (aExtract x0 0) m) fun x1 m=>
  bp (pur (aExtract x0 1) m) fun x2 m=>
  some (.tuple ⟨[x1,x2]⟩,m)
theorem Q1w9 (G:Gt)(a0 a1:V)(m:M):ef G Tryz.f206 [a0,a1] m = Q15b G a0 a1 m:=
  evFn_of (r:=fun r m=>Q15b G (r 0) (r 1) m) rfl rfl (fun r m=>by kernel_rfl) m
def Q1w1:En:=⟨Q15c,Tryz.f206,Tryz.func206,by kernel_rfl,arg2 Q15b,okarg2 Q1w9⟩
def Q1ev (G:Gt)(p0:V)(m:M):R:=
  bp (some (aNew Q3f (Value.cells p0).toList m)) fun x0 m=>
  bp (some (aNew Q3f Qaf m)) fun x1 m=>
  bp (pur (aFieldAddr 3 x0) m) fun x2 m=>
  bp (pur (aLoad false 1 x2 m) m) fun x3 m=>
  bp (G.tab Qk2 [x3] m) fun x4 m=>
  bp (pur (aFieldAddr 3 x0) m) fun x5 m=>
  bp (unt (aStore 1 x5 x4 m)) fun _ m=>
  bp (pur (aLoad true 4 x0 m) m) fun x6 m=>
  bp (unt (aStore 4 x1 x6 m)) fun _ m=>
  ob (ob (aLoad true 4 x1 m) fun v=>ob (some []) fun l=>some (v :: l)) fun l=>some (resVal l,m)
theorem Q20w (G:Gt)(a0:V)(m:M):ef G Tryz.f208 [a0] m = Q1ev G a0 m:=
  evFn_of (r:=fun r m=>Q1ev G (r 0) m) rfl rfl (fun r m=>by kernel_rfl) m
def Q20j:En:=⟨Q1pd,Tryz.f208,Tryz.func208,by kernel_rfl,arg1 Q1ev,okarg1 Q20w⟩
def Q79 (G:Gt)(k0:V → V → V → V → V → V → V → M → R)(p97 p0 p1 p2 p13 p4 p3 p10 p11 p12:V)(m:M):R:=
  brb p97
  (bp (G.tab Qqz [p0,p1,p2,p13,p4] m) fun x0 m=>
  k0 p2 x0 p0 p4 p3 p10 p11 m)
  (bp (G.tab Qyf [p0,p1,p2,p13,p4] m) fun x1 m=>
  bp (pur (aExtract x1 0) m) fun x2 m=>
  bp (pur (aExtract x1 1) m) fun x3 m=>
  bp (pur (bin .sub false true .int x2 p1) m) fun x4 m=>
  bp (pur (bin .sub false true .int p2 x2) m) fun x5 m=>
  bp (pur (bin .quo true true .int p12 (.int .i64 8)) m) fun x6 m=>
  bp (pur (bin .lss false true .int x4 x5) m) fun x7 m=>
  brb x7
  (bp (pur (bin .geq false true .int x4 x6) m) fun x8 m=>
  bp (G.tab Q4s [p0,p1,x2,p3,p4] m) fun x9 m=>
  bp (pur (bin .add true true .int x2 (.int .i64 1)) m) fun x10 m=>
  k0 p2 x10 p0 p4 p3 x8 x3 m)
  (bp (pur (bin .geq false true .int x5 x6) m) fun x11 m=>
  bp (pur (bin .add true true .int x2 (.int .i64 1)) m) fun x12 m=>
  bp (G.tab Q4s [p0,x12,p2,p3,p4] m) fun x13 m=>
  k0 x2 p1 p0 p4 p3 x11 x3 m))
def Q83 (G:Gt)(k0:V → V → V → V → V → V → V → M → R)(p1 p4 p0 p13 p2 p3 p10 p11 p12:V)(m:M):R:=
  bp (pur (bin .gtr true true .int p1 (.int .i64 0)) m) fun x14 m=>
  brt x14
  (bp (pur (bin .sub true true .int p1 (.int .i64 1)) m) fun x15 m=>
  bp (pur (aIndexAddrSl 4 p0 x15) m) fun x16 m=>
  bp (pur (aLoad true 4 x16 m) m) fun x17 m=>
  bp (pur (aIndexAddrSl 4 p0 p13) m) fun x18 m=>
  bp (pur (aLoad true 4 x18 m) m) fun x19 m=>
  bp (evCall G.tab p4 [x17,x19] m) fun x20 m=>
  bp (pur (bin .lss true true .int x20 (.int .i64 0)) m) fun x21 m=>
  bp (pur (un .not x21) m) fun x22 m=>
  Q79 G k0 x22 p0 p1 p2 p13 p4 p3 p10 p11 p12 m)
  (Q79 G k0 (.bool false) p0 p1 p2 p13 p4 p3 p10 p11 p12 m)
  (none)
def Q3j (G:Gt)(k0:V → V → V → V → V → V → V → M → R)(p75 p0 p1 p2 p4 p13 p3 p10 p11 p12:V)(m:M):R:=
  brb p75
  (bp (G.tab Qm4 [p0,p1,p2,p4] m) fun x23 m=>
  brb x23
  (some (.tuple ⟨[]⟩,m))
  (Q83 G k0 p1 p4 p0 p13 p2 p3 p10 p11 p12 m))
  (Q83 G k0 p1 p4 p0 p13 p2 p3 p10 p11 p12 m)
def Q84 (G:Gt)(k0:V → V → V → V → V → V → V → M → R)(p10 p11 p14 p0 p1 p2 p4 p13 p3 p12:V)(m:M):R:=
  brb p10
  (brb p11
  (bp (pur (bin .eql true true .int p14 (.int .i64 1)) m) fun x24 m=>
  Q3j G k0 x24 p0 p1 p2 p4 p13 p3 p10 p11 p12 m)
  (Q3j G k0 (.bool false) p0 p1 p2 p4 p13 p3 p10 p11 p12 m))
  (Q3j G k0 (.bool false) p0 p1 p2 p4 p13 p3 p10 p11 p12 m)
def Qhf (G:Gt)(k0:V → V → V → V → V → V → V → M → R)(p14 p0 p1 p2 p4 p13 p10 p11 p3 p12:V)(m:M):R:=
  bp (pur (bin .eql true true .int p14 (.int .i64 2)) m) fun x25 m=>
  brb x25
  (bp (G.tab Qtt [p0,p1,p2,p4] m) fun x26 m=>
  bp (pur (bin .sub true true .int p2 (.int .i64 1)) m) fun x27 m=>
  bp (pur (bin .sub false true .int p13 p1) m) fun x28 m=>
  bp (pur (bin .sub false true .int x27 x28) m) fun x29 m=>
  Q84 G k0 p10 p11 (.int .i64 1) p0 p1 p2 p4 x29 p3 p12 m)
  (Q84 G k0 p10 p11 p14 p0 p1 p2 p4 p13 p3 p12 m)
def Q85 (G:Gt)(k0:V → V → V → V → V → V → V → M → R)(p0 p1 p2 p4 p10 p11 p3 p12:V)(m:M):R:=
  bp (G.tab Qv6 [p0,p1,p2,p4] m) fun x30 m=>
  bp (pur (aExtract x30 0) m) fun x31 m=>
  bp (pur (aExtract x30 1) m) fun x32 m=>
  Qhf G k0 x32 p0 p1 p2 p4 x31 p10 p11 p3 p12 m
def Qhg (G:Gt)(k0:V → V → V → V → V → V → V → M → R)(p10 p0 p1 p2 p4 p3 p11 p12:V)(m:M):R:=
  bp (pur (un .not p10) m) fun x33 m=>
  brb x33
  (bp (G.tab Qsm [p0,p1,p2,p4] m) fun x34 m=>
  bp (pur (bin .sub true true .int p3 (.int .i64 1)) m) fun x35 m=>
  Q85 G k0 p0 p1 p2 p4 p10 p11 x35 p12 m)
  (Q85 G k0 p0 p1 p2 p4 p10 p11 p3 p12 m)
def Qhh (G:Gt)(k0:V → V → V → V → V → V → V → M → R)(p3 p0 p1 p2 p4 p10 p11 p12:V)(m:M):R:=
  bp (pur (bin .eql true true .int p3 (.int .i64 0)) m) fun x36 m=>
  brb x36
  (bp (G.tab Qzl [p0,p1,p2,p4] m) fun x37 m=>
  some (.tuple ⟨[]⟩,m))
  (Qhg G k0 p10 p0 p1 p2 p4 p3 p11 p12 m)
def Qhi (G:Gt)(k0:V → V → V → V → V → V → V → M → R)(p12 p0 p1 p2 p4 p3 p10 p11:V)(m:M):R:=
  bp (pur (bin .leq true true .int p12 (.int .i64 12)) m) fun x38 m=>
  brb x38
  (bp (G.tab Qdz [p0,p1,p2,p4] m) fun x39 m=>
  some (.tuple ⟨[]⟩,m))
  (Qhh G k0 p3 p0 p1 p2 p4 p10 p11 p12 m)
def Q9 (G:Gt):Nat → V → V → V → V → V → V → V → M → R
 | 0,_,_,_,_,_,_,_,_=>none
 | i + 1,p2,p1,p0,p4,p3,p10,p11,m=>
  bp (pur (bin .sub false true .int p2 p1) m) fun x40 m=>
  Qhi G (Q9 G i) x40 p0 p1 p2 p4 p3 p10 p11 m
def Qhj (G:Gt)(p2 p1 p0 p4 p3 p10 p11:V)(m:M):R:=
  Q9 G G.rds p2 p1 p0 p4 p3 p10 p11 m
def Qhk (G:Gt)(p2 p1 p0 p4 p3 p10:V)(m:M):R:=
  Qhj G p2 p1 p0 p4 p3 p10 (.bool true) m
def Q9h (G:Gt)(p2 p1 p0 p4 p3:V)(m:M):R:=
  Qhk G p2 p1 p0 p4 p3 (.bool true) m
theorem Q11n (G:Gt)(a0 a1 a2 a3 a4:V)(m:M):ef G Tryz.f209 [a0,a1,a2,a3,a4] m = Q9h G a2 a1 a0 a4 a3 m:=
  evFn_of (r:=fun r m=>Q9h G (r 2) (r 1) (r 0) (r 4) (r 3) m) rfl rfl (tr (seqQ (f:=fun r m=>Qhk G (r 2) (r 1) (r 0) (r 4) (r 3) (r 10) m) (tr (seqQ (f:=fun r m=>Qhj G (r 2) (r 1) (r 0) (r 4) (r 3) (r 10) (r 11) m) (tr (blockQ (loopQ (fun i r m=>Q9 G i (r 2) (r 1) (r 0) (r 4) (r 3) (r 10) (r 11) m) (fun _ _=>rfl) (fun i0=>tr (blockQ (seqQ (f:=fun r m=>Qhi G (Q9 G i0) (r 12) (r 0) (r 1) (r 2) (r 4) (r 3) (r 10) (r 11) m) (tr (seqQ (f:=fun r m=>Qhh G (Q9 G i0) (r 3) (r 0) (r 1) (r 2) (r 4) (r 10) (r 11) (r 12) m) (tr (seqQ (f:=fun r m=>Qhg G (Q9 G i0) (r 10) (r 0) (r 1) (r 2) (r 4) (r 3) (r 11) (r 12) m) (tr (seqQ (f:=fun r m=>Q85 G (Q9 G i0) (r 0) (r 1) (r 2) (r 4) (r 10) (r 11) (r 3) (r 12) m) (tr (seqQ (f:=fun r m=>Qhf G (Q9 G i0) (r 14) (r 0) (r 1) (r 2) (r 4) (r 13) (r 10) (r 11) (r 3) (r 12) m) (tr (seqQ (f:=fun r m=>Q84 G (Q9 G i0) (r 10) (r 11) (r 14) (r 0) (r 1) (r 2) (r 4) (r 13) (r 3) (r 12) m) (tr (tr (seqQ (f:=fun r m=>Q83 G (Q9 G i0) (r 1) (r 4) (r 0) (r 13) (r 2) (r 3) (r 10) (r 11) (r 12) m) (tr (tr seqD (seqQ (f:=fun r m=>Q79 G (Q9 G i0) (r 97) (r 0) (r 1) (r 2) (r 13) (r 4) (r 3) (r 10) (r 11) (r 12) m) (fun r m=>by kernel_rfl))) (fun r m=>by kernel_rfl))) (seqQ (f:=fun r m=>Q3j G (Q9 G i0) (r 75) (r 0) (r 1) (r 2) (r 4) (r 13) (r 3) (r 10) (r 11) (r 12) m) (fun r m=>by kernel_rfl))) (fun r m=>by kernel_rfl))) (fun r m=>by kernel_rfl))) (fun r m=>by kernel_rfl))) (fun r m=>by kernel_rfl))) (fun r m=>by kernel_rfl))) (fun r m=>by kernel_rfl)))) (fun r m=>by kernel_rfl)))) (fun r m=>by kernel_rfl))) (fun r m=>by kernel_rfl))) (fun r m=>by kernel_rfl)) m
def Q119:En:=⟨Q4s,Tryz.f209,Tryz.func209,by kernel_rfl,arg5 (fun G a0 a1 a2 a3 a4 m=>Q9h G a2 a1 a0 a4 a3 m),okarg5 Q11n⟩
def Q15d (G:Gt)(p0:V)(m:M):R:=
  bp (pur (bin .neq false true .int p0 p0) m) fun x0 m=>
  some (x0,m)
theorem Q1wa (G:Gt)(a0:V)(m:M):ef G Tryz.f210 [a0] m = Q15d G a0 m:=
  evFn_of (r:=fun r m=>Q15d G (r 0) m) rfl rfl (fun r m=>by kernel_rfl) m
def Q1vz:En:=⟨Qku,Tryz.f210,Tryz.func210,by kernel_rfl,arg1 Q15d,okarg1 Q1wa⟩
def Q1at (G:Gt)(p12:V)(m:M):R:=
  some (.tuple ⟨[p12,(.int .i64 0)]⟩,m)
def Qv7 (G:Gt)(k0:V → V → V → V → V → V → V → M → R)(p0 p14 p12 p13 p4 p1 p3 p2:V)(m:M):R:=
  bp (pur (aNilCheck p0) m) fun x0 m=>
  bp (pur (aFieldAddr 0 x0) m) fun x1 m=>
  bp (pur (aLoad false 1 x1 m) m) fun x2 m=>
  bp (G.tab Q15e [x2,p14,p12] m) fun x3 m=>
  bp (pur (aExtract x3 0) m) fun x4 m=>
  bp (pur (aExtract x3 1) m) fun x5 m=>
  bp (pur (bin .neq true true .int x5 (.int .i64 0)) m) fun x6 m=>
  brb x6
  (some (.tuple ⟨[(.int .i64 0),x5]⟩,m))
  (bp (pur (bin .sub true true .int p13 (.int .i64 1)) m) fun x7 m=>
  k0 x7 p0 p4 p1 p3 p2 x4 m)
def Q1au (G:Gt)(k0:V → V → V → V → V → V → V → M → R)(p3 p2 p13 p0 p14 p12 p4 p1:V)(m:M):R:=
  bp (pur (bin .sub true true .int p2 (.int .i64 1)) m) fun x8 m=>
  bp (pur (bin .sub false true .int x8 p13) m) fun x9 m=>
  bp (pur (bin .shr false true .int p3 x9) m) fun x10 m=>
  bp (pur (bin .and true true .int x10 (.int .u64 1)) m) fun x11 m=>
  bp (pur (bin .eql true true .int x11 (.int .u64 0)) m) fun x12 m=>
  brb x12
  (bp (pur (aNilCheck p0) m) fun x13 m=>
  bp (pur (aFieldAddr 0 x13) m) fun x14 m=>
  bp (pur (aLoad false 1 x14 m) m) fun x15 m=>
  bp (G.tab Q15c [x15,p14] m) fun x16 m=>
  bp (pur (aExtract x16 0) m) fun x17 m=>
  bp (pur (aExtract x16 1) m) fun x18 m=>
  bp (pur (bin .neq true true .int x18 (.int .i64 0)) m) fun x19 m=>
  brb x19
  (some (.tuple ⟨[(.int .i64 0),x18]⟩,m))
  (Qv7 G k0 p0 x17 p12 p13 p4 p1 p3 p2 m))
  (Qv7 G k0 p0 p14 p12 p13 p4 p1 p3 p2 m)
def Q1av (G:Gt)(k0:V → V → V → V → V → V → V → M → R)(p15 p3 p2 p13 p0 p14 p12 p4 p1:V)(m:M):R:=
  bp (pur (bin .neq true true .int p15 (.int .i64 0)) m) fun x20 m=>
  brb x20
  (some (.tuple ⟨[(.int .i64 0),p15]⟩,m))
  (Q1au G k0 p3 p2 p13 p0 p14 p12 p4 p1 m)
def Q1aw (G:Gt)(k0:V → V → V → V → V → V → V → M → R)(p0 p4 p1 p13 p3 p2 p12:V)(m:M):R:=
  bp (pur (aNilCheck p0) m) fun x21 m=>
  bp (pur (aFieldAddr 0 x21) m) fun x22 m=>
  bp (pur (aLoad false 1 x22 m) m) fun x23 m=>
  bp (pur (bin .add false true .int p1 p13) m) fun x24 m=>
  bp (evCall G.tab p4 [x24] m) fun x25 m=>
  ckB (again (pur (aLoad false 1 x22 m) m) x23 && true)
  (bp (G.tab Q7r [x23,x25] m) fun x26 m=>
  bp (pur (aExtract x26 0) m) fun x27 m=>
  bp (pur (aExtract x26 1) m) fun x28 m=>
  Q1av G k0 x28 p3 p2 p13 p0 x27 p12 p4 p1 m)
def Q6p (G:Gt):Nat → V → V → V → V → V → V → V → M → R
 | 0,_,_,_,_,_,_,_,_=>none
 | i + 1,p13,p0,p4,p1,p3,p2,p12,m=>
  bp (pur (bin .geq true true .int p13 (.int .i64 0)) m) fun x29 m=>
  brb x29
  (Q1aw G (Q6p G i) p0 p4 p1 p13 p3 p2 p12 m)
  (Q1at G p12 m)
def Q1ax (G:Gt)(p13 p0 p4 p1 p3 p2 p12:V)(m:M):R:=
  Q6p G G.rds p13 p0 p4 p1 p3 p2 p12 m
def Q1ay (G:Gt)(p2 p0 p4 p1 p3 p12:V)(m:M):R:=
  bp (pur (bin .sub true true .int p2 (.int .i64 1)) m) fun x30 m=>
  Q1ax G x30 p0 p4 p1 p3 p2 p12 m
def Q1az (G:Gt)(p2 p0 p4 p1 p3:V)(m:M):R:=
  Q1ay G p2 p0 p4 p1 p3 (.int .i64 1) m
def Q11o (G:Gt)(p2 p0 p4 p1 p3:V)(m:M):R:=
  Q1az G p2 p0 p4 p1 p3 m
theorem Q1uh (G:Gt)(a0 a1 a2 a3 a4:V)(m:M):ef G Tryz.f211 [a0,a1,a2,a3,a4] m = Q11o G a2 a0 a4 a1 a3 m:=
  evFn_of (r:=fun r m=>Q11o G (r 2) (r 0) (r 4) (r 1) (r 3) m) rfl rfl (tr (seqQ (f:=fun r m=>Q1az G (r 2) (r 0) (r 4) (r 1) (r 3) m) (tr (seqQ (f:=fun r m=>Q1ay G (r 2) (r 0) (r 4) (r 1) (r 3) (r 12) m) (tr (tr (seqQ (f:=fun r m=>Q1at G (r 12) m) (fun r m=>by kernel_rfl)) (seqQ (f:=fun r m=>Q1ax G (r 13) (r 0) (r 4) (r 1) (r 3) (r 2) (r 12) m) (tr (blockQ (loopQ (fun i r m=>Q6p G i (r 13) (r 0) (r 4) (r 1) (r 3) (r 2) (r 12) m) (fun _ _=>rfl) (fun i0=>tr (seqQ (f:=fun r m=>Q1aw G (Q6p G i0) (r 0) (r 4) (r 1) (r 13) (r 3) (r 2) (r 12) m) (tr (tr seqD (blockQ (seqQ (f:=fun r m=>Q1av G (Q6p G i0) (r 15) (r 3) (r 2) (r 13) (r 0) (r 14) (r 12) (r 4) (r 1) m) (tr (seqQ (f:=fun r m=>Q1au G (Q6p G i0) (r 3) (r 2) (r 13) (r 0) (r 14) (r 12) (r 4) (r 1) m) (tr (seqQ (f:=fun r m=>Qv7 G (Q6p G i0) (r 0) (r 14) (r 12) (r 13) (r 4) (r 1) (r 3) (r 2) m) (fun r m=>by kernel_rfl)) (fun r m=>by kernel_rfl))) (fun r m=>by kernel_rfl))))) (fun r m=>by kernel_rfl))) (fun r m=>by kernel_rfl)))) (fun r m=>by kernel_rfl)))) (fun r m=>by kernel_rfl))) (fun r m=>by kernel_rfl))) (fun r m=>by kernel_rfl)) m
def Q1u4:En:=⟨Q1fj,Tryz.f211,Tryz.func211,by kernel_rfl,arg5 (fun G a0 a1 a2 a3 a4 m=>Q11o G a2 a0 a4 a1 a3 m),okarg5 Q1uh⟩
def Q1kp (G:Gt)(m:M):R:=
  bp (pur (aBuild Qsn [(0,1),(1,1)] [(0,(.int .i64 0)),(1,(.int .i64 32))]) m) fun x0 m=>
  bp (pur (aBuild Qsn [(0,1),(1,1)] [(0,(.int .i64 32)),(1,(.int .i64 32))]) m) fun x1 m=>
  bp (pur (aBuild Qsn [(0,1),(1,1)] [(0,(.int .i64 64)),(1,(.int .i64 8))]) m) fun x2 m=>
  bp (pur (aBuild Qsn [(0,1),(1,1)] [(0,(.int .i64 72)),(1,(.int .i64 16))]) m) fun x3 m=>
  bp (pur (aBuild Qsn [(0,1),(1,1)] [(0,(.int .i64 88)),(1,(.int .i64 16))]) m) fun x4 m=>
  bp (aBuildSlice Q1xp Qsn 2 5 [(0,x0),(1,x1),(2,x2),(3,x3),(4,x4)] m) fun x5 m=>
  some (x5,m)
theorem Q23s (G:Gt)(m:M):ef G Tryz.f212 [] m = Q1kp G m:=
  evFn_of (r:=fun r m=>Q1kp G m) rfl rfl (fun r m=>by kernel_rfl) m
def Q23n:En:=⟨Q1vc,Tryz.f212,Tryz.func212,by kernel_rfl,arg0 (fun G  m=>Q1kp G m),okarg0 Q23s⟩
end
end Go.Ab.Sh
