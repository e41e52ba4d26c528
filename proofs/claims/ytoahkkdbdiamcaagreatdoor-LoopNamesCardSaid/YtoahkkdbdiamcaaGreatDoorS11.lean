/-
  Functions of the program as plain definitions. No conditions.
-/
import Derived.Test.YtoahkkdbdiamcaaGreatDoorAb5
import Derived.Test.YtoahkkdbdiamcaaGreatDoorZ
import Derived.KernelRfl
import Derived.Test.YtoahkkdbdiamcaaGreatDoorProg
set_option linter.unusedVariables false
set_option maxRecDepth 100000
namespace Go.Ab.Sh
open Go Go.Ab Go.Proofs
noncomputable section
def Q15o (G:Gt)(p0 p1 p2:V)(m:M):R:=
  bp (G.tab Q46 [p0,p1,p2,(.int .i64 0)] m) fun x0 m=>
  bp (pur (aExtract x0 0) m) fun x1 m=>
  bp (pur (aExtract x0 1) m) fun x2 m=>
  some (.tuple ⟨[x1,x2]⟩,m)
theorem Q1wr (G:Gt)(a0 a1 a2:V)(m:M):ef G Tryz.f213 [a0,a1,a2] m = Q15o G a0 a1 a2 m:=
  evFn_of (r:=fun r m=>Q15o G (r 0) (r 1) (r 2) m) rfl rfl (fun r m=>by kernel_rfl) m
def Q1vt:En:=⟨Q15e,Tryz.f213,Tryz.func213,by kernel_rfl,arg3 Q15o,okarg3 Q1wr⟩
def Qvp (G:Gt)(p2 p1 p0:V)(m:M):R:=
  bp (pur (aLoad false 1 p2 m) m) fun x0 m=>
  bp (pur (aNilCheck x0) m) fun x1 m=>
  bp (pur (aFieldAddr 0 x1) m) fun x2 m=>
  bp (pur (aLoad false 1 x2 m) m) fun x3 m=>
  bp (G.tab Q46 [x3,p1,(.int .i64 0),p0] m) fun x4 m=>
  bp (pur (aExtract x4 0) m) fun x5 m=>
  bp (pur (aExtract x4 1) m) fun x6 m=>
  some (.tuple ⟨[x5,x6]⟩,m)
theorem Q1ra (G:Gt)(a0 a1 a2:V)(m:M):ef G Tryz.f214 [a0,a1,a2] m = Qvp G a2 a1 a0 m:=
  evFn_of (r:=fun r m=>Qvp G (r 2) (r 1) (r 0) m) rfl rfl (fun r m=>by kernel_rfl) m
def Q1ql:En:=⟨Q1b1,Tryz.f214,Tryz.func214,by kernel_rfl,arg3 (fun G a0 a1 a2 m=>Qvp G a2 a1 a0 m),okarg3 Q1ra⟩
def Qmx (G:Gt)(p0 p1:V)(m:M):R:=
  bp (some (aNew Q1d (Value.cells p0).toList m)) fun x0 m=>
  bp (pur (aFieldAddr 0 x0) m) fun x1 m=>
  bp (pur (aLoad false 1 x1 m) m) fun x2 m=>
  bp (pur (aFieldAddr 0 p1) m) fun x3 m=>
  bp (pur (aLoad false 1 x3 m) m) fun x4 m=>
  bp (pur (bin .eql false true .str x2 x4) m) fun x5 m=>
  some (x5,m)
theorem Q1jf (G:Gt)(a0 a1:V)(m:M):ef G Tryz.f215 [a0,a1] m = Qmx G a0 a1 m:=
  evFn_of (r:=fun r m=>Qmx G (r 0) (r 1) m) rfl rfl (fun r m=>by kernel_rfl) m
def Q1iy:En:=⟨Q108,Tryz.f215,Tryz.func215,by kernel_rfl,arg2 Qmx,okarg2 Q1jf⟩
def Q6e (G:Gt)(k0:V → V → V → V → V → V → V → M → R)(p97 p0 p1 p2 p13 p4 p3 p10 p11 p12:V)(m:M):R:=
  brb p97
  (bp (G.tab Qp4 [p0,p1,p2,p13,p4] m) fun x0 m=>
  k0 p2 x0 p0 p4 p3 p10 p11 m)
  (bp (G.tab Qvd [p0,p1,p2,p13,p4] m) fun x1 m=>
  bp (pur (aExtract x1 0) m) fun x2 m=>
  bp (pur (aExtract x1 1) m) fun x3 m=>
  bp (pur (bin .sub false true .int x2 p1) m) fun x4 m=>
  bp (pur (bin .sub false true .int p2 x2) m) fun x5 m=>
  bp (pur (bin .quo true true .int p12 (.int .i64 8)) m) fun x6 m=>
  bp (pur (bin .lss false true .int x4 x5) m) fun x7 m=>
  brb x7
  (bp (pur (bin .geq false true .int x4 x6) m) fun x8 m=>
  bp (G.tab Q3w [p0,p1,x2,p3,p4] m) fun x9 m=>
  bp (pur (bin .add true true .int x2 (.int .i64 1)) m) fun x10 m=>
  k0 p2 x10 p0 p4 p3 x8 x3 m)
  (bp (pur (bin .geq false true .int x5 x6) m) fun x11 m=>
  bp (pur (bin .add true true .int x2 (.int .i64 1)) m) fun x12 m=>
  bp (G.tab Q3w [p0,x12,p2,p3,p4] m) fun x13 m=>
  k0 x2 p1 p0 p4 p3 x11 x3 m))
def Q6q (G:Gt)(k0:V → V → V → V → V → V → V → M → R)(p1 p4 p0 p13 p2 p3 p10 p11 p12:V)(m:M):R:=
  bp (pur (bin .gtr true true .int p1 (.int .i64 0)) m) fun x14 m=>
  brt x14
  (bp (pur (bin .sub true true .int p1 (.int .i64 1)) m) fun x15 m=>
  bp (pur (aIndexAddrSl 3 p0 x15) m) fun x16 m=>
  bp (pur (aLoad true 3 x16 m) m) fun x17 m=>
  bp (pur (aIndexAddrSl 3 p0 p13) m) fun x18 m=>
  bp (pur (aLoad true 3 x18 m) m) fun x19 m=>
  bp (evCall G.tab p4 [x17,x19] m) fun x20 m=>
  bp (pur (bin .lss true true .int x20 (.int .i64 0)) m) fun x21 m=>
  bp (pur (un .not x21) m) fun x22 m=>
  Q6e G k0 x22 p0 p1 p2 p13 p4 p3 p10 p11 p12 m)
  (Q6e G k0 (.bool false) p0 p1 p2 p13 p4 p3 p10 p11 p12 m)
  (none)
def Q32 (G:Gt)(k0:V → V → V → V → V → V → V → M → R)(p75 p0 p1 p2 p4 p13 p3 p10 p11 p12:V)(m:M):R:=
  brb p75
  (bp (G.tab Qkl [p0,p1,p2,p4] m) fun x23 m=>
  brb x23
  (some (.tuple ⟨[]⟩,m))
  (Q6q G k0 p1 p4 p0 p13 p2 p3 p10 p11 p12 m))
  (Q6q G k0 p1 p4 p0 p13 p2 p3 p10 p11 p12 m)
def Q6r (G:Gt)(k0:V → V → V → V → V → V → V → M → R)(p10 p11 p14 p0 p1 p2 p4 p13 p3 p12:V)(m:M):R:=
  brb p10
  (brb p11
  (bp (pur (bin .eql true true .int p14 (.int .i64 1)) m) fun x24 m=>
  Q32 G k0 x24 p0 p1 p2 p4 p13 p3 p10 p11 p12 m)
  (Q32 G k0 (.bool false) p0 p1 p2 p4 p13 p3 p10 p11 p12 m))
  (Q32 G k0 (.bool false) p0 p1 p2 p4 p13 p3 p10 p11 p12 m)
def Qf1 (G:Gt)(k0:V → V → V → V → V → V → V → M → R)(p14 p0 p1 p2 p4 p13 p10 p11 p3 p12:V)(m:M):R:=
  bp (pur (bin .eql true true .int p14 (.int .i64 2)) m) fun x25 m=>
  brb x25
  (bp (G.tab Qr0 [p0,p1,p2,p4] m) fun x26 m=>
  bp (pur (bin .sub true true .int p2 (.int .i64 1)) m) fun x27 m=>
  bp (pur (bin .sub false true .int p13 p1) m) fun x28 m=>
  bp (pur (bin .sub false true .int x27 x28) m) fun x29 m=>
  Q6r G k0 p10 p11 (.int .i64 1) p0 p1 p2 p4 x29 p3 p12 m)
  (Q6r G k0 p10 p11 p14 p0 p1 p2 p4 p13 p3 p12 m)
def Q6s (G:Gt)(k0:V → V → V → V → V → V → V → M → R)(p0 p1 p2 p4 p10 p11 p3 p12:V)(m:M):R:=
  bp (G.tab Qsu [p0,p1,p2,p4] m) fun x30 m=>
  bp (pur (aExtract x30 0) m) fun x31 m=>
  bp (pur (aExtract x30 1) m) fun x32 m=>
  Qf1 G k0 x32 p0 p1 p2 p4 x31 p10 p11 p3 p12 m
def Qf2 (G:Gt)(k0:V → V → V → V → V → V → V → M → R)(p10 p0 p1 p2 p4 p3 p11 p12:V)(m:M):R:=
  bp (pur (un .not p10) m) fun x33 m=>
  brb x33
  (bp (G.tab Qq5 [p0,p1,p2,p4] m) fun x34 m=>
  bp (pur (bin .sub true true .int p3 (.int .i64 1)) m) fun x35 m=>
  Q6s G k0 p0 p1 p2 p4 p10 p11 x35 p12 m)
  (Q6s G k0 p0 p1 p2 p4 p10 p11 p3 p12 m)
def Qf3 (G:Gt)(k0:V → V → V → V → V → V → V → M → R)(p3 p0 p1 p2 p4 p10 p11 p12:V)(m:M):R:=
  bp (pur (bin .eql true true .int p3 (.int .i64 0)) m) fun x36 m=>
  brb x36
  (bp (G.tab Qx4 [p0,p1,p2,p4] m) fun x37 m=>
  some (.tuple ⟨[]⟩,m))
  (Qf2 G k0 p10 p0 p1 p2 p4 p3 p11 p12 m)
def Qf4 (G:Gt)(k0:V → V → V → V → V → V → V → M → R)(p12 p0 p1 p2 p4 p3 p10 p11:V)(m:M):R:=
  bp (pur (bin .leq true true .int p12 (.int .i64 12)) m) fun x38 m=>
  brb x38
  (bp (G.tab Qcb [p0,p1,p2,p4] m) fun x39 m=>
  some (.tuple ⟨[]⟩,m))
  (Qf3 G k0 p3 p0 p1 p2 p4 p10 p11 p12 m)
def Q4 (G:Gt):Nat → V → V → V → V → V → V → V → M → R
 | 0,_,_,_,_,_,_,_,_=>none
 | i + 1,p2,p1,p0,p4,p3,p10,p11,m=>
  bp (pur (bin .sub false true .int p2 p1) m) fun x40 m=>
  Qf4 G (Q4 G i) x40 p0 p1 p2 p4 p3 p10 p11 m
def Qf5 (G:Gt)(p2 p1 p0 p4 p3 p10 p11:V)(m:M):R:=
  Q4 G G.rds p2 p1 p0 p4 p3 p10 p11 m
def Qf6 (G:Gt)(p2 p1 p0 p4 p3 p10:V)(m:M):R:=
  Qf5 G p2 p1 p0 p4 p3 p10 (.bool true) m
def Q89 (G:Gt)(p2 p1 p0 p4 p3:V)(m:M):R:=
  Qf6 G p2 p1 p0 p4 p3 (.bool true) m
theorem Qz0 (G:Gt)(a0 a1 a2 a3 a4:V)(m:M):ef G Tryz.f216 [a0,a1,a2,a3,a4] m = Q89 G a2 a1 a0 a4 a3 m:=
  evFn_of (r:=fun r m=>Q89 G (r 2) (r 1) (r 0) (r 4) (r 3) m) rfl rfl (tr (seqQ (f:=fun r m=>Qf6 G (r 2) (r 1) (r 0) (r 4) (r 3) (r 10) m) (tr (seqQ (f:=fun r m=>Qf5 G (r 2) (r 1) (r 0) (r 4) (r 3) (r 10) (r 11) m) (tr (blockQ (loopQ (fun i r m=>Q4 G i (r 2) (r 1) (r 0) (r 4) (r 3) (r 10) (r 11) m) (fun _ _=>rfl) (fun i0=>tr (blockQ (seqQ (f:=fun r m=>Qf4 G (Q4 G i0) (r 12) (r 0) (r 1) (r 2) (r 4) (r 3) (r 10) (r 11) m) (tr (seqQ (f:=fun r m=>Qf3 G (Q4 G i0) (r 3) (r 0) (r 1) (r 2) (r 4) (r 10) (r 11) (r 12) m) (tr (seqQ (f:=fun r m=>Qf2 G (Q4 G i0) (r 10) (r 0) (r 1) (r 2) (r 4) (r 3) (r 11) (r 12) m) (tr (seqQ (f:=fun r m=>Q6s G (Q4 G i0) (r 0) (r 1) (r 2) (r 4) (r 10) (r 11) (r 3) (r 12) m) (tr (seqQ (f:=fun r m=>Qf1 G (Q4 G i0) (r 14) (r 0) (r 1) (r 2) (r 4) (r 13) (r 10) (r 11) (r 3) (r 12) m) (tr (seqQ (f:=fun r m=>Q6r G (Q4 G i0) (r 10) (r 11) (r 14) (r 0) (r 1) (r 2) (r 4) (r 13) (r 3) (r 12) m) (tr (tr (seqQ (f:=fun r m=>Q6q G (Q4 G i0) (r 1) (r 4) (r 0) (r 13) (r 2) (r 3) (r 10) (r 11) (r 12) m) (tr (tr seqD (seqQ (f:=fun r m=>Q6e G (Q4 G i0) (r 97) (r 0) (r 1) (r 2) (r 13) (r 4) (r 3) (r 10) (r 11) (r 12) m) (fun r m=>by kernel_rfl))) (fun r m=>by kernel_rfl))) (seqQ (f:=fun r m=>Q32 G (Q4 G i0) (r 75) (r 0) (r 1) (r 2) (r 4) (r 13) (r 3) (r 10) (r 11) (r 12) m) (fun r m=>by kernel_rfl))) (fun r m=>by kernel_rfl))) (fun r m=>by kernel_rfl))) (fun r m=>by kernel_rfl))) (fun r m=>by kernel_rfl))) (fun r m=>by kernel_rfl))) (fun r m=>by kernel_rfl)))) (fun r m=>by kernel_rfl)))) (fun r m=>by kernel_rfl))) (fun r m=>by kernel_rfl))) (fun r m=>by kernel_rfl)) m
def Qxe:En:=⟨Q3w,Tryz.f216,Tryz.func216,by kernel_rfl,arg5 (fun G a0 a1 a2 a3 a4 m=>Q89 G a2 a1 a0 a4 a3 m),okarg5 Qz0⟩
def Q1cg (G:Gt)(p0:V)(m:M):R:=
  bp (some (aNew Qx (Value.cells p0).toList m)) fun x0 m=>
  bp (some (aNew Q1i2 Q1i5 m)) fun x1 m=>
  bp (pur (aFieldAddr 2 x0) m) fun x2 m=>
  bp (pur (aLoad false 1 x2 m) m) fun x3 m=>
  bp (pur (aFieldAddr 4 x0) m) fun x4 m=>
  bp (pur (aLoad false 1 x4 m) m) fun x5 m=>
  bp (pur (aFieldAddr 7 x0) m) fun x6 m=>
  bp (pur (aLoad false 1 x6 m) m) fun x7 m=>
  bp (pur (aFieldAddr 8 x0) m) fun x8 m=>
  bp (pur (aLoad false 1 x8 m) m) fun x9 m=>
  bp (pur (aFieldAddr 9 x0) m) fun x10 m=>
  bp (pur (aLoad false 1 x10 m) m) fun x11 m=>
  bp (G.tab Q15u [x3,(.func (.func Q1z5) #[] #[])] m) fun x12 m=>
  ckB (again (pur (aLoad false 1 x4 m) m) x5 && (again (pur (aLoad false 1 x6 m) m) x7 && (again (pur (aLoad false 1 x8 m) m) x9 && (again (pur (aLoad false 1 x10 m) m) x11 && true))))
  (bp (G.tab Qvv [x5,(.func (.func Q1hs) #[] #[])] m) fun x13 m=>
  ckB (again (pur (aLoad false 1 x6 m) m) x7 && (again (pur (aLoad false 1 x8 m) m) x9 && (again (pur (aLoad false 1 x10 m) m) x11 && true)))
  (bp (G.tab Qoo [x7,(.func (.func Q1dc) #[] #[])] m) fun x14 m=>
  ckB (again (pur (aLoad false 1 x8 m) m) x9 && (again (pur (aLoad false 1 x10 m) m) x11 && true))
  (bp (G.tab Qkn [x9,(.func (.func Q1a9) #[] #[])] m) fun x15 m=>
  ckB (again (pur (aLoad false 1 x10 m) m) x11 && true)
  (bp (G.tab Qvw [x11,(.func (.func Q1ht) #[] #[])] m) fun x16 m=>
  bp (pur (aBuild Q1i5 [(0,1),(1,1),(2,1),(3,1),(4,1)] [(0,x12),(1,x13),(2,x14),(3,x15),(4,x16)]) m) fun x17 m=>
  bp (unt (aStore 5 x1 x17 m)) fun _ m=>
  ob (ob (aLoad true 5 x1 m) fun v=>ob (some []) fun l=>some (v :: l)) fun l=>some (resVal l,m)))))
theorem Q1zl (G:Gt)(a0:V)(m:M):ef G Tryz.f218 [a0] m = Q1cg G a0 m:=
  evFn_of (r:=fun r m=>Q1cg G (r 0) m) rfl rfl (fun r m=>by kernel_rfl) m
def Q1z2:En:=⟨Q1m1,Tryz.f218,Tryz.func218,by kernel_rfl,arg1 Q1cg,okarg1 Q1zl⟩
def Q1f2 (G:Gt)(p0 p1:V)(m:M):R:=
  bp (pur (un .not p0) m) fun x0 m=>
  brb x0
  (some ((.int .i64 1),m))
  (bp (pur (un .not p1) m) fun x1 m=>
  brb x1
  (some ((.int .i64 2),m))
  (some ((.int .i64 0),m)))
theorem Q21l (G:Gt)(a0 a1:V)(m:M):ef G Tryz.f220 [a0,a1] m = Q1f2 G a0 a1 m:=
  evFn_of (r:=fun r m=>Q1f2 G (r 0) (r 1) m) rfl rfl (fun r m=>by kernel_rfl) m
def Q20m:En:=⟨Q14o,Tryz.f220,Tryz.func220,by kernel_rfl,arg2 Q1f2,okarg2 Q21l⟩
def Q11y (G:Gt)(p1 p2 p0:V)(m:M):R:=
  bp (pur (aLoad true 5 p1 m) m) fun x0 m=>
  bp (pur (aLoad true 12 p2 m) m) fun x1 m=>
  bp (G.tab Q1dn [x0,x1,p0] m) fun x2 m=>
  some (x2,m)
theorem Q1v4 (G:Gt)(a0 a1 a2:V)(m:M):ef G Tryz.f223 [a0,a1,a2] m = Q11y G a1 a2 a0 m:=
  evFn_of (r:=fun r m=>Q11y G (r 1) (r 2) (r 0) m) rfl rfl (fun r m=>by kernel_rfl) m
def Q1u2:En:=⟨Q1fx,Tryz.f223,Tryz.func223,by kernel_rfl,arg3 (fun G a0 a1 a2 m=>Q11y G a1 a2 a0 m),okarg3 Q1v4⟩
def Qjt (G:Gt)(p6:V)(m:M):R:=
  some (p6,m)
def Q62 (G:Gt)(p9 p3 p7:V)(m:M):R:=
  bp (pur (aFieldAddr 0 p3) m) fun x0 m=>
  bp (pur (aLoad false 1 x0 m) m) fun x1 m=>
  bp (pur (aFieldAddr 1 p7) m) fun x2 m=>
  bp (pur (aLoad false 1 x2 m) m) fun x3 m=>
  bp (G.tab Q191 [x1,x3] m) fun x4 m=>
  brb x4
  (bp (pur (aFieldAddr 1 p3) m) fun x5 m=>
  bp (pur (aLoad false 1 x5 m) m) fun x6 m=>
  bp (pur (aFieldAddr 5 p7) m) fun x7 m=>
  bp (pur (aLoad false 1 x7 m) m) fun x8 m=>
  bp (G.tab Q191 [x6,x8] m) fun x9 m=>
  brb x9
  (bp (pur (aFieldAddr 1 p3) m) fun x10 m=>
  bp (pur (aLoad false 1 x10 m) m) fun x11 m=>
  bp (pur (aFieldAddr 6 p7) m) fun x12 m=>
  bp (pur (aLoad false 1 x12 m) m) fun x13 m=>
  bp (G.tab Q191 [x11,x13] m) fun x14 m=>
  bp (G.tab Q14o [p9,x14] m) fun x15 m=>
  Qjt G x15 m)
  (bp (G.tab Q14o [p9,(.bool false)] m) fun x16 m=>
  Qjt G x16 m))
  (bp (G.tab Q14o [p9,(.bool false)] m) fun x17 m=>
  Qjt G x17 m)
def Q90 (G:Gt)(p7 p4 p2 p8 p3:V)(m:M):R:=
  bp (pur (aFieldAddr 0 p7) m) fun x18 m=>
  bp (pur (aLoad false 1 x18 m) m) fun x19 m=>
  bp (G.tab Q1hq [x19] m) fun x20 m=>
  brb x20
  (bp (pur (aFieldAddr 3 p4) m) fun x21 m=>
  bp (pur (aLoad false 1 x21 m) m) fun x22 m=>
  bp (G.tab Qxa [x22,p2,(.func (.func Q18f) #[] #[])] m) fun x23 m=>
  brb x23
  (brb p8
  (bp (pur (aFieldAddr 7 p7) m) fun x24 m=>
  bp (pur (aLoad false 1 x24 m) m) fun x25 m=>
  bp (pur (bin .leq true true .int x25 (.int .u8 2)) m) fun x26 m=>
  brb x26
  (bp (pur (aFieldAddr 8 p7) m) fun x27 m=>
  bp (pur (aLoad false 1 x27 m) m) fun x28 m=>
  bp (G.tab Qpg [x28,(.int .i64 (-1)),(.int .i64 16777216)] m) fun x29 m=>
  brb x29
  (bp (pur (aFieldAddr 9 p7) m) fun x30 m=>
  bp (pur (aLoad false 1 x30 m) m) fun x31 m=>
  bp (G.tab Qpg [x31,(.int .i64 1),(.int .i64 65535)] m) fun x32 m=>
  Q62 G x32 p3 p7 m)
  (Q62 G (.bool false) p3 p7 m))
  (Q62 G (.bool false) p3 p7 m))
  (Q62 G (.bool false) p3 p7 m))
  (Q62 G (.bool false) p3 p7 m))
  (Q62 G (.bool false) p3 p7 m)
def Q19b (G:Gt)(p7 p4 p2 p3:V)(m:M):R:=
  bp (pur (aFieldAddr 2 p7) m) fun x33 m=>
  bp (pur (aLoad false 1 x33 m) m) fun x34 m=>
  bp (pur (bin .eql true true .int x34 (.int .u32 0)) m) fun x35 m=>
  brb x35
  (bp (pur (aFieldAddr 3 p7) m) fun x36 m=>
  bp (pur (aLoad false 1 x36 m) m) fun x37 m=>
  bp (pur (bin .eql true true .int x37 (.int .i64 0)) m) fun x38 m=>
  brb x38
  (Q90 G p7 p4 p2 (.bool true) p3 m)
  (bp (pur (aFieldAddr 2 p7) m) fun x39 m=>
  bp (pur (aLoad false 1 x39 m) m) fun x40 m=>
  bp (pur (bin .neq true true .int x40 (.int .u32 0)) m) fun x41 m=>
  brb x41
  (bp (pur (aFieldAddr 3 p7) m) fun x42 m=>
  bp (pur (aLoad false 1 x42 m) m) fun x43 m=>
  bp (G.tab Qpg [x43,(.int .i64 1),(.int .i64 32)] m) fun x44 m=>
  Q90 G p7 p4 p2 x44 p3 m)
  (Q90 G p7 p4 p2 (.bool false) p3 m)))
  (bp (pur (aFieldAddr 2 p7) m) fun x45 m=>
  bp (pur (aLoad false 1 x45 m) m) fun x46 m=>
  bp (pur (bin .neq true true .int x46 (.int .u32 0)) m) fun x47 m=>
  brb x47
  (bp (pur (aFieldAddr 3 p7) m) fun x48 m=>
  bp (pur (aLoad false 1 x48 m) m) fun x49 m=>
  bp (G.tab Qpg [x49,(.int .i64 1),(.int .i64 32)] m) fun x50 m=>
  Q90 G p7 p4 p2 x50 p3 m)
  (Q90 G p7 p4 p2 (.bool false) p3 m))
def Q19c (G:Gt)(p4 p2 p3:V)(m:M):R:=
  bp (pur (aFieldAddr 3 p4) m) fun x51 m=>
  bp (pur (aLoad false 1 x51 m) m) fun x52 m=>
  bp (pur (aIndexAddrSl 11 x52 p2) m) fun x53 m=>
  bp (pur (aLoad true 11 x53 m) m) fun x54 m=>
  bp (some (aNew Q1d Q47 m)) fun x55 m=>
  bp (unt (aStore 11 x55 x54 m)) fun _ m=>
  Q19b G x55 p4 p2 p3 m
def Qz1 (G:Gt)(p0 p1 p2:V)(m:M):R:=
  bp (some (aNew Q1i2 (Value.cells p0).toList m)) fun x56 m=>
  bp (some (aNew Qx (Value.cells p1).toList m)) fun x57 m=>
  Q19c G x57 p2 x56 m
theorem Q1th (G:Gt)(a0 a1 a2:V)(m:M):ef G Tryz.f224 [a0,a1,a2] m = Qz1 G a0 a1 a2 m:=
  evFn_of (r:=fun r m=>Qz1 G (r 0) (r 1) (r 2) m) rfl rfl (tr (seqQ (f:=fun r m=>Q19c G (r 4) (r 2) (r 3) m) (tr (seqQ (f:=fun r m=>Q19b G (r 7) (r 4) (r 2) (r 3) m) (tr (seqQ (f:=fun r m=>Q90 G (r 7) (r 4) (r 2) (r 8) (r 3) m) (tr (seqQ (f:=fun r m=>Q62 G (r 9) (r 3) (r 7) m) (tr (seqQ (f:=fun r m=>Qjt G (r 6) m) (fun r m=>by kernel_rfl)) (fun r m=>by kernel_rfl))) (fun r m=>by kernel_rfl))) (fun r m=>by kernel_rfl))) (fun r m=>by kernel_rfl))) (fun r m=>by kernel_rfl)) m
def Q1rn:En:=⟨Q1dn,Tryz.f224,Tryz.func224,by kernel_rfl,arg3 Qz1,okarg3 Q1th⟩
def Q1ch (G:Gt)(p4:V)(m:M):R:=
  some (p4,m)
def Q1ml (G:Gt)(p1 p0:V)(m:M):R:=
  bp (pur (bin .eql true true .str p1 (.string ⟨#[]⟩)) m) fun x0 m=>
  brb x0
  (Q1ch G (.bool true) m)
  (bp (pur (aLookup .str (.int .i64 0) false p0 p1 m) m) fun x1 m=>
  bp (pur (bin .gtr true true .int x1 (.int .i64 0)) m) fun x2 m=>
  Q1ch G x2 m)
def Q1ia (G:Gt)(p1 p0:V)(m:M):R:=
  Q1ml G p1 p0 m
theorem Q22y (G:Gt)(a0 a1:V)(m:M):ef G Tryz.f229 [a0,a1] m = Q1ia G a1 a0 m:=
  evFn_of (r:=fun r m=>Q1ia G (r 1) (r 0) m) rfl rfl (tr (seqQ (f:=fun r m=>Q1ml G (r 1) (r 0) m) (tr (seqQ (f:=fun r m=>Q1ch G (r 4) m) (fun r m=>by kernel_rfl)) (fun r m=>by kernel_rfl))) (fun r m=>by kernel_rfl)) m
def Q220:En:=⟨Q191,Tryz.f229,Tryz.func229,by kernel_rfl,arg2 (fun G a0 a1 m=>Q1ia G a1 a0 m),okarg2 Q22y⟩
def Qd0 (G:Gt)(p0:V)(m:M):R:=
  bp (pur (bin .eql true true .slice p0 (.slice none 0 0)) m) fun x0 m=>
  brb x0
  (some ((.slice none 0 0),m))
  (bp (aBuildSlice Qye [(.string ⟨#[]⟩)] 1 0 [] m) fun x1 m=>
  bp (apS Qye 1 16 x1 p0 m) fun x2 m=>
  some (x2,m))
theorem Q17o (G:Gt)(a0:V)(m:M):ef G Tryz.f246 [a0] m = Qd0 G a0 m:=
  evFn_of (r:=fun r m=>Qd0 G (r 0) m) rfl rfl (fun r m=>by kernel_rfl) m
def Q17n:En:=⟨Qmc,Tryz.f246,Tryz.func246,by kernel_rfl,arg1 Qd0,okarg1 Q17o⟩
def Q7a (G:Gt)(p0:V)(m:M):R:=
  bp (pur (bin .eql true true .slice p0 (.slice none 0 0)) m) fun x0 m=>
  brb x0
  (some ((.slice none 0 0),m))
  (bp (aBuildSlice Q1d Q47 11 0 [] m) fun x1 m=>
  bp (apS Q1d 11 120 x1 p0 m) fun x2 m=>
  some (x2,m))
theorem Qx6 (G:Gt)(a0:V)(m:M):ef G Tryz.f247 [a0] m = Q7a G a0 m:=
  evFn_of (r:=fun r m=>Q7a G (r 0) m) rfl rfl (fun r m=>by kernel_rfl) m
def Qwy:En:=⟨Qfz,Tryz.f247,Tryz.func247,by kernel_rfl,arg1 Q7a,okarg1 Qx6⟩
def Q5k (G:Gt)(p0:V)(m:M):R:=
  bp (pur (bin .eql true true .slice p0 (.slice none 0 0)) m) fun x0 m=>
  brb x0
  (some ((.slice none 0 0),m))
  (bp (aBuildSlice Q1ps Q21k 3 0 [] m) fun x1 m=>
  bp (apS Q1ps 3 32 x1 p0 m) fun x2 m=>
  some (x2,m))
theorem Qr2 (G:Gt)(a0:V)(m:M):ef G Tryz.f248 [a0] m = Q5k G a0 m:=
  evFn_of (r:=fun r m=>Q5k G (r 0) m) rfl rfl (fun r m=>by kernel_rfl) m
def Qqn:En:=⟨Qd9,Tryz.f248,Tryz.func248,by kernel_rfl,arg1 Q5k,okarg1 Qr2⟩
def Q6f (G:Gt)(p0:V)(m:M):R:=
  bp (pur (bin .eql true true .slice p0 (.slice none 0 0)) m) fun x0 m=>
  brb x0
  (some ((.slice none 0 0),m))
  (bp (aBuildSlice Q1tc Q22w 7 0 [] m) fun x1 m=>
  bp (apS Q1tc 7 56 x1 p0 m) fun x2 m=>
  some (x2,m))
theorem Qu5 (G:Gt)(a0:V)(m:M):ef G Tryz.f249 [a0] m = Q6f G a0 m:=
  evFn_of (r:=fun r m=>Q6f G (r 0) m) rfl rfl (fun r m=>by kernel_rfl) m
def Qta:En:=⟨Qer,Tryz.f249,Tryz.func249,by kernel_rfl,arg1 Q6f,okarg1 Qu5⟩
end
end Go.Ab.Sh

set_option linter.unusedVariables false
set_option maxRecDepth 100000
namespace Go.Ab.Sh
open Go Go.Ab Go.Proofs
noncomputable section
def Qu6 (G:Gt)(p5:V)(m:M):R:=
  some (p5,m)
def Qii (G:Gt):Nat → V → V → V → V → V → M → R
 | 0,_,_,_,_,_,_=>none
 | i + 1,p10,p9,p8,p5,p1,m=>
  bp (pur (bin .lss false true .int p10 p9) m) fun x0 m=>
  brb x0
  (bp (pur (aIndexAddrSl 2 p8 p10) m) fun x1 m=>
  bp (pur (aLoad true 2 x1 m) m) fun x2 m=>
  bp (some (aNew Qpf Qx9 m)) fun x3 m=>
  bp (unt (aStore 2 x3 x2 m)) fun _ m=>
  bp (pur (aLoad true 2 x3 m) m) fun x4 m=>
  bp (evCall G.tab p1 [x4] m) fun x5 m=>
  bp (aBuildSlice Qpf Qx9 2 1 [(0,x5)] m) fun x6 m=>
  bp (apS Qpf 2 40 p5 x6 m) fun x7 m=>
  bp (pur (bin .add true true .int p10 (.int .i64 1)) m) fun x8 m=>
  (Qii G i) x8 p9 p8 x7 p1 m)
  (Qu6 G p5 m)
def Qu7 (G:Gt)(p10 p9 p8 p5 p1:V)(m:M):R:=
  Qii G G.rds p10 p9 p8 p5 p1 m
def Qu8 (G:Gt)(p0 p5 p1:V)(m:M):R:=
  bp (pur (lenK 1 p0 m) m) fun x9 m=>
  Qu7 G (.int .i64 0) x9 p0 p5 p1 m
def Qu9 (G:Gt)(p0 p1:V)(m:M):R:=
  Qu8 G p0 (.slice none 0 0) p1 m
def Qlp (G:Gt)(p0 p1:V)(m:M):R:=
  Qu9 G p0 p1 m
theorem Q1ib (G:Gt)(a0 a1:V)(m:M):ef G Tryz.f250 [a0,a1] m = Qlp G a0 a1 m:=
  evFn_of (r:=fun r m=>Qlp G (r 0) (r 1) m) rfl rfl (tr (seqQ (f:=fun r m=>Qu9 G (r 0) (r 1) m) (tr (seqQ (f:=fun r m=>Qu8 G (r 0) (r 5) (r 1) m) (tr (tr (seqQ (f:=fun r m=>Qu6 G (r 5) m) (fun r m=>by kernel_rfl)) (seqQ (f:=fun r m=>Qu7 G (r 10) (r 9) (r 8) (r 5) (r 1) m) (tr (blockQ (loopQ (fun i r m=>Qii G i (r 10) (r 9) (r 8) (r 5) (r 1) m) (fun _ _=>rfl) (fun i0=>fun r m=>by kernel_rfl))) (fun r m=>by kernel_rfl)))) (fun r m=>by kernel_rfl))) (fun r m=>by kernel_rfl))) (fun r m=>by kernel_rfl)) m
def Q1hg:En:=⟨Qym,Tryz.f250,Tryz.func250,by kernel_rfl,arg2 Qlp,okarg2 Q1ib⟩
def Qny (G:Gt)(p5:V)(m:M):R:=
  some (p5,m)
def Qe5 (G:Gt):Nat → V → V → V → V → V → M → R
 | 0,_,_,_,_,_,_=>none
 | i + 1,p10,p9,p8,p5,p1,m=>
  bp (pur (bin .lss false true .int p10 p9) m) fun x0 m=>
  brb x0
  (bp (pur (aIndexAddrSl 2 p8 p10) m) fun x1 m=>
  bp (pur (aLoad true 2 x1 m) m) fun x2 m=>
  bp (some (aNew Qs0 Q14p m)) fun x3 m=>
  bp (unt (aStore 2 x3 x2 m)) fun _ m=>
  bp (pur (aLoad true 2 x3 m) m) fun x4 m=>
  bp (evCall G.tab p1 [x4] m) fun x5 m=>
  bp (aBuildSlice Qs0 Q14p 2 1 [(0,x5)] m) fun x6 m=>
  bp (apS Qs0 2 40 p5 x6 m) fun x7 m=>
  bp (pur (bin .add true true .int p10 (.int .i64 1)) m) fun x8 m=>
  (Qe5 G i) x8 p9 p8 x7 p1 m)
  (Qny G p5 m)
def Qnz (G:Gt)(p10 p9 p8 p5 p1:V)(m:M):R:=
  Qe5 G G.rds p10 p9 p8 p5 p1 m
def Qo0 (G:Gt)(p0 p5 p1:V)(m:M):R:=
  bp (pur (lenK 1 p0 m) m) fun x9 m=>
  Qnz G (.int .i64 0) x9 p0 p5 p1 m
def Qo1 (G:Gt)(p0 p1:V)(m:M):R:=
  Qo0 G p0 (.slice none 0 0) p1 m
def Qff (G:Gt)(p0 p1:V)(m:M):R:=
  Qo1 G p0 p1 m
theorem Q1ci (G:Gt)(a0 a1:V)(m:M):ef G Tryz.f253 [a0,a1] m = Qff G a0 a1 m:=
  evFn_of (r:=fun r m=>Qff G (r 0) (r 1) m) rfl rfl (tr (seqQ (f:=fun r m=>Qo1 G (r 0) (r 1) m) (tr (seqQ (f:=fun r m=>Qo0 G (r 0) (r 5) (r 1) m) (tr (tr (seqQ (f:=fun r m=>Qny G (r 5) m) (fun r m=>by kernel_rfl)) (seqQ (f:=fun r m=>Qnz G (r 10) (r 9) (r 8) (r 5) (r 1) m) (tr (blockQ (loopQ (fun i r m=>Qe5 G i (r 10) (r 9) (r 8) (r 5) (r 1) m) (fun _ _=>rfl) (fun i0=>fun r m=>by kernel_rfl))) (fun r m=>by kernel_rfl)))) (fun r m=>by kernel_rfl))) (fun r m=>by kernel_rfl))) (fun r m=>by kernel_rfl)) m
def Q1bw:En:=⟨Qq4,Tryz.f253,Tryz.func253,by kernel_rfl,arg2 Qff,okarg2 Q1ci⟩
def Qk3 (G:Gt)(p5:V)(m:M):R:=
  some (p5,m)
def Qai (G:Gt):Nat → V → V → V → V → V → M → R
 | 0,_,_,_,_,_,_=>none
 | i + 1,p10,p9,p8,p5,p1,m=>
  bp (pur (bin .lss false true .int p10 p9) m) fun x0 m=>
  brb x0
  (bp (pur (aIndexAddrSl 2 p8 p10) m) fun x1 m=>
  bp (pur (aLoad true 2 x1 m) m) fun x2 m=>
  bp (some (aNew Qlz Quh m)) fun x3 m=>
  bp (unt (aStore 2 x3 x2 m)) fun _ m=>
  bp (pur (aLoad true 2 x3 m) m) fun x4 m=>
  bp (evCall G.tab p1 [x4] m) fun x5 m=>
  bp (aBuildSlice Qlz Quh 2 1 [(0,x5)] m) fun x6 m=>
  bp (apS Qlz 2 40 p5 x6 m) fun x7 m=>
  bp (pur (bin .add true true .int p10 (.int .i64 1)) m) fun x8 m=>
  (Qai G i) x8 p9 p8 x7 p1 m)
  (Qk3 G p5 m)
def Qk4 (G:Gt)(p10 p9 p8 p5 p1:V)(m:M):R:=
  Qai G G.rds p10 p9 p8 p5 p1 m
def Qk5 (G:Gt)(p0 p5 p1:V)(m:M):R:=
  bp (pur (lenK 1 p0 m) m) fun x9 m=>
  Qk4 G (.int .i64 0) x9 p0 p5 p1 m
def Qk6 (G:Gt)(p0 p1:V)(m:M):R:=
  Qk5 G p0 (.slice none 0 0) p1 m
def Qd1 (G:Gt)(p0 p1:V)(m:M):R:=
  Qk6 G p0 p1 m
theorem Q17p (G:Gt)(a0 a1:V)(m:M):ef G Tryz.f256 [a0,a1] m = Qd1 G a0 a1 m:=
  evFn_of (r:=fun r m=>Qd1 G (r 0) (r 1) m) rfl rfl (tr (seqQ (f:=fun r m=>Qk6 G (r 0) (r 1) m) (tr (seqQ (f:=fun r m=>Qk5 G (r 0) (r 5) (r 1) m) (tr (tr (seqQ (f:=fun r m=>Qk3 G (r 5) m) (fun r m=>by kernel_rfl)) (seqQ (f:=fun r m=>Qk4 G (r 10) (r 9) (r 8) (r 5) (r 1) m) (tr (blockQ (loopQ (fun i r m=>Qai G i (r 10) (r 9) (r 8) (r 5) (r 1) m) (fun _ _=>rfl) (fun i0=>fun r m=>by kernel_rfl))) (fun r m=>by kernel_rfl)))) (fun r m=>by kernel_rfl))) (fun r m=>by kernel_rfl))) (fun r m=>by kernel_rfl)) m
def Q17k:En:=⟨Qmd,Tryz.f256,Tryz.func256,by kernel_rfl,arg2 Qd1,okarg2 Q17p⟩
def Qua (G:Gt)(p5:V)(m:M):R:=
  some (p5,m)
def Qij (G:Gt):Nat → V → V → V → V → V → M → R
 | 0,_,_,_,_,_,_=>none
 | i + 1,p10,p9,p8,p5,p1,m=>
  bp (pur (bin .lss false true .int p10 p9) m) fun x0 m=>
  brb x0
  (bp (pur (aIndexAddrSl 3 p8 p10) m) fun x1 m=>
  bp (pur (aLoad true 3 x1 m) m) fun x2 m=>
  bp (some (aNew Q17t Q1h6 m)) fun x3 m=>
  bp (unt (aStore 3 x3 x2 m)) fun _ m=>
  bp (pur (aLoad true 3 x3 m) m) fun x4 m=>
  bp (evCall G.tab p1 [x4] m) fun x5 m=>
  bp (aBuildSlice Q17t Q1h6 3 1 [(0,x5)] m) fun x6 m=>
  bp (apS Q17t 3 48 p5 x6 m) fun x7 m=>
  bp (pur (bin .add true true .int p10 (.int .i64 1)) m) fun x8 m=>
  (Qij G i) x8 p9 p8 x7 p1 m)
  (Qua G p5 m)
def Qub (G:Gt)(p10 p9 p8 p5 p1:V)(m:M):R:=
  Qij G G.rds p10 p9 p8 p5 p1 m
def Quc (G:Gt)(p0 p5 p1:V)(m:M):R:=
  bp (pur (lenK 1 p0 m) m) fun x9 m=>
  Qub G (.int .i64 0) x9 p0 p5 p1 m
def Qud (G:Gt)(p0 p1:V)(m:M):R:=
  Quc G p0 (.slice none 0 0) p1 m
def Qlq (G:Gt)(p0 p1:V)(m:M):R:=
  Qud G p0 p1 m
theorem Q1ic (G:Gt)(a0 a1:V)(m:M):ef G Tryz.f261 [a0,a1] m = Qlq G a0 a1 m:=
  evFn_of (r:=fun r m=>Qlq G (r 0) (r 1) m) rfl rfl (tr (seqQ (f:=fun r m=>Qud G (r 0) (r 1) m) (tr (seqQ (f:=fun r m=>Quc G (r 0) (r 5) (r 1) m) (tr (tr (seqQ (f:=fun r m=>Qua G (r 5) m) (fun r m=>by kernel_rfl)) (seqQ (f:=fun r m=>Qub G (r 10) (r 9) (r 8) (r 5) (r 1) m) (tr (blockQ (loopQ (fun i r m=>Qij G i (r 10) (r 9) (r 8) (r 5) (r 1) m) (fun _ _=>rfl) (fun i0=>fun r m=>by kernel_rfl))) (fun r m=>by kernel_rfl)))) (fun r m=>by kernel_rfl))) (fun r m=>by kernel_rfl))) (fun r m=>by kernel_rfl)) m
def Q1he:En:=⟨Qyn,Tryz.f261,Tryz.func261,by kernel_rfl,arg2 Qlq,okarg2 Q1ic⟩
def Qz2 (G:Gt)(p5:V)(m:M):R:=
  some (p5,m)
def Qlr (G:Gt):Nat → V → V → V → V → V → M → R
 | 0,_,_,_,_,_,_=>none
 | i + 1,p10,p9,p8,p5,p1,m=>
  bp (pur (bin .lss false true .int p10 p9) m) fun x0 m=>
  brb x0
  (bp (pur (aIndexAddrSl 3 p8 p10) m) fun x1 m=>
  bp (pur (aLoad true 3 x1 m) m) fun x2 m=>
  bp (some (aNew Qzq Q197 m)) fun x3 m=>
  bp (unt (aStore 3 x3 x2 m)) fun _ m=>
  bp (pur (aLoad true 3 x3 m) m) fun x4 m=>
  bp (evCall G.tab p1 [x4] m) fun x5 m=>
  bp (aBuildSlice Qzq Q197 3 1 [(0,x5)] m) fun x6 m=>
  bp (apS Qzq 3 48 p5 x6 m) fun x7 m=>
  bp (pur (bin .add true true .int p10 (.int .i64 1)) m) fun x8 m=>
  (Qlr G i) x8 p9 p8 x7 p1 m)
  (Qz2 G p5 m)
def Qz3 (G:Gt)(p10 p9 p8 p5 p1:V)(m:M):R:=
  Qlr G G.rds p10 p9 p8 p5 p1 m
def Qz4 (G:Gt)(p0 p5 p1:V)(m:M):R:=
  bp (pur (lenK 1 p0 m) m) fun x9 m=>
  Qz3 G (.int .i64 0) x9 p0 p5 p1 m
def Qz5 (G:Gt)(p0 p1:V)(m:M):R:=
  Qz4 G p0 (.slice none 0 0) p1 m
def Qoh (G:Gt)(p0 p1:V)(m:M):R:=
  Qz5 G p0 p1 m
theorem Q1kz (G:Gt)(a0 a1:V)(m:M):ef G Tryz.f265 [a0,a1] m = Qoh G a0 a1 m:=
  evFn_of (r:=fun r m=>Qoh G (r 0) (r 1) m) rfl rfl (tr (seqQ (f:=fun r m=>Qz5 G (r 0) (r 1) m) (tr (seqQ (f:=fun r m=>Qz4 G (r 0) (r 5) (r 1) m) (tr (tr (seqQ (f:=fun r m=>Qz2 G (r 5) m) (fun r m=>by kernel_rfl)) (seqQ (f:=fun r m=>Qz3 G (r 10) (r 9) (r 8) (r 5) (r 1) m) (tr (blockQ (loopQ (fun i r m=>Qlr G i (r 10) (r 9) (r 8) (r 5) (r 1) m) (fun _ _=>rfl) (fun i0=>fun r m=>by kernel_rfl))) (fun r m=>by kernel_rfl)))) (fun r m=>by kernel_rfl))) (fun r m=>by kernel_rfl))) (fun r m=>by kernel_rfl)) m
def Q1kd:En:=⟨Q13n,Tryz.f265,Tryz.func265,by kernel_rfl,arg2 Qoh,okarg2 Q1kz⟩
def Q10l (G:Gt)(p5:V)(m:M):R:=
  some (p5,m)
def Qmy (G:Gt):Nat → V → V → V → V → V → M → R
 | 0,_,_,_,_,_,_=>none
 | i + 1,p10,p9,p8,p5,p1,m=>
  bp (pur (bin .lss false true .int p10 p9) m) fun x0 m=>
  brb x0
  (bp (pur (aIndexAddrSl 6 p8 p10) m) fun x1 m=>
  bp (pur (aLoad true 6 x1 m) m) fun x2 m=>
  bp (some (aNew Qy0 Q163 m)) fun x3 m=>
  bp (unt (aStore 6 x3 x2 m)) fun _ m=>
  bp (pur (aLoad true 6 x3 m) m) fun x4 m=>
  bp (evCall G.tab p1 [x4] m) fun x5 m=>
  bp (aBuildSlice Qy0 Q163 6 1 [(0,x5)] m) fun x6 m=>
  bp (apS Qy0 6 96 p5 x6 m) fun x7 m=>
  bp (pur (bin .add true true .int p10 (.int .i64 1)) m) fun x8 m=>
  (Qmy G i) x8 p9 p8 x7 p1 m)
  (Q10l G p5 m)
def Q10m (G:Gt)(p10 p9 p8 p5 p1:V)(m:M):R:=
  Qmy G G.rds p10 p9 p8 p5 p1 m
def Q10n (G:Gt)(p0 p5 p1:V)(m:M):R:=
  bp (pur (lenK 1 p0 m) m) fun x9 m=>
  Q10m G (.int .i64 0) x9 p0 p5 p1 m
def Q10o (G:Gt)(p0 p1:V)(m:M):R:=
  Q10n G p0 (.slice none 0 0) p1 m
def Qqd (G:Gt)(p0 p1:V)(m:M):R:=
  Q10o G p0 p1 m
theorem Q1mm (G:Gt)(a0 a1:V)(m:M):ef G Tryz.f268 [a0,a1] m = Qqd G a0 a1 m:=
  evFn_of (r:=fun r m=>Qqd G (r 0) (r 1) m) rfl rfl (tr (seqQ (f:=fun r m=>Q10o G (r 0) (r 1) m) (tr (seqQ (f:=fun r m=>Q10n G (r 0) (r 5) (r 1) m) (tr (tr (seqQ (f:=fun r m=>Q10l G (r 5) m) (fun r m=>by kernel_rfl)) (seqQ (f:=fun r m=>Q10m G (r 10) (r 9) (r 8) (r 5) (r 1) m) (tr (blockQ (loopQ (fun i r m=>Qmy G i (r 10) (r 9) (r 8) (r 5) (r 1) m) (fun _ _=>rfl) (fun i0=>fun r m=>by kernel_rfl))) (fun r m=>by kernel_rfl)))) (fun r m=>by kernel_rfl))) (fun r m=>by kernel_rfl))) (fun r m=>by kernel_rfl)) m
def Q1ls:En:=⟨Q16z,Tryz.f268,Tryz.func268,by kernel_rfl,arg2 Qqd,okarg2 Q1mm⟩
def Q9i (G:Gt)(k0:V → V → V → V → V → V → M → R)(p87 p0 p1 p2 p11 p3 p8 p9 p10:V)(m:M):R:=
  brb p87
  (bp (G.tab Qve [p0,p1,p2,p11] m) fun x0 m=>
  k0 p2 x0 p0 p3 p8 p9 m)
  (bp (G.tab Q13o [p0,p1,p2,p11] m) fun x1 m=>
  bp (pur (aExtract x1 0) m) fun x2 m=>
  bp (pur (aExtract x1 1) m) fun x3 m=>
  bp (pur (bin .sub false true .int x2 p1) m) fun x4 m=>
  bp (pur (bin .sub false true .int p2 x2) m) fun x5 m=>
  bp (pur (bin .quo true true .int p10 (.int .i64 8)) m) fun x6 m=>
  bp (pur (bin .lss false true .int x4 x5) m) fun x7 m=>
  brb x7
  (bp (pur (bin .geq false true .int x4 x6) m) fun x8 m=>
  bp (G.tab Q6j [p0,p1,x2,p3] m) fun x9 m=>
  bp (pur (bin .add true true .int x2 (.int .i64 1)) m) fun x10 m=>
  k0 p2 x10 p0 p3 x8 x3 m)
  (bp (pur (bin .geq false true .int x5 x6) m) fun x11 m=>
  bp (pur (bin .add true true .int x2 (.int .i64 1)) m) fun x12 m=>
  bp (G.tab Q6j [p0,x12,p2,p3] m) fun x13 m=>
  k0 x2 p1 p0 p3 x11 x3 m))
def Qaj (G:Gt)(k0:V → V → V → V → V → V → M → R)(p1 p0 p11 p2 p3 p8 p9 p10:V)(m:M):R:=
  bp (pur (bin .gtr true true .int p1 (.int .i64 0)) m) fun x14 m=>
  brt x14
  (bp (pur (bin .sub true true .int p1 (.int .i64 1)) m) fun x15 m=>
  bp (pur (aIndexAddrSl 1 p0 x15) m) fun x16 m=>
  bp (pur (aLoad false 1 x16 m) m) fun x17 m=>
  bp (pur (aIndexAddrSl 1 p0 p11) m) fun x18 m=>
  bp (pur (aLoad false 1 x18 m) m) fun x19 m=>
  bp (G.tab Q1cy [x17,x19] m) fun x20 m=>
  bp (pur (un .not x20) m) fun x21 m=>
  Q9i G k0 x21 p0 p1 p2 p11 p3 p8 p9 p10 m)
  (Q9i G k0 (.bool false) p0 p1 p2 p11 p3 p8 p9 p10 m)
  (none)
def Q4u (G:Gt)(k0:V → V → V → V → V → V → M → R)(p68 p0 p1 p2 p11 p3 p8 p9 p10:V)(m:M):R:=
  brb p68
  (bp (G.tab Qod [p0,p1,p2] m) fun x22 m=>
  brb x22
  (some (.tuple ⟨[]⟩,m))
  (Qaj G k0 p1 p0 p11 p2 p3 p8 p9 p10 m))
  (Qaj G k0 p1 p0 p11 p2 p3 p8 p9 p10 m)
def Qak (G:Gt)(k0:V → V → V → V → V → V → M → R)(p8 p9 p12 p0 p1 p2 p11 p3 p10:V)(m:M):R:=
  brb p8
  (brb p9
  (bp (pur (bin .eql true true .int p12 (.int .i64 1)) m) fun x23 m=>
  Q4u G k0 x23 p0 p1 p2 p11 p3 p8 p9 p10 m)
  (Q4u G k0 (.bool false) p0 p1 p2 p11 p3 p8 p9 p10 m))
  (Q4u G k0 (.bool false) p0 p1 p2 p11 p3 p8 p9 p10 m)
def Qk7 (G:Gt)(k0:V → V → V → V → V → V → M → R)(p12 p0 p1 p2 p11 p8 p9 p3 p10:V)(m:M):R:=
  bp (pur (bin .eql true true .int p12 (.int .i64 2)) m) fun x24 m=>
  brb x24
  (bp (G.tab Qyo [p0,p1,p2] m) fun x25 m=>
  bp (pur (bin .sub true true .int p2 (.int .i64 1)) m) fun x26 m=>
  bp (pur (bin .sub false true .int p11 p1) m) fun x27 m=>
  bp (pur (bin .sub false true .int x26 x27) m) fun x28 m=>
  Qak G k0 p8 p9 (.int .i64 1) p0 p1 p2 x28 p3 p10 m)
  (Qak G k0 p8 p9 p12 p0 p1 p2 p11 p3 p10 m)
def Qal (G:Gt)(k0:V → V → V → V → V → V → M → R)(p0 p1 p2 p8 p9 p3 p10:V)(m:M):R:=
  bp (G.tab Qzn [p0,p1,p2] m) fun x29 m=>
  bp (pur (aExtract x29 0) m) fun x30 m=>
  bp (pur (aExtract x29 1) m) fun x31 m=>
  Qk7 G k0 x31 p0 p1 p2 x30 p8 p9 p3 p10 m
def Qk8 (G:Gt)(k0:V → V → V → V → V → V → M → R)(p8 p0 p1 p2 p3 p9 p10:V)(m:M):R:=
  bp (pur (un .not p8) m) fun x32 m=>
  brb x32
  (bp (G.tab Qx5 [p0,p1,p2] m) fun x33 m=>
  bp (pur (bin .sub true true .int p3 (.int .i64 1)) m) fun x34 m=>
  Qal G k0 p0 p1 p2 p8 p9 x34 p10 m)
  (Qal G k0 p0 p1 p2 p8 p9 p3 p10 m)
def Qk9 (G:Gt)(k0:V → V → V → V → V → V → M → R)(p3 p0 p1 p2 p8 p9 p10:V)(m:M):R:=
  bp (pur (bin .eql true true .int p3 (.int .i64 0)) m) fun x35 m=>
  brb x35
  (bp (G.tab Q15i [p0,p1,p2] m) fun x36 m=>
  some (.tuple ⟨[]⟩,m))
  (Qk8 G k0 p8 p0 p1 p2 p3 p9 p10 m)
def Qka (G:Gt)(k0:V → V → V → V → V → V → M → R)(p10 p0 p1 p2 p3 p8 p9:V)(m:M):R:=
  bp (pur (bin .leq true true .int p10 (.int .i64 12)) m) fun x37 m=>
  brb x37
  (bp (G.tab Qfi [p0,p1,p2] m) fun x38 m=>
  some (.tuple ⟨[]⟩,m))
  (Qk9 G k0 p3 p0 p1 p2 p8 p9 p10 m)
def Qk (G:Gt):Nat → V → V → V → V → V → V → M → R
 | 0,_,_,_,_,_,_,_=>none
 | i + 1,p2,p1,p0,p3,p8,p9,m=>
  bp (pur (bin .sub false true .int p2 p1) m) fun x39 m=>
  Qka G (Qk G i) x39 p0 p1 p2 p3 p8 p9 m
def Qkb (G:Gt)(p2 p1 p0 p3 p8 p9:V)(m:M):R:=
  Qk G G.rds p2 p1 p0 p3 p8 p9 m
def Qkc (G:Gt)(p2 p1 p0 p3 p8:V)(m:M):R:=
  Qkb G p2 p1 p0 p3 p8 (.bool true) m
def Qd2 (G:Gt)(p2 p1 p0 p3:V)(m:M):R:=
  Qkc G p2 p1 p0 p3 (.bool true) m
theorem Q17q (G:Gt)(a0 a1 a2 a3:V)(m:M):ef G Tryz.f272 [a0,a1,a2,a3] m = Qd2 G a2 a1 a0 a3 m:=
  evFn_of (r:=fun r m=>Qd2 G (r 2) (r 1) (r 0) (r 3) m) rfl rfl (tr (seqQ (f:=fun r m=>Qkc G (r 2) (r 1) (r 0) (r 3) (r 8) m) (tr (seqQ (f:=fun r m=>Qkb G (r 2) (r 1) (r 0) (r 3) (r 8) (r 9) m) (tr (blockQ (loopQ (fun i r m=>Qk G i (r 2) (r 1) (r 0) (r 3) (r 8) (r 9) m) (fun _ _=>rfl) (fun i0=>tr (blockQ (seqQ (f:=fun r m=>Qka G (Qk G i0) (r 10) (r 0) (r 1) (r 2) (r 3) (r 8) (r 9) m) (tr (seqQ (f:=fun r m=>Qk9 G (Qk G i0) (r 3) (r 0) (r 1) (r 2) (r 8) (r 9) (r 10) m) (tr (seqQ (f:=fun r m=>Qk8 G (Qk G i0) (r 8) (r 0) (r 1) (r 2) (r 3) (r 9) (r 10) m) (tr (seqQ (f:=fun r m=>Qal G (Qk G i0) (r 0) (r 1) (r 2) (r 8) (r 9) (r 3) (r 10) m) (tr (seqQ (f:=fun r m=>Qk7 G (Qk G i0) (r 12) (r 0) (r 1) (r 2) (r 11) (r 8) (r 9) (r 3) (r 10) m) (tr (seqQ (f:=fun r m=>Qak G (Qk G i0) (r 8) (r 9) (r 12) (r 0) (r 1) (r 2) (r 11) (r 3) (r 10) m) (tr (tr (seqQ (f:=fun r m=>Qaj G (Qk G i0) (r 1) (r 0) (r 11) (r 2) (r 3) (r 8) (r 9) (r 10) m) (tr (tr seqD (seqQ (f:=fun r m=>Q9i G (Qk G i0) (r 87) (r 0) (r 1) (r 2) (r 11) (r 3) (r 8) (r 9) (r 10) m) (fun r m=>by kernel_rfl))) (fun r m=>by kernel_rfl))) (seqQ (f:=fun r m=>Q4u G (Qk G i0) (r 68) (r 0) (r 1) (r 2) (r 11) (r 3) (r 8) (r 9) (r 10) m) (fun r m=>by kernel_rfl))) (fun r m=>by kernel_rfl))) (fun r m=>by kernel_rfl))) (fun r m=>by kernel_rfl))) (fun r m=>by kernel_rfl))) (fun r m=>by kernel_rfl))) (fun r m=>by kernel_rfl)))) (fun r m=>by kernel_rfl)))) (fun r m=>by kernel_rfl))) (fun r m=>by kernel_rfl))) (fun r m=>by kernel_rfl)) m
def Q17l:En:=⟨Q6j,Tryz.f272,Tryz.func272,by kernel_rfl,arg4 (fun G a0 a1 a2 a3 m=>Qd2 G a2 a1 a0 a3 m),okarg4 Q17q⟩
def Q3m (G:Gt)(p0 p1:V)(m:M):R:=
  bp (pur (lenK 1 p0 m) m) fun x0 m=>
  bp (G.tab Qjx [p0,x0,p1] m) fun x1 m=>
  some (.tuple ⟨[]⟩,m)
theorem Qmz (G:Gt)(a0 a1:V)(m:M):ef G Tryz.f273 [a0,a1] m = Q3m G a0 a1 m:=
  evFn_of (r:=fun r m=>Q3m G (r 0) (r 1) m) rfl rfl (fun r m=>by kernel_rfl) m
def Qmi:En:=⟨Q94,Tryz.f273,Tryz.func273,by kernel_rfl,arg2 Q3m,okarg2 Qmz⟩
def Qhq (G:Gt)(p0 p1 p2:V)(m:M):R:=
  bp (some (aNew Q1d (Value.cells p0).toList m)) fun x0 m=>
  bp (some (aNew Q1d (Value.cells p1).toList m)) fun x1 m=>
  bp (pur (aLoad false 1 p2 m) m) fun x2 m=>
  bp (pur (aLoad true 11 x0 m) m) fun x3 m=>
  bp (pur (aLoad false 1 p2 m) m) fun x4 m=>
  bp (pur (aLoad true 11 x1 m) m) fun x5 m=>
  bp (evCall G.tab x2 [x3] m) fun x6 m=>
  ckB (again (pur (aLoad false 1 p2 m) m) x4 && (again (pur (aLoad true 11 x1 m) m) x5 && true))
  (bp (evCall G.tab x4 [x5] m) fun x7 m=>
  bp (G.tab Q11r [x6,x7] m) fun x8 m=>
  some (x8,m))
theorem Q1ds (G:Gt)(a0 a1 a2:V)(m:M):ef G Tryz.f274 [a0,a1,a2] m = Qhq G a0 a1 a2 m:=
  evFn_of (r:=fun r m=>Qhq G (r 0) (r 1) (r 2) m) rfl rfl (fun r m=>by kernel_rfl) m
def Q1d4:En:=⟨Qry,Tryz.f274,Tryz.func274,by kernel_rfl,arg3 Qhq,okarg3 Q1ds⟩
def Q36 (G:Gt)(p0 p1:V)(m:M):R:=
  bp (pur (lenK 1 p0 m) m) fun x0 m=>
  bp (G.tab Qiq [p0,x0,p1] m) fun x1 m=>
  some (.tuple ⟨[]⟩,m)
theorem Qls (G:Gt)(a0 a1:V)(m:M):ef G Tryz.f275 [a0,a1] m = Q36 G a0 a1 m:=
  evFn_of (r:=fun r m=>Q36 G (r 0) (r 1) m) rfl rfl (fun r m=>by kernel_rfl) m
def Qkp:En:=⟨Q88,Tryz.f275,Tryz.func275,by kernel_rfl,arg2 Q36,okarg2 Qls⟩
end
end Go.Ab.Sh
