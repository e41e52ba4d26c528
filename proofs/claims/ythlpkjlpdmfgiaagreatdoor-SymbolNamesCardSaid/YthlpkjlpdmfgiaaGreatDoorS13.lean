/-
  Functions of the program as plain definitions. No conditions.
-/
import Derived.Test.YthlpkjlpdmfgiaaGreatDoorAb5
import Derived.Test.YthlpkjlpdmfgiaaGreatDoorZ
import Derived.KernelRfl
import Derived.Test.YthlpkjlpdmfgiaaGreatDoorProg
set_option linter.unusedVariables false
set_option maxRecDepth 100000
namespace Go.Ab.Sh
open Go Go.Ab Go.Proofs
noncomputable section
def Q11r (G:Gt)(p3:V)(m:M):R:=
  some (p3,m)
def Qn8 (G:Gt):Nat → V → V → M → R
 | 0,_,_,_=>none
 | i + 1,p4,p3,m=>
  bp (pur (bin .lss true true .int p4 (.int .i64 32)) m) fun x0 m=>
  brb x0
  (bp (pur (bin .mul true true .int (.int .u64 2) p3) m) fun x1 m=>
  bp (pur (bin .add true true .int p4 (.int .i64 1)) m) fun x2 m=>
  (Qn8 G i) x2 x1 m)
  (Q11r G p3 m)
def Q11s (G:Gt)(p4 p3:V)(m:M):R:=
  Qn8 G G.rds p4 p3 m
def Q11t (G:Gt)(p0 p3:V)(m:M):R:=
  Q11s G p0 p3 m
def Q11u (G:Gt)(p0:V)(m:M):R:=
  Q11t G p0 (.int .u64 1) m
def Qrp (G:Gt)(p0:V)(m:M):R:=
  Q11u G p0 m
theorem Q1is (G:Gt)(a0:V)(m:M):ef G Tryz.f344 [a0] m = Qrp G a0 m:=
  evFn_of (r:=fun r m=>Qrp G (r 0) m) rfl rfl (tr (seqQ (f:=fun r m=>Q11u G (r 0) m) (tr (seqQ (f:=fun r m=>Q11t G (r 0) (r 3) m) (tr (tr (seqQ (f:=fun r m=>Q11r G (r 3) m) (fun r m=>by kernel_rfl)) (seqQ (f:=fun r m=>Q11s G (r 4) (r 3) m) (tr (blockQ (loopQ (fun i r m=>Qn8 G i (r 4) (r 3) m) (fun _ _=>rfl) (fun i0=>fun r m=>by kernel_rfl))) (fun r m=>by kernel_rfl)))) (fun r m=>by kernel_rfl))) (fun r m=>by kernel_rfl))) (fun r m=>by kernel_rfl)) m
def Q1i3:En:=⟨Q152,Tryz.f344,Tryz.func344,by kernel_rfl,arg1 Qrp,okarg1 Q1is⟩
def Qn9 (G:Gt)(p9 p0:V)(m:M):R:=
  brb p9
  (some (.tuple ⟨[(.int .u32 0),(.int .i64 1)]⟩,m))
  (bp (G.tab Q152 [p0] m) fun x0 m=>
  bp (pur (bin .sub true true .int (.int .u64 4294967296) x0) m) fun x1 m=>
  bp (conv (.int .u32) x1 m) fun x2 m=>
  some (.tuple ⟨[x2,(.int .i64 0)]⟩,m))
def Q11v (G:Gt)(p0:V)(m:M):R:=
  bp (pur (bin .lss true true .int p0 (.int .i64 0)) m) fun x3 m=>
  brb x3
  (Qn9 G (.bool true) p0 m)
  (bp (pur (bin .gtr true true .int p0 (.int .i64 32)) m) fun x4 m=>
  Qn9 G x4 p0 m)
def Qrq (G:Gt)(p0:V)(m:M):R:=
  Q11v G p0 m
theorem Q1it (G:Gt)(a0:V)(m:M):ef G Tryz.f345 [a0] m = Qrq G a0 m:=
  evFn_of (r:=fun r m=>Qrq G (r 0) m) rfl rfl (tr (seqQ (f:=fun r m=>Q11v G (r 0) m) (tr (tr seqD (seqQ (f:=fun r m=>Qn9 G (r 9) (r 0) m) (fun r m=>by kernel_rfl))) (fun r m=>by kernel_rfl))) (fun r m=>by kernel_rfl)) m
def Q1i1:En:=⟨Q14t,Tryz.f345,Tryz.func345,by kernel_rfl,arg1 Qrq,okarg1 Q1it⟩
def Qw2 (G:Gt)(p5:V)(m:M):R:=
  some (p5,m)
def Qjn (G:Gt):Nat → V → V → V → V → V → M → R
 | 0,_,_,_,_,_,_=>none
 | i + 1,p11,p10,p9,p5,p1,m=>
  bp (pur (bin .lss false true .int p11 p10) m) fun x0 m=>
  brb x0
  (bp (pur (aIndexAddrSl 1 p9 p11) m) fun x1 m=>
  bp (pur (aLoad false 1 x1 m) m) fun x2 m=>
  bp (evCall G.tab p1 [x2] m) fun x3 m=>
  bp (pur (aLookup .str (.int .i64 0) false p5 x3 m) m) fun x4 m=>
  bp (pur (bin .add true true .int x4 (.int .i64 1)) m) fun x5 m=>
  bp (unt (aMapUpdate .str p5 x3 x5 m)) fun _ m=>
  bp (pur (bin .add true true .int p11 (.int .i64 1)) m) fun x6 m=>
  (Qjn G i) x6 p10 p9 p5 p1 m)
  (Qw2 G p5 m)
def Qw3 (G:Gt)(p11 p10 p9 p5 p1:V)(m:M):R:=
  Qjn G G.rds p11 p10 p9 p5 p1 m
def Qw4 (G:Gt)(p0 p5 p1:V)(m:M):R:=
  bp (pur (lenK 1 p0 m) m) fun x7 m=>
  Qw3 G (.int .i64 0) x7 p0 p5 p1 m
def Qw5 (G:Gt)(p0 p1:V)(m:M):R:=
  bp (some (aMakeMap m)) fun x8 m=>
  Qw4 G p0 x8 p1 m
def Qna (G:Gt)(p0 p1:V)(m:M):R:=
  Qw5 G p0 p1 m
theorem Q1ev (G:Gt)(a0 a1:V)(m:M):ef G Tryz.f347 [a0,a1] m = Qna G a0 a1 m:=
  evFn_of (r:=fun r m=>Qna G (r 0) (r 1) m) rfl rfl (tr (seqQ (f:=fun r m=>Qw5 G (r 0) (r 1) m) (tr (seqQ (f:=fun r m=>Qw4 G (r 0) (r 5) (r 1) m) (tr (tr (seqQ (f:=fun r m=>Qw2 G (r 5) m) (fun r m=>by kernel_rfl)) (seqQ (f:=fun r m=>Qw3 G (r 11) (r 10) (r 9) (r 5) (r 1) m) (tr (blockQ (loopQ (fun i r m=>Qjn G i (r 11) (r 10) (r 9) (r 5) (r 1) m) (fun _ _=>rfl) (fun i0=>fun r m=>by kernel_rfl))) (fun r m=>by kernel_rfl)))) (fun r m=>by kernel_rfl))) (fun r m=>by kernel_rfl))) (fun r m=>by kernel_rfl)) m
def Q1dw:En:=⟨Q11p,Tryz.f347,Tryz.func347,by kernel_rfl,arg2 Qna,okarg2 Q1ev⟩
def Qog (G:Gt)(p5:V)(m:M):R:=
  some (p5,m)
def Qeq (G:Gt):Nat → V → V → V → V → V → M → R
 | 0,_,_,_,_,_,_=>none
 | i + 1,p11,p10,p9,p5,p1,m=>
  bp (pur (bin .lss false true .int p11 p10) m) fun x0 m=>
  brb x0
  (bp (pur (aIndexAddrSl 2 p9 p11) m) fun x1 m=>
  bp (pur (aLoad true 2 x1 m) m) fun x2 m=>
  bp (some (aNew Qtv Q12w m)) fun x3 m=>
  bp (unt (aStore 2 x3 x2 m)) fun _ m=>
  bp (pur (aLoad true 2 x3 m) m) fun x4 m=>
  bp (evCall G.tab p1 [x4] m) fun x5 m=>
  bp (pur (aLookup .str (.int .i64 0) false p5 x5 m) m) fun x6 m=>
  bp (pur (bin .add true true .int x6 (.int .i64 1)) m) fun x7 m=>
  bp (unt (aMapUpdate .str p5 x5 x7 m)) fun _ m=>
  bp (pur (bin .add true true .int p11 (.int .i64 1)) m) fun x8 m=>
  (Qeq G i) x8 p10 p9 p5 p1 m)
  (Qog G p5 m)
def Qoh (G:Gt)(p11 p10 p9 p5 p1:V)(m:M):R:=
  Qeq G G.rds p11 p10 p9 p5 p1 m
def Qoi (G:Gt)(p0 p5 p1:V)(m:M):R:=
  bp (pur (lenK 1 p0 m) m) fun x9 m=>
  Qoh G (.int .i64 0) x9 p0 p5 p1 m
def Qoj (G:Gt)(p0 p1:V)(m:M):R:=
  bp (some (aMakeMap m)) fun x10 m=>
  Qoi G p0 x10 p1 m
def Qgt (G:Gt)(p0 p1:V)(m:M):R:=
  Qoj G p0 p1 m
theorem Q19q (G:Gt)(a0 a1:V)(m:M):ef G Tryz.f348 [a0,a1] m = Qgt G a0 a1 m:=
  evFn_of (r:=fun r m=>Qgt G (r 0) (r 1) m) rfl rfl (tr (seqQ (f:=fun r m=>Qoj G (r 0) (r 1) m) (tr (seqQ (f:=fun r m=>Qoi G (r 0) (r 5) (r 1) m) (tr (tr (seqQ (f:=fun r m=>Qog G (r 5) m) (fun r m=>by kernel_rfl)) (seqQ (f:=fun r m=>Qoh G (r 11) (r 10) (r 9) (r 5) (r 1) m) (tr (blockQ (loopQ (fun i r m=>Qeq G i (r 11) (r 10) (r 9) (r 5) (r 1) m) (fun _ _=>rfl) (fun i0=>fun r m=>by kernel_rfl))) (fun r m=>by kernel_rfl)))) (fun r m=>by kernel_rfl))) (fun r m=>by kernel_rfl))) (fun r m=>by kernel_rfl)) m
def Q195:En:=⟨Qsv,Tryz.f348,Tryz.func348,by kernel_rfl,arg2 Qgt,okarg2 Q19q⟩
def Qiy (G:Gt)(p5:V)(m:M):R:=
  some (p5,m)
def Qau (G:Gt):Nat → V → V → V → V → V → M → R
 | 0,_,_,_,_,_,_=>none
 | i + 1,p11,p10,p9,p5,p1,m=>
  bp (pur (bin .lss false true .int p11 p10) m) fun x0 m=>
  brb x0
  (bp (pur (aIndexAddrSl 2 p9 p11) m) fun x1 m=>
  bp (pur (aLoad true 2 x1 m) m) fun x2 m=>
  bp (some (aNew Qp6 Q106 m)) fun x3 m=>
  bp (unt (aStore 2 x3 x2 m)) fun _ m=>
  bp (pur (aLoad true 2 x3 m) m) fun x4 m=>
  bp (evCall G.tab p1 [x4] m) fun x5 m=>
  bp (pur (aLookup .str (.int .i64 0) false p5 x5 m) m) fun x6 m=>
  bp (pur (bin .add true true .int x6 (.int .i64 1)) m) fun x7 m=>
  bp (unt (aMapUpdate .str p5 x5 x7 m)) fun _ m=>
  bp (pur (bin .add true true .int p11 (.int .i64 1)) m) fun x8 m=>
  (Qau G i) x8 p10 p9 p5 p1 m)
  (Qiy G p5 m)
def Qiz (G:Gt)(p11 p10 p9 p5 p1:V)(m:M):R:=
  Qau G G.rds p11 p10 p9 p5 p1 m
def Qj0 (G:Gt)(p0 p5 p1:V)(m:M):R:=
  bp (pur (lenK 1 p0 m) m) fun x9 m=>
  Qiz G (.int .i64 0) x9 p0 p5 p1 m
def Qj1 (G:Gt)(p0 p1:V)(m:M):R:=
  bp (some (aMakeMap m)) fun x10 m=>
  Qj0 G p0 x10 p1 m
def Qby (G:Gt)(p0 p1:V)(m:M):R:=
  Qj1 G p0 p1 m
theorem Q13y (G:Gt)(a0 a1:V)(m:M):ef G Tryz.f349 [a0,a1] m = Qby G a0 a1 m:=
  evFn_of (r:=fun r m=>Qby G (r 0) (r 1) m) rfl rfl (tr (seqQ (f:=fun r m=>Qj1 G (r 0) (r 1) m) (tr (seqQ (f:=fun r m=>Qj0 G (r 0) (r 5) (r 1) m) (tr (tr (seqQ (f:=fun r m=>Qiy G (r 5) m) (fun r m=>by kernel_rfl)) (seqQ (f:=fun r m=>Qiz G (r 11) (r 10) (r 9) (r 5) (r 1) m) (tr (blockQ (loopQ (fun i r m=>Qau G i (r 11) (r 10) (r 9) (r 5) (r 1) m) (fun _ _=>rfl) (fun i0=>fun r m=>by kernel_rfl))) (fun r m=>by kernel_rfl)))) (fun r m=>by kernel_rfl))) (fun r m=>by kernel_rfl))) (fun r m=>by kernel_rfl)) m
def Q13u:En:=⟨Qlf,Tryz.f349,Tryz.func349,by kernel_rfl,arg2 Qby,okarg2 Q13y⟩
def Qg8 (G:Gt)(p5:V)(m:M):R:=
  some (p5,m)
def Q7m (G:Gt):Nat → V → V → V → V → V → M → R
 | 0,_,_,_,_,_,_=>none
 | i + 1,p11,p10,p9,p5,p1,m=>
  bp (pur (bin .lss false true .int p11 p10) m) fun x0 m=>
  brb x0
  (bp (pur (aIndexAddrSl 2 p9 p11) m) fun x1 m=>
  bp (pur (aLoad true 2 x1 m) m) fun x2 m=>
  bp (some (aNew Qio Qr2 m)) fun x3 m=>
  bp (unt (aStore 2 x3 x2 m)) fun _ m=>
  bp (pur (aLoad true 2 x3 m) m) fun x4 m=>
  bp (evCall G.tab p1 [x4] m) fun x5 m=>
  bp (pur (aLookup .str (.int .i64 0) false p5 x5 m) m) fun x6 m=>
  bp (pur (bin .add true true .int x6 (.int .i64 1)) m) fun x7 m=>
  bp (unt (aMapUpdate .str p5 x5 x7 m)) fun _ m=>
  bp (pur (bin .add true true .int p11 (.int .i64 1)) m) fun x8 m=>
  (Q7m G i) x8 p10 p9 p5 p1 m)
  (Qg8 G p5 m)
def Qg9 (G:Gt)(p11 p10 p9 p5 p1:V)(m:M):R:=
  Q7m G G.rds p11 p10 p9 p5 p1 m
def Qga (G:Gt)(p0 p5 p1:V)(m:M):R:=
  bp (pur (lenK 1 p0 m) m) fun x9 m=>
  Qg9 G (.int .i64 0) x9 p0 p5 p1 m
def Qgb (G:Gt)(p0 p1:V)(m:M):R:=
  bp (some (aMakeMap m)) fun x10 m=>
  Qga G p0 x10 p1 m
def Qa7 (G:Gt)(p0 p1:V)(m:M):R:=
  Qgb G p0 p1 m
theorem Q10l (G:Gt)(a0 a1:V)(m:M):ef G Tryz.f350 [a0,a1] m = Qa7 G a0 a1 m:=
  evFn_of (r:=fun r m=>Qa7 G (r 0) (r 1) m) rfl rfl (tr (seqQ (f:=fun r m=>Qgb G (r 0) (r 1) m) (tr (seqQ (f:=fun r m=>Qga G (r 0) (r 5) (r 1) m) (tr (tr (seqQ (f:=fun r m=>Qg8 G (r 5) m) (fun r m=>by kernel_rfl)) (seqQ (f:=fun r m=>Qg9 G (r 11) (r 10) (r 9) (r 5) (r 1) m) (tr (blockQ (loopQ (fun i r m=>Q7m G i (r 11) (r 10) (r 9) (r 5) (r 1) m) (fun _ _=>rfl) (fun i0=>fun r m=>by kernel_rfl))) (fun r m=>by kernel_rfl)))) (fun r m=>by kernel_rfl))) (fun r m=>by kernel_rfl))) (fun r m=>by kernel_rfl)) m
def Qzz:En:=⟨Qi3,Tryz.f350,Tryz.func350,by kernel_rfl,arg2 Qa7,okarg2 Q10l⟩
def Qok (G:Gt)(p5:V)(m:M):R:=
  some (p5,m)
def Qer (G:Gt):Nat → V → V → V → V → V → M → R
 | 0,_,_,_,_,_,_=>none
 | i + 1,p11,p10,p9,p5,p1,m=>
  bp (pur (bin .lss false true .int p11 p10) m) fun x0 m=>
  brb x0
  (bp (pur (aIndexAddrSl 3 p9 p11) m) fun x1 m=>
  bp (pur (aLoad true 3 x1 m) m) fun x2 m=>
  bp (some (aNew Q131 Q1ah m)) fun x3 m=>
  bp (unt (aStore 3 x3 x2 m)) fun _ m=>
  bp (pur (aLoad true 3 x3 m) m) fun x4 m=>
  bp (evCall G.tab p1 [x4] m) fun x5 m=>
  bp (pur (aLookup .str (.int .i64 0) false p5 x5 m) m) fun x6 m=>
  bp (pur (bin .add true true .int x6 (.int .i64 1)) m) fun x7 m=>
  bp (unt (aMapUpdate .str p5 x5 x7 m)) fun _ m=>
  bp (pur (bin .add true true .int p11 (.int .i64 1)) m) fun x8 m=>
  (Qer G i) x8 p10 p9 p5 p1 m)
  (Qok G p5 m)
def Qol (G:Gt)(p11 p10 p9 p5 p1:V)(m:M):R:=
  Qer G G.rds p11 p10 p9 p5 p1 m
def Qom (G:Gt)(p0 p5 p1:V)(m:M):R:=
  bp (pur (lenK 1 p0 m) m) fun x9 m=>
  Qol G (.int .i64 0) x9 p0 p5 p1 m
def Qon (G:Gt)(p0 p1:V)(m:M):R:=
  bp (some (aMakeMap m)) fun x10 m=>
  Qom G p0 x10 p1 m
def Qgu (G:Gt)(p0 p1:V)(m:M):R:=
  Qon G p0 p1 m
theorem Q19r (G:Gt)(a0 a1:V)(m:M):ef G Tryz.f351 [a0,a1] m = Qgu G a0 a1 m:=
  evFn_of (r:=fun r m=>Qgu G (r 0) (r 1) m) rfl rfl (tr (seqQ (f:=fun r m=>Qon G (r 0) (r 1) m) (tr (seqQ (f:=fun r m=>Qom G (r 0) (r 5) (r 1) m) (tr (tr (seqQ (f:=fun r m=>Qok G (r 5) m) (fun r m=>by kernel_rfl)) (seqQ (f:=fun r m=>Qol G (r 11) (r 10) (r 9) (r 5) (r 1) m) (tr (blockQ (loopQ (fun i r m=>Qer G i (r 11) (r 10) (r 9) (r 5) (r 1) m) (fun _ _=>rfl) (fun i0=>fun r m=>by kernel_rfl))) (fun r m=>by kernel_rfl)))) (fun r m=>by kernel_rfl))) (fun r m=>by kernel_rfl))) (fun r m=>by kernel_rfl)) m
def Q190:En:=⟨Qsw,Tryz.f351,Tryz.func351,by kernel_rfl,arg2 Qgu,okarg2 Q19r⟩
def Q10m (G:Gt)(p6:V)(m:M):R:=
  some (p6,m)
def Q1b8 (G:Gt)(p1 p0 p2:V)(m:M):R:=
  bp (pur (bin .leq false true .int p1 p0) m) fun x0 m=>
  brb x0
  (bp (pur (bin .leq false true .int p0 p2) m) fun x1 m=>
  Q10m G x1 m)
  (Q10m G (.bool false) m)
def Q15z (G:Gt)(p1 p0 p2:V)(m:M):R:=
  Q1b8 G p1 p0 p2 m
theorem Q1q5 (G:Gt)(a0 a1 a2:V)(m:M):ef G Tryz.f354 [a0,a1,a2] m = Q15z G a1 a0 a2 m:=
  evFn_of (r:=fun r m=>Q15z G (r 1) (r 0) (r 2) m) rfl rfl (tr (seqQ (f:=fun r m=>Q1b8 G (r 1) (r 0) (r 2) m) (tr (seqQ (f:=fun r m=>Q10m G (r 6) m) (fun r m=>by kernel_rfl)) (fun r m=>by kernel_rfl))) (fun r m=>by kernel_rfl)) m
def Q1pk:En:=⟨Qmu,Tryz.f354,Tryz.func354,by kernel_rfl,arg3 (fun G a0 a1 a2 m=>Q15z G a1 a0 a2 m),okarg3 Q1q5⟩
def Qij (G:Gt)(p0 p1 p2:V)(m:M):R:=
  bp (some (aNew Q1rh (Value.cells p0).toList m)) fun x0 m=>
  bp (some (aNew Q7o (Value.cells p1).toList m)) fun x1 m=>
  bp (some (aNew Qz6 (Value.cells p2).toList m)) fun x2 m=>
  bp (pur (aLoad false 1 x0 m) m) fun x3 m=>
  let x4:V:=(.func (.func Qqd) ⟨[]⟩ ⟨[x2,x0,x1]⟩)
  bp (pur (aLoad false 1 x1 m) m) fun x5 m=>
  bp (G.tab Q4e [x3,x4] m) fun x6 m=>
  ckB (again (pur (aLoad false 1 x1 m) m) x5 && true)
  (bp (pur (bin .eql false true .int x6 x5) m) fun x7 m=>
  some (x7,m))
theorem Q1b9 (G:Gt)(a0 a1 a2:V)(m:M):ef G Tryz.f355 [a0,a1,a2] m = Qij G a0 a1 a2 m:=
  evFn_of (r:=fun r m=>Qij G (r 0) (r 1) (r 2) m) rfl rfl (fun r m=>by kernel_rfl) m
def Q19x:En:=⟨Qul,Tryz.f355,Tryz.func355,by kernel_rfl,arg3 Qij,okarg3 Q1b9⟩
def Qbs (G:Gt)(k0:V → V → V → V → M → R)(p6 p2 p1 p0:V)(m:M):R:=
  bp (pur (bin .add true true .int p6 (.int .i64 1)) m) fun x0 m=>
  k0 x0 p2 p1 p0 m
def Q58 (G:Gt)(k1:V → V → V → V → V → M → R)(k0:V → V → V → V → M → R)(p30 p0 p7 p1 p6 p2:V)(m:M):R:=
  brb p30
  (bp (pur (bin .sub true true .int p7 (.int .i64 1)) m) fun x1 m=>
  bp (pur (bin .sub true true .int p7 (.int .i64 1)) m) fun x2 m=>
  bp (pur (aIndexAddrSl 1 p0 x2) m) fun x3 m=>
  bp (pur (aLoad false 1 x3 m) m) fun x4 m=>
  bp (pur (aIndexAddrSl 1 p0 p7) m) fun x5 m=>
  bp (pur (aLoad false 1 x5 m) m) fun x6 m=>
  bp (pur (aIndexAddrSl 1 p0 p7) m) fun x7 m=>
  bp (unt (aStore 1 x7 x4 m)) fun _ m=>
  bp (pur (aIndexAddrSl 1 p0 x1) m) fun x8 m=>
  bp (unt (aStore 1 x8 x6 m)) fun _ m=>
  bp (pur (bin .sub true true .int p7 (.int .i64 1)) m) fun x9 m=>
  k1 x9 p1 p0 p6 p2 m)
  (Qbs G k0 p6 p2 p1 p0 m)
def Q1w (G:Gt)(k0:V → V → V → V → M → R):Nat → V → V → V → V → V → M → R
 | 0,_,_,_,_,_,_=>none
 | i + 1,p7,p1,p0,p6,p2,m=>
  bp (pur (bin .gtr false true .int p7 p1) m) fun x10 m=>
  brt x10
  (bp (pur (aIndexAddrSl 1 p0 p7) m) fun x11 m=>
  bp (pur (aLoad false 1 x11 m) m) fun x12 m=>
  bp (pur (bin .sub true true .int p7 (.int .i64 1)) m) fun x13 m=>
  bp (pur (aIndexAddrSl 1 p0 x13) m) fun x14 m=>
  bp (pur (aLoad false 1 x14 m) m) fun x15 m=>
  bp (G.tab Q173 [x12,x15] m) fun x16 m=>
  Q58 G (Q1w G k0 i) k0 x16 p0 p7 p1 p6 p2 m)
  (Q58 G (Q1w G k0 i) k0 (.bool false) p0 p7 p1 p6 p2 m)
  (none)
def Qbt (G:Gt)(k0:V → V → V → V → M → R)(p7 p1 p0 p6 p2:V)(m:M):R:=
  Q1w G k0 G.rds p7 p1 p0 p6 p2 m
def Qbu (G:Gt)(k0:V → V → V → V → M → R)(p6 p1 p0 p2:V)(m:M):R:=
  Qbt G k0 p6 p1 p0 p6 p2 m
def Qm (G:Gt):Nat → V → V → V → V → M → R
 | 0,_,_,_,_,_=>none
 | i + 1,p6,p2,p1,p0,m=>
  bp (pur (bin .lss false true .int p6 p2) m) fun x17 m=>
  brb x17
  (Qbu G (Qm G i) p6 p1 p0 p2 m)
  (some (.tuple ⟨[]⟩,m))
def Qbv (G:Gt)(p6 p2 p1 p0:V)(m:M):R:=
  Qm G G.rds p6 p2 p1 p0 m
def Q5y (G:Gt)(p1 p2 p0:V)(m:M):R:=
  bp (pur (bin .add true true .int p1 (.int .i64 1)) m) fun x18 m=>
  Qbv G x18 p2 p1 p0 m
theorem Qt5 (G:Gt)(a0 a1 a2:V)(m:M):ef G Tryz.f378 [a0,a1,a2] m = Q5y G a1 a2 a0 m:=
  evFn_of (r:=fun r m=>Q5y G (r 1) (r 2) (r 0) m) rfl rfl (tr (seqQ (f:=fun r m=>Qbv G (r 6) (r 2) (r 1) (r 0) m) (tr (blockQ (loopQ (fun i r m=>Qm G i (r 6) (r 2) (r 1) (r 0) m) (fun _ _=>rfl) (fun i0=>tr (seqQ (f:=fun r m=>Qbu G (Qm G i0) (r 6) (r 1) (r 0) (r 2) m) (tr (tr (seqQ (f:=fun r m=>Qbs G (Qm G i0) (r 6) (r 2) (r 1) (r 0) m) (fun r m=>by kernel_rfl)) (blockQ (seqQ (f:=fun r m=>Qbt G (Qm G i0) (r 7) (r 1) (r 0) (r 6) (r 2) m) (tr (blockQ (loopQ (fun i r m=>Q1w G (Qm G i0) i (r 7) (r 1) (r 0) (r 6) (r 2) m) (fun _ _=>rfl) (fun i1=>tr (tr seqD (seqQ (f:=fun r m=>Q58 G (Q1w G (Qm G i0) i1) (Qm G i0) (r 30) (r 0) (r 7) (r 1) (r 6) (r 2) m) (fun r m=>by kernel_rfl))) (fun r m=>by kernel_rfl)))) (fun r m=>by kernel_rfl))))) (fun r m=>by kernel_rfl))) (fun r m=>by kernel_rfl)))) (fun r m=>by kernel_rfl))) (fun r m=>by kernel_rfl)) m
def Qsz:En:=⟨Qcm,Tryz.f378,Tryz.func378,by kernel_rfl,arg3 (fun G a0 a1 a2 m=>Q5y G a1 a2 a0 m),okarg3 Qt5⟩
end
end Go.Ab.Sh

set_option linter.unusedVariables false
set_option maxRecDepth 100000
namespace Go.Ab.Sh
open Go Go.Ab Go.Proofs
noncomputable section
def Q78 (G:Gt)(k0:V → V → V → V → M → R)(p6 p1 p0 p2:V)(m:M):R:=
  bp (pur (bin .mul true true .int p6 (.int .i64 2)) m) fun x0 m=>
  k0 x0 p1 p0 p2 m
def Qf3 (G:Gt)(k0:V → V → V → V → M → R)(p7 p6 p1 p0 p2:V)(m:M):R:=
  bp (pur (bin .add false true .int p7 p6) m) fun x1 m=>
  bp (pur (bin .lss false true .int x1 p1) m) fun x2 m=>
  brb x2
  (bp (G.tab Qf2 [p0,p7,x1,p1,p2] m) fun x3 m=>
  Q78 G k0 p6 p1 p0 p2 m)
  (Q78 G k0 p6 p1 p0 p2 m)
def Q79 (G:Gt)(k0:V → V → V → V → M → R):Nat → V → V → V → V → V → V → M → R
 | 0,_,_,_,_,_,_,_=>none
 | i + 1,p8,p1,p0,p7,p6,p2,m=>
  bp (pur (bin .leq false true .int p8 p1) m) fun x4 m=>
  brb x4
  (bp (pur (bin .add false true .int p7 p6) m) fun x5 m=>
  bp (G.tab Qf2 [p0,p7,x5,p8,p2] m) fun x6 m=>
  bp (pur (bin .mul true true .int (.int .i64 2) p6) m) fun x7 m=>
  bp (pur (bin .add false true .int p8 x7) m) fun x8 m=>
  (Q79 G k0 i) x8 p1 p0 p8 p6 p2 m)
  (Qf3 G k0 p7 p6 p1 p0 p2 m)
def Qf4 (G:Gt)(k0:V → V → V → V → M → R)(p8 p1 p0 p7 p6 p2:V)(m:M):R:=
  Q79 G k0 G.rds p8 p1 p0 p7 p6 p2 m
def Qf5 (G:Gt)(k0:V → V → V → V → M → R)(p6 p1 p0 p2:V)(m:M):R:=
  bp (pur (bin .mul true true .int (.int .i64 2) p6) m) fun x9 m=>
  Qf4 G k0 x9 p1 p0 (.int .i64 0) p6 p2 m
def Q15 (G:Gt):Nat → V → V → V → V → M → R
 | 0,_,_,_,_,_=>none
 | i + 1,p6,p1,p0,p2,m=>
  bp (pur (bin .lss false true .int p6 p1) m) fun x10 m=>
  brb x10
  (Qf5 G (Q15 G i) p6 p1 p0 p2 m)
  (some (.tuple ⟨[]⟩,m))
def Qf6 (G:Gt)(p6 p1 p0 p2:V)(m:M):R:=
  Q15 G G.rds p6 p1 p0 p2 m
def Qf7 (G:Gt)(p0 p7 p1 p2 p6:V)(m:M):R:=
  bp (G.tab Q51 [p0,p7,p1,p2] m) fun x11 m=>
  Qf6 G p6 p1 p0 p2 m
def Q6t (G:Gt):Nat → V → V → V → V → V → V → M → R
 | 0,_,_,_,_,_,_,_=>none
 | i + 1,p8,p1,p0,p7,p2,p6,m=>
  bp (pur (bin .leq false true .int p8 p1) m) fun x12 m=>
  brb x12
  (bp (G.tab Q51 [p0,p7,p8,p2] m) fun x13 m=>
  bp (pur (bin .add false true .int p8 p6) m) fun x14 m=>
  (Q6t G i) x14 p1 p0 p8 p2 p6 m)
  (Qf7 G p0 p7 p1 p2 p6 m)
def Qf8 (G:Gt)(p8 p1 p0 p7 p2 p6:V)(m:M):R:=
  Q6t G G.rds p8 p1 p0 p7 p2 p6 m
def Qf9 (G:Gt)(p6 p1 p0 p2:V)(m:M):R:=
  Qf8 G p6 p1 p0 (.int .i64 0) p2 p6 m
def Q8k (G:Gt)(p1 p0 p2:V)(m:M):R:=
  Qf9 G (.int .i64 20) p1 p0 p2 m
theorem Qza (G:Gt)(a0 a1 a2:V)(m:M):ef G Tryz.f387 [a0,a1,a2] m = Q8k G a1 a0 a2 m:=
  evFn_of (r:=fun r m=>Q8k G (r 1) (r 0) (r 2) m) rfl rfl (tr (seqQ (f:=fun r m=>Qf9 G (r 6) (r 1) (r 0) (r 2) m) (tr (seqQ (f:=fun r m=>Qf8 G (r 8) (r 1) (r 0) (r 7) (r 2) (r 6) m) (tr (tr (seqQ (f:=fun r m=>Qf7 G (r 0) (r 7) (r 1) (r 2) (r 6) m) (tr (seqQ (f:=fun r m=>Qf6 G (r 6) (r 1) (r 0) (r 2) m) (tr (blockQ (loopQ (fun i r m=>Q15 G i (r 6) (r 1) (r 0) (r 2) m) (fun _ _=>rfl) (fun i0=>tr (seqQ (f:=fun r m=>Qf5 G (Q15 G i0) (r 6) (r 1) (r 0) (r 2) m) (tr (blockQ (seqQ (f:=fun r m=>Qf4 G (Q15 G i0) (r 8) (r 1) (r 0) (r 7) (r 6) (r 2) m) (tr (tr (seqQ (f:=fun r m=>Qf3 G (Q15 G i0) (r 7) (r 6) (r 1) (r 0) (r 2) m) (tr (seqQ (f:=fun r m=>Q78 G (Q15 G i0) (r 6) (r 1) (r 0) (r 2) m) (fun r m=>by kernel_rfl)) (fun r m=>by kernel_rfl))) (blockQ (loopQ (fun i r m=>Q79 G (Q15 G i0) i (r 8) (r 1) (r 0) (r 7) (r 6) (r 2) m) (fun _ _=>rfl) (fun i1=>fun r m=>by kernel_rfl)))) (fun r m=>by kernel_rfl)))) (fun r m=>by kernel_rfl))) (fun r m=>by kernel_rfl)))) (fun r m=>by kernel_rfl))) (fun r m=>by kernel_rfl))) (blockQ (loopQ (fun i r m=>Q6t G i (r 8) (r 1) (r 0) (r 7) (r 2) (r 6) m) (fun _ _=>rfl) (fun i0=>fun r m=>by kernel_rfl)))) (fun r m=>by kernel_rfl))) (fun r m=>by kernel_rfl))) (fun r m=>by kernel_rfl)) m
def Qx5:En:=⟨Qh6,Tryz.f387,Tryz.func387,by kernel_rfl,arg3 (fun G a0 a1 a2 m=>Q8k G a1 a0 a2 m),okarg3 Qza⟩
def Q6u (G:Gt)(k0:V → V → V → V → M → R)(p6 p1 p0 p2:V)(m:M):R:=
  bp (pur (bin .mul true true .int p6 (.int .i64 2)) m) fun x0 m=>
  k0 x0 p1 p0 p2 m
def Qes (G:Gt)(k0:V → V → V → V → M → R)(p7 p6 p1 p0 p2:V)(m:M):R:=
  bp (pur (bin .add false true .int p7 p6) m) fun x1 m=>
  bp (pur (bin .lss false true .int x1 p1) m) fun x2 m=>
  brb x2
  (bp (G.tab Qep [p0,p7,x1,p1,p2] m) fun x3 m=>
  Q6u G k0 p6 p1 p0 p2 m)
  (Q6u G k0 p6 p1 p0 p2 m)
def Q6v (G:Gt)(k0:V → V → V → V → M → R):Nat → V → V → V → V → V → V → M → R
 | 0,_,_,_,_,_,_,_=>none
 | i + 1,p8,p1,p0,p7,p6,p2,m=>
  bp (pur (bin .leq false true .int p8 p1) m) fun x4 m=>
  brb x4
  (bp (pur (bin .add false true .int p7 p6) m) fun x5 m=>
  bp (G.tab Qep [p0,p7,x5,p8,p2] m) fun x6 m=>
  bp (pur (bin .mul true true .int (.int .i64 2) p6) m) fun x7 m=>
  bp (pur (bin .add false true .int p8 x7) m) fun x8 m=>
  (Q6v G k0 i) x8 p1 p0 p8 p6 p2 m)
  (Qes G k0 p7 p6 p1 p0 p2 m)
def Qet (G:Gt)(k0:V → V → V → V → M → R)(p8 p1 p0 p7 p6 p2:V)(m:M):R:=
  Q6v G k0 G.rds p8 p1 p0 p7 p6 p2 m
def Qeu (G:Gt)(k0:V → V → V → V → M → R)(p6 p1 p0 p2:V)(m:M):R:=
  bp (pur (bin .mul true true .int (.int .i64 2) p6) m) fun x9 m=>
  Qet G k0 x9 p1 p0 (.int .i64 0) p6 p2 m
def Q11 (G:Gt):Nat → V → V → V → V → M → R
 | 0,_,_,_,_,_=>none
 | i + 1,p6,p1,p0,p2,m=>
  bp (pur (bin .lss false true .int p6 p1) m) fun x10 m=>
  brb x10
  (Qeu G (Q11 G i) p6 p1 p0 p2 m)
  (some (.tuple ⟨[]⟩,m))
def Qev (G:Gt)(p6 p1 p0 p2:V)(m:M):R:=
  Q11 G G.rds p6 p1 p0 p2 m
def Qew (G:Gt)(p0 p7 p1 p2 p6:V)(m:M):R:=
  bp (G.tab Q4n [p0,p7,p1,p2] m) fun x11 m=>
  Qev G p6 p1 p0 p2 m
def Q5z (G:Gt):Nat → V → V → V → V → V → V → M → R
 | 0,_,_,_,_,_,_,_=>none
 | i + 1,p8,p1,p0,p7,p2,p6,m=>
  bp (pur (bin .leq false true .int p8 p1) m) fun x12 m=>
  brb x12
  (bp (G.tab Q4n [p0,p7,p8,p2] m) fun x13 m=>
  bp (pur (bin .add false true .int p8 p6) m) fun x14 m=>
  (Q5z G i) x14 p1 p0 p8 p2 p6 m)
  (Qew G p0 p7 p1 p2 p6 m)
def Qex (G:Gt)(p8 p1 p0 p7 p2 p6:V)(m:M):R:=
  Q5z G G.rds p8 p1 p0 p7 p2 p6 m
def Qey (G:Gt)(p6 p1 p0 p2:V)(m:M):R:=
  Qex G p6 p1 p0 (.int .i64 0) p2 p6 m
def Q7n (G:Gt)(p1 p0 p2:V)(m:M):R:=
  Qey G (.int .i64 20) p1 p0 p2 m
theorem Qx2 (G:Gt)(a0 a1 a2:V)(m:M):ef G Tryz.f388 [a0,a1,a2] m = Q7n G a1 a0 a2 m:=
  evFn_of (r:=fun r m=>Q7n G (r 1) (r 0) (r 2) m) rfl rfl (tr (seqQ (f:=fun r m=>Qey G (r 6) (r 1) (r 0) (r 2) m) (tr (seqQ (f:=fun r m=>Qex G (r 8) (r 1) (r 0) (r 7) (r 2) (r 6) m) (tr (tr (seqQ (f:=fun r m=>Qew G (r 0) (r 7) (r 1) (r 2) (r 6) m) (tr (seqQ (f:=fun r m=>Qev G (r 6) (r 1) (r 0) (r 2) m) (tr (blockQ (loopQ (fun i r m=>Q11 G i (r 6) (r 1) (r 0) (r 2) m) (fun _ _=>rfl) (fun i0=>tr (seqQ (f:=fun r m=>Qeu G (Q11 G i0) (r 6) (r 1) (r 0) (r 2) m) (tr (blockQ (seqQ (f:=fun r m=>Qet G (Q11 G i0) (r 8) (r 1) (r 0) (r 7) (r 6) (r 2) m) (tr (tr (seqQ (f:=fun r m=>Qes G (Q11 G i0) (r 7) (r 6) (r 1) (r 0) (r 2) m) (tr (seqQ (f:=fun r m=>Q6u G (Q11 G i0) (r 6) (r 1) (r 0) (r 2) m) (fun r m=>by kernel_rfl)) (fun r m=>by kernel_rfl))) (blockQ (loopQ (fun i r m=>Q6v G (Q11 G i0) i (r 8) (r 1) (r 0) (r 7) (r 6) (r 2) m) (fun _ _=>rfl) (fun i1=>fun r m=>by kernel_rfl)))) (fun r m=>by kernel_rfl)))) (fun r m=>by kernel_rfl))) (fun r m=>by kernel_rfl)))) (fun r m=>by kernel_rfl))) (fun r m=>by kernel_rfl))) (blockQ (loopQ (fun i r m=>Q5z G i (r 8) (r 1) (r 0) (r 7) (r 2) (r 6) m) (fun _ _=>rfl) (fun i0=>fun r m=>by kernel_rfl)))) (fun r m=>by kernel_rfl))) (fun r m=>by kernel_rfl))) (fun r m=>by kernel_rfl)) m
def Qwg:En:=⟨Qfn,Tryz.f388,Tryz.func388,by kernel_rfl,arg3 (fun G a0 a1 a2 m=>Q7n G a1 a0 a2 m),okarg3 Qx2⟩
def Q52 (G:Gt)(k0:V → V → V → V → M → R)(p6 p1 p0 p2:V)(m:M):R:=
  bp (pur (bin .mul true true .int p6 (.int .i64 2)) m) fun x0 m=>
  k0 x0 p1 p0 p2 m
def Qbk (G:Gt)(k0:V → V → V → V → M → R)(p7 p6 p1 p0 p2:V)(m:M):R:=
  bp (pur (bin .add false true .int p7 p6) m) fun x1 m=>
  bp (pur (bin .lss false true .int x1 p1) m) fun x2 m=>
  brb x2
  (bp (G.tab Qbj [p0,p7,x1,p1,p2] m) fun x3 m=>
  Q52 G k0 p6 p1 p0 p2 m)
  (Q52 G k0 p6 p1 p0 p2 m)
def Q53 (G:Gt)(k0:V → V → V → V → M → R):Nat → V → V → V → V → V → V → M → R
 | 0,_,_,_,_,_,_,_=>none
 | i + 1,p8,p1,p0,p7,p6,p2,m=>
  bp (pur (bin .leq false true .int p8 p1) m) fun x4 m=>
  brb x4
  (bp (pur (bin .add false true .int p7 p6) m) fun x5 m=>
  bp (G.tab Qbj [p0,p7,x5,p8,p2] m) fun x6 m=>
  bp (pur (bin .mul true true .int (.int .i64 2) p6) m) fun x7 m=>
  bp (pur (bin .add false true .int p8 x7) m) fun x8 m=>
  (Q53 G k0 i) x8 p1 p0 p8 p6 p2 m)
  (Qbk G k0 p7 p6 p1 p0 p2 m)
def Qbl (G:Gt)(k0:V → V → V → V → M → R)(p8 p1 p0 p7 p6 p2:V)(m:M):R:=
  Q53 G k0 G.rds p8 p1 p0 p7 p6 p2 m
def Qbm (G:Gt)(k0:V → V → V → V → M → R)(p6 p1 p0 p2:V)(m:M):R:=
  bp (pur (bin .mul true true .int (.int .i64 2) p6) m) fun x9 m=>
  Qbl G k0 x9 p1 p0 (.int .i64 0) p6 p2 m
def Qr (G:Gt):Nat → V → V → V → V → M → R
 | 0,_,_,_,_,_=>none
 | i + 1,p6,p1,p0,p2,m=>
  bp (pur (bin .lss false true .int p6 p1) m) fun x10 m=>
  brb x10
  (Qbm G (Qr G i) p6 p1 p0 p2 m)
  (some (.tuple ⟨[]⟩,m))
def Qbn (G:Gt)(p6 p1 p0 p2:V)(m:M):R:=
  Qr G G.rds p6 p1 p0 p2 m
def Qbo (G:Gt)(p0 p7 p1 p2 p6:V)(m:M):R:=
  bp (G.tab Q38 [p0,p7,p1,p2] m) fun x11 m=>
  Qbn G p6 p1 p0 p2 m
def Q4o (G:Gt):Nat → V → V → V → V → V → V → M → R
 | 0,_,_,_,_,_,_,_=>none
 | i + 1,p8,p1,p0,p7,p2,p6,m=>
  bp (pur (bin .leq false true .int p8 p1) m) fun x12 m=>
  brb x12
  (bp (G.tab Q38 [p0,p7,p8,p2] m) fun x13 m=>
  bp (pur (bin .add false true .int p8 p6) m) fun x14 m=>
  (Q4o G i) x14 p1 p0 p8 p2 p6 m)
  (Qbo G p0 p7 p1 p2 p6 m)
def Qbp (G:Gt)(p8 p1 p0 p7 p2 p6:V)(m:M):R:=
  Q4o G G.rds p8 p1 p0 p7 p2 p6 m
def Qbq (G:Gt)(p6 p1 p0 p2:V)(m:M):R:=
  Qbp G p6 p1 p0 (.int .i64 0) p2 p6 m
def Q5k (G:Gt)(p1 p0 p2:V)(m:M):R:=
  Qbq G (.int .i64 20) p1 p0 p2 m
theorem Qrr (G:Gt)(a0 a1 a2:V)(m:M):ef G Tryz.f389 [a0,a1,a2] m = Q5k G a1 a0 a2 m:=
  evFn_of (r:=fun r m=>Q5k G (r 1) (r 0) (r 2) m) rfl rfl (tr (seqQ (f:=fun r m=>Qbq G (r 6) (r 1) (r 0) (r 2) m) (tr (seqQ (f:=fun r m=>Qbp G (r 8) (r 1) (r 0) (r 7) (r 2) (r 6) m) (tr (tr (seqQ (f:=fun r m=>Qbo G (r 0) (r 7) (r 1) (r 2) (r 6) m) (tr (seqQ (f:=fun r m=>Qbn G (r 6) (r 1) (r 0) (r 2) m) (tr (blockQ (loopQ (fun i r m=>Qr G i (r 6) (r 1) (r 0) (r 2) m) (fun _ _=>rfl) (fun i0=>tr (seqQ (f:=fun r m=>Qbm G (Qr G i0) (r 6) (r 1) (r 0) (r 2) m) (tr (blockQ (seqQ (f:=fun r m=>Qbl G (Qr G i0) (r 8) (r 1) (r 0) (r 7) (r 6) (r 2) m) (tr (tr (seqQ (f:=fun r m=>Qbk G (Qr G i0) (r 7) (r 6) (r 1) (r 0) (r 2) m) (tr (seqQ (f:=fun r m=>Q52 G (Qr G i0) (r 6) (r 1) (r 0) (r 2) m) (fun r m=>by kernel_rfl)) (fun r m=>by kernel_rfl))) (blockQ (loopQ (fun i r m=>Q53 G (Qr G i0) i (r 8) (r 1) (r 0) (r 7) (r 6) (r 2) m) (fun _ _=>rfl) (fun i1=>fun r m=>by kernel_rfl)))) (fun r m=>by kernel_rfl)))) (fun r m=>by kernel_rfl))) (fun r m=>by kernel_rfl)))) (fun r m=>by kernel_rfl))) (fun r m=>by kernel_rfl))) (blockQ (loopQ (fun i r m=>Q4o G i (r 8) (r 1) (r 0) (r 7) (r 2) (r 6) m) (fun _ _=>rfl) (fun i0=>fun r m=>by kernel_rfl)))) (fun r m=>by kernel_rfl))) (fun r m=>by kernel_rfl))) (fun r m=>by kernel_rfl)) m
def Qqq:En:=⟨Qc2,Tryz.f389,Tryz.func389,by kernel_rfl,arg3 (fun G a0 a1 a2 m=>Q5k G a1 a0 a2 m),okarg3 Qrr⟩
def Q3x (G:Gt)(k0:V → V → V → V → M → R)(p6 p1 p0 p2:V)(m:M):R:=
  bp (pur (bin .mul true true .int p6 (.int .i64 2)) m) fun x0 m=>
  k0 x0 p1 p0 p2 m
def Q9t (G:Gt)(k0:V → V → V → V → M → R)(p7 p6 p1 p0 p2:V)(m:M):R:=
  bp (pur (bin .add false true .int p7 p6) m) fun x1 m=>
  bp (pur (bin .lss false true .int x1 p1) m) fun x2 m=>
  brb x2
  (bp (G.tab Q9s [p0,p7,x1,p1,p2] m) fun x3 m=>
  Q3x G k0 p6 p1 p0 p2 m)
  (Q3x G k0 p6 p1 p0 p2 m)
def Q3y (G:Gt)(k0:V → V → V → V → M → R):Nat → V → V → V → V → V → V → M → R
 | 0,_,_,_,_,_,_,_=>none
 | i + 1,p8,p1,p0,p7,p6,p2,m=>
  bp (pur (bin .leq false true .int p8 p1) m) fun x4 m=>
  brb x4
  (bp (pur (bin .add false true .int p7 p6) m) fun x5 m=>
  bp (G.tab Q9s [p0,p7,x5,p8,p2] m) fun x6 m=>
  bp (pur (bin .mul true true .int (.int .i64 2) p6) m) fun x7 m=>
  bp (pur (bin .add false true .int p8 x7) m) fun x8 m=>
  (Q3y G k0 i) x8 p1 p0 p8 p6 p2 m)
  (Q9t G k0 p7 p6 p1 p0 p2 m)
def Q9u (G:Gt)(k0:V → V → V → V → M → R)(p8 p1 p0 p7 p6 p2:V)(m:M):R:=
  Q3y G k0 G.rds p8 p1 p0 p7 p6 p2 m
def Q9v (G:Gt)(k0:V → V → V → V → M → R)(p6 p1 p0 p2:V)(m:M):R:=
  bp (pur (bin .mul true true .int (.int .i64 2) p6) m) fun x9 m=>
  Q9u G k0 x9 p1 p0 (.int .i64 0) p6 p2 m
def Qn (G:Gt):Nat → V → V → V → V → M → R
 | 0,_,_,_,_,_=>none
 | i + 1,p6,p1,p0,p2,m=>
  bp (pur (bin .lss false true .int p6 p1) m) fun x10 m=>
  brb x10
  (Q9v G (Qn G i) p6 p1 p0 p2 m)
  (some (.tuple ⟨[]⟩,m))
def Q9w (G:Gt)(p6 p1 p0 p2:V)(m:M):R:=
  Qn G G.rds p6 p1 p0 p2 m
def Q9x (G:Gt)(p0 p7 p1 p2 p6:V)(m:M):R:=
  bp (G.tab Q2s [p0,p7,p1,p2] m) fun x11 m=>
  Q9w G p6 p1 p0 p2 m
def Q3k (G:Gt):Nat → V → V → V → V → V → V → M → R
 | 0,_,_,_,_,_,_,_=>none
 | i + 1,p8,p1,p0,p7,p2,p6,m=>
  bp (pur (bin .leq false true .int p8 p1) m) fun x12 m=>
  brb x12
  (bp (G.tab Q2s [p0,p7,p8,p2] m) fun x13 m=>
  bp (pur (bin .add false true .int p8 p6) m) fun x14 m=>
  (Q3k G i) x14 p1 p0 p8 p2 p6 m)
  (Q9x G p0 p7 p1 p2 p6 m)
def Q9y (G:Gt)(p8 p1 p0 p7 p2 p6:V)(m:M):R:=
  Q3k G G.rds p8 p1 p0 p7 p2 p6 m
def Q9z (G:Gt)(p6 p1 p0 p2:V)(m:M):R:=
  Q9y G p6 p1 p0 (.int .i64 0) p2 p6 m
def Q4p (G:Gt)(p1 p0 p2:V)(m:M):R:=
  Q9z G (.int .i64 20) p1 p0 p2 m
theorem Qny (G:Gt)(a0 a1 a2:V)(m:M):ef G Tryz.f390 [a0,a1,a2] m = Q4p G a1 a0 a2 m:=
  evFn_of (r:=fun r m=>Q4p G (r 1) (r 0) (r 2) m) rfl rfl (tr (seqQ (f:=fun r m=>Q9z G (r 6) (r 1) (r 0) (r 2) m) (tr (seqQ (f:=fun r m=>Q9y G (r 8) (r 1) (r 0) (r 7) (r 2) (r 6) m) (tr (tr (seqQ (f:=fun r m=>Q9x G (r 0) (r 7) (r 1) (r 2) (r 6) m) (tr (seqQ (f:=fun r m=>Q9w G (r 6) (r 1) (r 0) (r 2) m) (tr (blockQ (loopQ (fun i r m=>Qn G i (r 6) (r 1) (r 0) (r 2) m) (fun _ _=>rfl) (fun i0=>tr (seqQ (f:=fun r m=>Q9v G (Qn G i0) (r 6) (r 1) (r 0) (r 2) m) (tr (blockQ (seqQ (f:=fun r m=>Q9u G (Qn G i0) (r 8) (r 1) (r 0) (r 7) (r 6) (r 2) m) (tr (tr (seqQ (f:=fun r m=>Q9t G (Qn G i0) (r 7) (r 6) (r 1) (r 0) (r 2) m) (tr (seqQ (f:=fun r m=>Q3x G (Qn G i0) (r 6) (r 1) (r 0) (r 2) m) (fun r m=>by kernel_rfl)) (fun r m=>by kernel_rfl))) (blockQ (loopQ (fun i r m=>Q3y G (Qn G i0) i (r 8) (r 1) (r 0) (r 7) (r 6) (r 2) m) (fun _ _=>rfl) (fun i1=>fun r m=>by kernel_rfl)))) (fun r m=>by kernel_rfl)))) (fun r m=>by kernel_rfl))) (fun r m=>by kernel_rfl)))) (fun r m=>by kernel_rfl))) (fun r m=>by kernel_rfl))) (blockQ (loopQ (fun i r m=>Q3k G i (r 8) (r 1) (r 0) (r 7) (r 2) (r 6) m) (fun _ _=>rfl) (fun i0=>fun r m=>by kernel_rfl)))) (fun r m=>by kernel_rfl))) (fun r m=>by kernel_rfl))) (fun r m=>by kernel_rfl)) m
def Qnk:En:=⟨Qav,Tryz.f390,Tryz.func390,by kernel_rfl,arg3 (fun G a0 a1 a2 m=>Q4p G a1 a0 a2 m),okarg3 Qny⟩
end
end Go.Ab.Sh
