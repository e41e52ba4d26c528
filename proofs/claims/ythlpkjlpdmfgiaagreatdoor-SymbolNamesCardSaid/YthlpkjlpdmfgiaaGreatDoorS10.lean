/-
  Functions of the program as plain definitions. No conditions.
-/
import Derived.Test.YthlpkjlpdmfgiaaGreatDoorAb5
import Derived.Test.YthlpkjlpdmfgiaaGreatDoorZ
import Derived.KernelRfl
import Derived.Test.YthlpkjlpdmfgiaaGreatDoorProg
set_option linter.unusedVariables false
set_option maxRecDepth 100000
namespace Go.Ab.Sh
open Go Go.Ab Go.Proofs
noncomputable section
def Qaa (G:Gt)(k0:V → V → V → V → V → M → R)(p8 p2 p1 p3 p0:V)(m:M):R:=
  bp (pur (bin .add true true .int p8 (.int .i64 1)) m) fun x0 m=>
  k0 x0 p2 p1 p3 p0 m
def Q44 (G:Gt)(k1:V → V → V → V → V → V → M → R)(k0:V → V → V → V → V → M → R)(p34 p0 p9 p1 p3 p8 p2:V)(m:M):R:=
  brb p34
  (bp (pur (bin .sub true true .int p9 (.int .i64 1)) m) fun x1 m=>
  bp (pur (bin .sub true true .int p9 (.int .i64 1)) m) fun x2 m=>
  bp (pur (aIndexAddrSl 4 p0 x2) m) fun x3 m=>
  bp (pur (aLoad true 4 x3 m) m) fun x4 m=>
  bp (pur (aIndexAddrSl 4 p0 p9) m) fun x5 m=>
  bp (pur (aLoad true 4 x5 m) m) fun x6 m=>
  bp (pur (aIndexAddrSl 4 p0 p9) m) fun x7 m=>
  bp (unt (aStore 4 x7 x4 m)) fun _ m=>
  bp (pur (aIndexAddrSl 4 p0 x1) m) fun x8 m=>
  bp (unt (aStore 4 x8 x6 m)) fun _ m=>
  bp (pur (bin .sub true true .int p9 (.int .i64 1)) m) fun x9 m=>
  k1 x9 p1 p3 p0 p8 p2 m)
  (Qaa G k0 p8 p2 p1 p3 p0 m)
def Q1m (G:Gt)(k0:V → V → V → V → V → M → R):Nat → V → V → V → V → V → V → M → R
 | 0,_,_,_,_,_,_,_=>none
 | i + 1,p9,p1,p3,p0,p8,p2,m=>
  bp (pur (bin .gtr false true .int p9 p1) m) fun x10 m=>
  brt x10
  (bp (pur (aIndexAddrSl 4 p0 p9) m) fun x11 m=>
  bp (pur (aLoad true 4 x11 m) m) fun x12 m=>
  bp (pur (bin .sub true true .int p9 (.int .i64 1)) m) fun x13 m=>
  bp (pur (aIndexAddrSl 4 p0 x13) m) fun x14 m=>
  bp (pur (aLoad true 4 x14 m) m) fun x15 m=>
  bp (evCall G.tab p3 [x12,x15] m) fun x16 m=>
  bp (pur (bin .lss true true .int x16 (.int .i64 0)) m) fun x17 m=>
  Q44 G (Q1m G k0 i) k0 x17 p0 p9 p1 p3 p8 p2 m)
  (Q44 G (Q1m G k0 i) k0 (.bool false) p0 p9 p1 p3 p8 p2 m)
  (none)
def Qab (G:Gt)(k0:V → V → V → V → V → M → R)(p9 p1 p3 p0 p8 p2:V)(m:M):R:=
  Q1m G k0 G.rds p9 p1 p3 p0 p8 p2 m
def Qac (G:Gt)(k0:V → V → V → V → V → M → R)(p8 p1 p3 p0 p2:V)(m:M):R:=
  Qab G k0 p8 p1 p3 p0 p8 p2 m
def Qg (G:Gt):Nat → V → V → V → V → V → M → R
 | 0,_,_,_,_,_,_=>none
 | i + 1,p8,p2,p1,p3,p0,m=>
  bp (pur (bin .lss false true .int p8 p2) m) fun x18 m=>
  brb x18
  (Qac G (Qg G i) p8 p1 p3 p0 p2 m)
  (some (.tuple ⟨[]⟩,m))
def Qad (G:Gt)(p8 p2 p1 p3 p0:V)(m:M):R:=
  Qg G G.rds p8 p2 p1 p3 p0 m
def Q4y (G:Gt)(p1 p2 p3 p0:V)(m:M):R:=
  bp (pur (bin .add true true .int p1 (.int .i64 1)) m) fun x19 m=>
  Qad G x19 p2 p1 p3 p0 m
theorem Qpi (G:Gt)(a0 a1 a2 a3:V)(m:M):ef G Tryz.f210 [a0,a1,a2,a3] m = Q4y G a1 a2 a3 a0 m:=
  evFn_of (r:=fun r m=>Q4y G (r 1) (r 2) (r 3) (r 0) m) rfl rfl (tr (seqQ (f:=fun r m=>Qad G (r 8) (r 2) (r 1) (r 3) (r 0) m) (tr (blockQ (loopQ (fun i r m=>Qg G i (r 8) (r 2) (r 1) (r 3) (r 0) m) (fun _ _=>rfl) (fun i0=>tr (seqQ (f:=fun r m=>Qac G (Qg G i0) (r 8) (r 1) (r 3) (r 0) (r 2) m) (tr (tr (seqQ (f:=fun r m=>Qaa G (Qg G i0) (r 8) (r 2) (r 1) (r 3) (r 0) m) (fun r m=>by kernel_rfl)) (blockQ (seqQ (f:=fun r m=>Qab G (Qg G i0) (r 9) (r 1) (r 3) (r 0) (r 8) (r 2) m) (tr (blockQ (loopQ (fun i r m=>Q1m G (Qg G i0) i (r 9) (r 1) (r 3) (r 0) (r 8) (r 2) m) (fun _ _=>rfl) (fun i1=>tr (tr seqD (seqQ (f:=fun r m=>Q44 G (Q1m G (Qg G i0) i1) (Qg G i0) (r 34) (r 0) (r 9) (r 1) (r 3) (r 8) (r 2) m) (fun r m=>by kernel_rfl))) (fun r m=>by kernel_rfl)))) (fun r m=>by kernel_rfl))))) (fun r m=>by kernel_rfl))) (fun r m=>by kernel_rfl)))) (fun r m=>by kernel_rfl))) (fun r m=>by kernel_rfl)) m
def Qor:En:=⟨Qbb,Tryz.f210,Tryz.func210,by kernel_rfl,arg4 (fun G a0 a1 a2 a3 m=>Q4y G a1 a2 a3 a0 m),okarg4 Qpi⟩
def Qr6 (G:Gt)(p2 p0:V)(m:M):R:=
  bp (conv (.int .u8) p0 m) fun x0 m=>
  bp (pur (aIndexStr (.string ⟨#[0,1,2,2,3,3,3,3,4,4,4,4,4,4,4,4,5,5,5,5,5,5,5,5,5,5,5,5,5,5,5,5,6,6,6,6,6,6,6,6,6,6,6,6,6,6,6,6,6,6,6,6,6,6,6,6,6,6,6,6,6,6,6,6,7,7,7,7,7,7,7,7,7,7,7,7,7,7,7,7,7,7,7,7,7,7,7,7,7,7,7,7,7,7,7,7,7,7,7,7,7,7,7,7,7,7,7,7,7,7,7,7,7,7,7,7,7,7,7,7,7,7,7,7,7,7,7,7,8,8,8,8,8,8,8,8,8,8,8,8,8,8,8,8,8,8,8,8,8,8,8,8,8,8,8,8,8,8,8,8,8,8,8,8,8,8,8,8,8,8,8,8,8,8,8,8,8,8,8,8,8,8,8,8,8,8,8,8,8,8,8,8,8,8,8,8,8,8,8,8,8,8,8,8,8,8,8,8,8,8,8,8,8,8,8,8,8,8,8,8,8,8,8,8,8,8,8,8,8,8,8,8,8,8,8,8,8,8,8,8,8,8,8,8,8,8,8,8,8,8,8,8,8,8,8,8]⟩) x0) m) fun x1 m=>
  bp (conv (.int .i64) x1 m) fun x2 m=>
  bp (pur (bin .add false true .int p2 x2) m) fun x3 m=>
  some (x3,m)
def Qr7 (G:Gt)(p0 p2:V)(m:M):R:=
  bp (pur (bin .geq true true .int p0 (.int .u64 256)) m) fun x4 m=>
  brb x4
  (bp (pur (bin .shr true true .int p0 (.int .u64 8)) m) fun x5 m=>
  bp (pur (bin .add true true .int p2 (.int .i64 8)) m) fun x6 m=>
  Qr6 G x6 x5 m)
  (Qr6 G p2 p0 m)
def Qr8 (G:Gt)(p0 p2:V)(m:M):R:=
  bp (pur (bin .geq true true .int p0 (.int .u64 65536)) m) fun x7 m=>
  brb x7
  (bp (pur (bin .shr true true .int p0 (.int .u64 16)) m) fun x8 m=>
  bp (pur (bin .add true true .int p2 (.int .i64 16)) m) fun x9 m=>
  Qr7 G x8 x9 m)
  (Qr7 G p0 p2 m)
def Q14s (G:Gt)(p0 p2:V)(m:M):R:=
  bp (pur (bin .geq true true .int p0 (.int .u64 4294967296)) m) fun x10 m=>
  brb x10
  (bp (pur (bin .shr true true .int p0 (.int .u64 32)) m) fun x11 m=>
  Qr8 G x11 (.int .i64 32) m)
  (Qr8 G p0 p2 m)
def Qwq (G:Gt)(p0:V)(m:M):R:=
  Q14s G p0 (.int .i64 0) m
theorem Q1lj (G:Gt)(a0:V)(m:M):ef G Tryz.f219 [a0] m = Qwq G a0 m:=
  evFn_of (r:=fun r m=>Qwq G (r 0) m) rfl rfl (tr (seqQ (f:=fun r m=>Q14s G (r 0) (r 2) m) (tr (seqQ (f:=fun r m=>Qr8 G (r 0) (r 2) m) (tr (seqQ (f:=fun r m=>Qr7 G (r 0) (r 2) m) (tr (seqQ (f:=fun r m=>Qr6 G (r 2) (r 0) m) (fun r m=>by kernel_rfl)) (fun r m=>by kernel_rfl))) (fun r m=>by kernel_rfl))) (fun r m=>by kernel_rfl))) (fun r m=>by kernel_rfl)) m
def Q1l7:En:=⟨Q18r,Tryz.f219,Tryz.func219,by kernel_rfl,arg1 Qwq,okarg1 Q1lj⟩
def Qe4 (G:Gt)(p8:V)(m:M):R:=
  brb p8
  (some ((.int .i64 1),m))
  (some ((.int .i64 0),m))
def Q179 (G:Gt)(p5 p3 p0:V)(m:M):R:=
  brb p5
  (some ((.int .i64 2),m))
  (bp (pur (aFieldAddr 0 p3) m) fun x0 m=>
  bp (pur (aLoad false 1 x0 m) m) fun x1 m=>
  bp (pur (bin .lss true true .int x1 (.int .i64 0)) m) fun x2 m=>
  brt x2
  (Qe4 G (.bool true) m)
  (bp (pur (aFieldAddr 0 p3) m) fun x3 m=>
  bp (pur (aLoad false 1 x3 m) m) fun x4 m=>
  bp (pur (aNilCheck p0) m) fun x5 m=>
  bp (pur (aFieldAddr 0 x5) m) fun x6 m=>
  bp (pur (aLoad false 1 x6 m) m) fun x7 m=>
  bp (pur (lenK 1 x7 m) m) fun x8 m=>
  bp (pur (bin .geq false true .int x4 x8) m) fun x9 m=>
  brt x9
  (Qe4 G (.bool true) m)
  (bp (pur (aFieldAddr 1 p3) m) fun x10 m=>
  bp (pur (aLoad false 1 x10 m) m) fun x11 m=>
  bp (pur (bin .lss true true .int x11 (.int .i64 0)) m) fun x12 m=>
  brt x12
  (Qe4 G (.bool true) m)
  (bp (pur (aFieldAddr 1 p3) m) fun x13 m=>
  bp (pur (aLoad false 1 x13 m) m) fun x14 m=>
  bp (pur (aNilCheck p0) m) fun x15 m=>
  bp (pur (aFieldAddr 0 x15) m) fun x16 m=>
  bp (pur (aLoad false 1 x16 m) m) fun x17 m=>
  bp (pur (aFieldAddr 0 p3) m) fun x18 m=>
  bp (pur (aLoad false 1 x18 m) m) fun x19 m=>
  bp (pur (aIndexAddrSl 12 x17 x19) m) fun x20 m=>
  bp (pur (aFieldAddr 3 x20) m) fun x21 m=>
  bp (pur (aLoad false 1 x21 m) m) fun x22 m=>
  bp (pur (lenK 1 x22 m) m) fun x23 m=>
  bp (pur (bin .geq false true .int x14 x23) m) fun x24 m=>
  Qe4 G x24 m)
  (none))
  (none))
  (none))
def Q17a (G:Gt)(p0 p3:V)(m:M):R:=
  bp (pur (binP m .eql true true .ptr p0 (.pointer none)) m) fun x25 m=>
  Q179 G x25 p3 p0 m
def Q10e (G:Gt)(p1 p0:V)(m:M):R:=
  bp (some (aNew Qw (Value.cells p1).toList m)) fun x26 m=>
  Q17a G p0 x26 m
theorem Q1n2 (G:Gt)(a0 a1:V)(m:M):ef G Tryz.f220 [a0,a1] m = Q10e G a1 a0 m:=
  evFn_of (r:=fun r m=>Q10e G (r 1) (r 0) m) rfl rfl (tr (seqQ (f:=fun r m=>Q17a G (r 0) (r 3) m) (tr (tr seqD (blockQ (seqQ (f:=fun r m=>Q179 G (r 5) (r 3) (r 0) m) (tr (condQ (refQ) (seqQ (f:=fun r m=>Qe4 G (r 8) m) (fun r m=>by kernel_rfl))) (fun r m=>by kernel_rfl))))) (fun r m=>by kernel_rfl))) (fun r m=>by kernel_rfl)) m
def Q1mv:En:=⟨Q1at,Tryz.f220,Tryz.func220,by kernel_rfl,arg2 (fun G a0 a1 m=>Q10e G a1 a0 m),okarg2 Q1n2⟩
def Q84 (G:Gt)(k0:V → V → V → V → V → M → R)(p8 p2 p1 p3 p0:V)(m:M):R:=
  bp (pur (bin .add true true .int p8 (.int .i64 1)) m) fun x0 m=>
  k0 x0 p2 p1 p3 p0 m
def Q3f (G:Gt)(k1:V → V → V → V → V → V → M → R)(k0:V → V → V → V → V → M → R)(p34 p0 p9 p1 p3 p8 p2:V)(m:M):R:=
  brb p34
  (bp (pur (bin .sub true true .int p9 (.int .i64 1)) m) fun x1 m=>
  bp (pur (bin .sub true true .int p9 (.int .i64 1)) m) fun x2 m=>
  bp (pur (aIndexAddrSl 3 p0 x2) m) fun x3 m=>
  bp (pur (aLoad true 3 x3 m) m) fun x4 m=>
  bp (pur (aIndexAddrSl 3 p0 p9) m) fun x5 m=>
  bp (pur (aLoad true 3 x5 m) m) fun x6 m=>
  bp (pur (aIndexAddrSl 3 p0 p9) m) fun x7 m=>
  bp (unt (aStore 3 x7 x4 m)) fun _ m=>
  bp (pur (aIndexAddrSl 3 p0 x1) m) fun x8 m=>
  bp (unt (aStore 3 x8 x6 m)) fun _ m=>
  bp (pur (bin .sub true true .int p9 (.int .i64 1)) m) fun x9 m=>
  k1 x9 p1 p3 p0 p8 p2 m)
  (Q84 G k0 p8 p2 p1 p3 p0 m)
def Q1c (G:Gt)(k0:V → V → V → V → V → M → R):Nat → V → V → V → V → V → V → M → R
 | 0,_,_,_,_,_,_,_=>none
 | i + 1,p9,p1,p3,p0,p8,p2,m=>
  bp (pur (bin .gtr false true .int p9 p1) m) fun x10 m=>
  brt x10
  (bp (pur (aIndexAddrSl 3 p0 p9) m) fun x11 m=>
  bp (pur (aLoad true 3 x11 m) m) fun x12 m=>
  bp (pur (bin .sub true true .int p9 (.int .i64 1)) m) fun x13 m=>
  bp (pur (aIndexAddrSl 3 p0 x13) m) fun x14 m=>
  bp (pur (aLoad true 3 x14 m) m) fun x15 m=>
  bp (evCall G.tab p3 [x12,x15] m) fun x16 m=>
  bp (pur (bin .lss true true .int x16 (.int .i64 0)) m) fun x17 m=>
  Q3f G (Q1c G k0 i) k0 x17 p0 p9 p1 p3 p8 p2 m)
  (Q3f G (Q1c G k0 i) k0 (.bool false) p0 p9 p1 p3 p8 p2 m)
  (none)
def Q85 (G:Gt)(k0:V → V → V → V → V → M → R)(p9 p1 p3 p0 p8 p2:V)(m:M):R:=
  Q1c G k0 G.rds p9 p1 p3 p0 p8 p2 m
def Q86 (G:Gt)(k0:V → V → V → V → V → M → R)(p8 p1 p3 p0 p2:V)(m:M):R:=
  Q85 G k0 p8 p1 p3 p0 p8 p2 m
def Q9 (G:Gt):Nat → V → V → V → V → V → M → R
 | 0,_,_,_,_,_,_=>none
 | i + 1,p8,p2,p1,p3,p0,m=>
  bp (pur (bin .lss false true .int p8 p2) m) fun x18 m=>
  brb x18
  (Q86 G (Q9 G i) p8 p1 p3 p0 p2 m)
  (some (.tuple ⟨[]⟩,m))
def Q87 (G:Gt)(p8 p2 p1 p3 p0:V)(m:M):R:=
  Q9 G G.rds p8 p2 p1 p3 p0 m
def Q45 (G:Gt)(p1 p2 p3 p0:V)(m:M):R:=
  bp (pur (bin .add true true .int p1 (.int .i64 1)) m) fun x19 m=>
  Q87 G x19 p2 p1 p3 p0 m
theorem Qmq (G:Gt)(a0 a1 a2 a3:V)(m:M):ef G Tryz.f221 [a0,a1,a2,a3] m = Q45 G a1 a2 a3 a0 m:=
  evFn_of (r:=fun r m=>Q45 G (r 1) (r 2) (r 3) (r 0) m) rfl rfl (tr (seqQ (f:=fun r m=>Q87 G (r 8) (r 2) (r 1) (r 3) (r 0) m) (tr (blockQ (loopQ (fun i r m=>Q9 G i (r 8) (r 2) (r 1) (r 3) (r 0) m) (fun _ _=>rfl) (fun i0=>tr (seqQ (f:=fun r m=>Q86 G (Q9 G i0) (r 8) (r 1) (r 3) (r 0) (r 2) m) (tr (tr (seqQ (f:=fun r m=>Q84 G (Q9 G i0) (r 8) (r 2) (r 1) (r 3) (r 0) m) (fun r m=>by kernel_rfl)) (blockQ (seqQ (f:=fun r m=>Q85 G (Q9 G i0) (r 9) (r 1) (r 3) (r 0) (r 8) (r 2) m) (tr (blockQ (loopQ (fun i r m=>Q1c G (Q9 G i0) i (r 9) (r 1) (r 3) (r 0) (r 8) (r 2) m) (fun _ _=>rfl) (fun i1=>tr (tr seqD (seqQ (f:=fun r m=>Q3f G (Q1c G (Q9 G i0) i1) (Q9 G i0) (r 34) (r 0) (r 9) (r 1) (r 3) (r 8) (r 2) m) (fun r m=>by kernel_rfl))) (fun r m=>by kernel_rfl)))) (fun r m=>by kernel_rfl))))) (fun r m=>by kernel_rfl))) (fun r m=>by kernel_rfl)))) (fun r m=>by kernel_rfl))) (fun r m=>by kernel_rfl)) m
def Qm8:En:=⟨Qa8,Tryz.f221,Tryz.func221,by kernel_rfl,arg4 (fun G a0 a1 a2 a3 m=>Q45 G a1 a2 a3 a0 m),okarg4 Qmq⟩
def Qpj (G:Gt)(p1 p0 p2 p3 p4:V)(m:M):R:=
  bp (pur (aLoad false 1 p1 m) m) fun x0 m=>
  bp (pur (aLookup .int (.bool false) false x0 p0 m) m) fun x1 m=>
  brb x1
  (some (.tuple ⟨[]⟩,m))
  (bp (pur (aLoad false 1 p1 m) m) fun x2 m=>
  bp (unt (aMapUpdate .int x2 p0 (.bool true) m)) fun _ m=>
  bp (pur (aLoad false 1 p2 m) m) fun x3 m=>
  bp (evCall G.tab x3 [p0] m) fun x4 m=>
  bp (pur (aLoad false 1 p3 m) m) fun x5 m=>
  bp (pur (aLoad false 1 p4 m) m) fun x6 m=>
  bp (pur (aNilCheck x6) m) fun x7 m=>
  bp (pur (aFieldAddr 2 x7) m) fun x8 m=>
  bp (pur (aLoad false 1 x8 m) m) fun x9 m=>
  bp (pur (aIndexAddrSl 3 x9 p0) m) fun x10 m=>
  bp (pur (aFieldAddr 1 x10) m) fun x11 m=>
  bp (pur (aLoad false 1 x11 m) m) fun x12 m=>
  bp (evCall G.tab x5 [x12] m) fun x13 m=>
  bp (pur (aLoad false 1 p3 m) m) fun x14 m=>
  bp (pur (aLoad false 1 p4 m) m) fun x15 m=>
  bp (pur (aNilCheck x15) m) fun x16 m=>
  bp (pur (aFieldAddr 2 x16) m) fun x17 m=>
  bp (pur (aLoad false 1 x17 m) m) fun x18 m=>
  bp (pur (aIndexAddrSl 3 x18 p0) m) fun x19 m=>
  bp (pur (aFieldAddr 2 x19) m) fun x20 m=>
  bp (pur (aLoad false 1 x20 m) m) fun x21 m=>
  bp (evCall G.tab x14 [x21] m) fun x22 m=>
  some (.tuple ⟨[]⟩,m))
theorem Q1fz (G:Gt)(a0 a1 a2 a3 a4:V)(m:M):ef G Tryz.f229 [a0,a1,a2,a3,a4] m = Qpj G a1 a0 a2 a3 a4 m:=
  evFn_of (r:=fun r m=>Qpj G (r 1) (r 0) (r 2) (r 3) (r 4) m) rfl rfl (fun r m=>by kernel_rfl) m
def Q1fe:En:=⟨Q133,Tryz.f229,Tryz.func229,by kernel_rfl,arg5 (fun G a0 a1 a2 a3 a4 m=>Qpj G a1 a0 a2 a3 a4 m),okarg5 Q1fz⟩
def Qar (G:Gt)(k0:V → V → V → V → V → V → M → R)(p87 p0 p1 p2 p11 p3 p8 p9 p10:V)(m:M):R:=
  brb p87
  (bp (G.tab Qv3 [p0,p1,p2,p11] m) fun x0 m=>
  k0 p2 x0 p0 p3 p8 p9 m)
  (bp (G.tab Qk8 [p0,p1,p2,p11] m) fun x1 m=>
  bp (pur (aExtract x1 0) m) fun x2 m=>
  bp (pur (aExtract x1 1) m) fun x3 m=>
  bp (pur (bin .sub false true .int x2 p1) m) fun x4 m=>
  bp (pur (bin .sub false true .int p2 x2) m) fun x5 m=>
  bp (pur (bin .quo true true .int p10 (.int .i64 8)) m) fun x6 m=>
  bp (pur (bin .lss false true .int x4 x5) m) fun x7 m=>
  brb x7
  (bp (pur (bin .geq false true .int x4 x6) m) fun x8 m=>
  bp (G.tab Q73 [p0,p1,x2,p3] m) fun x9 m=>
  bp (pur (bin .add true true .int x2 (.int .i64 1)) m) fun x10 m=>
  k0 p2 x10 p0 p3 x8 x3 m)
  (bp (pur (bin .geq false true .int x5 x6) m) fun x11 m=>
  bp (pur (bin .add true true .int x2 (.int .i64 1)) m) fun x12 m=>
  bp (G.tab Q73 [p0,x12,p2,p3] m) fun x13 m=>
  k0 x2 p1 p0 p3 x11 x3 m))
def Qbc (G:Gt)(k0:V → V → V → V → V → V → M → R)(p1 p0 p11 p2 p3 p8 p9 p10:V)(m:M):R:=
  bp (pur (bin .gtr true true .int p1 (.int .i64 0)) m) fun x14 m=>
  brt x14
  (bp (pur (bin .sub true true .int p1 (.int .i64 1)) m) fun x15 m=>
  bp (pur (aIndexAddrSl 1 p0 x15) m) fun x16 m=>
  bp (pur (aLoad false 1 x16 m) m) fun x17 m=>
  bp (pur (aIndexAddrSl 1 p0 p11) m) fun x18 m=>
  bp (pur (aLoad false 1 x18 m) m) fun x19 m=>
  bp (G.tab Q22 [x17,x19] m) fun x20 m=>
  bp (pur (un .not x20) m) fun x21 m=>
  Qar G k0 x21 p0 p1 p2 p11 p3 p8 p9 p10 m)
  (Qar G k0 (.bool false) p0 p1 p2 p11 p3 p8 p9 p10 m)
  (none)
def Q5a (G:Gt)(k0:V → V → V → V → V → V → M → R)(p68 p0 p1 p2 p11 p3 p8 p9 p10:V)(m:M):R:=
  brb p68
  (bp (G.tab Qax [p0,p1,p2] m) fun x22 m=>
  brb x22
  (some (.tuple ⟨[]⟩,m))
  (Qbc G k0 p1 p0 p11 p2 p3 p8 p9 p10 m))
  (Qbc G k0 p1 p0 p11 p2 p3 p8 p9 p10 m)
def Qbd (G:Gt)(k0:V → V → V → V → V → V → M → R)(p8 p9 p12 p0 p1 p2 p11 p3 p10:V)(m:M):R:=
  brb p8
  (brb p9
  (bp (pur (bin .eql true true .int p12 (.int .i64 1)) m) fun x23 m=>
  Q5a G k0 x23 p0 p1 p2 p11 p3 p8 p9 p10 m)
  (Q5a G k0 (.bool false) p0 p1 p2 p11 p3 p8 p9 p10 m))
  (Q5a G k0 (.bool false) p0 p1 p2 p11 p3 p8 p9 p10 m)
def Qk9 (G:Gt)(k0:V → V → V → V → V → V → M → R)(p12 p0 p1 p2 p11 p8 p9 p3 p10:V)(m:M):R:=
  bp (pur (bin .eql true true .int p12 (.int .i64 2)) m) fun x24 m=>
  brb x24
  (bp (G.tab Qyq [p0,p1,p2] m) fun x25 m=>
  bp (pur (bin .sub true true .int p2 (.int .i64 1)) m) fun x26 m=>
  bp (pur (bin .sub false true .int p11 p1) m) fun x27 m=>
  bp (pur (bin .sub false true .int x26 x27) m) fun x28 m=>
  Qbd G k0 p8 p9 (.int .i64 1) p0 p1 p2 x28 p3 p10 m)
  (Qbd G k0 p8 p9 p12 p0 p1 p2 p11 p3 p10 m)
def Qbe (G:Gt)(k0:V → V → V → V → V → V → M → R)(p0 p1 p2 p8 p9 p3 p10:V)(m:M):R:=
  bp (G.tab Qi2 [p0,p1,p2] m) fun x29 m=>
  bp (pur (aExtract x29 0) m) fun x30 m=>
  bp (pur (aExtract x29 1) m) fun x31 m=>
  Qk9 G k0 x31 p0 p1 p2 x30 p8 p9 p3 p10 m
def Qka (G:Gt)(k0:V → V → V → V → V → V → M → R)(p8 p0 p1 p2 p3 p9 p10:V)(m:M):R:=
  bp (pur (un .not p8) m) fun x32 m=>
  brb x32
  (bp (G.tab Qwr [p0,p1,p2] m) fun x33 m=>
  bp (pur (bin .sub true true .int p3 (.int .i64 1)) m) fun x34 m=>
  Qbe G k0 p0 p1 p2 p8 p9 x34 p10 m)
  (Qbe G k0 p0 p1 p2 p8 p9 p3 p10 m)
def Qkb (G:Gt)(k0:V → V → V → V → V → V → M → R)(p3 p0 p1 p2 p8 p9 p10:V)(m:M):R:=
  bp (pur (bin .eql true true .int p3 (.int .i64 0)) m) fun x35 m=>
  brb x35
  (bp (G.tab Q13w [p0,p1,p2] m) fun x36 m=>
  some (.tuple ⟨[]⟩,m))
  (Qka G k0 p8 p0 p1 p2 p3 p9 p10 m)
def Qkc (G:Gt)(k0:V → V → V → V → V → V → M → R)(p10 p0 p1 p2 p3 p8 p9:V)(m:M):R:=
  bp (pur (bin .leq true true .int p10 (.int .i64 12)) m) fun x37 m=>
  brb x37
  (bp (G.tab Qfr [p0,p1,p2] m) fun x38 m=>
  some (.tuple ⟨[]⟩,m))
  (Qkb G k0 p3 p0 p1 p2 p8 p9 p10 m)
def Ql (G:Gt):Nat → V → V → V → V → V → V → M → R
 | 0,_,_,_,_,_,_,_=>none
 | i + 1,p2,p1,p0,p3,p8,p9,m=>
  bp (pur (bin .sub false true .int p2 p1) m) fun x39 m=>
  Qkc G (Ql G i) x39 p0 p1 p2 p3 p8 p9 m
def Qkd (G:Gt)(p2 p1 p0 p3 p8 p9:V)(m:M):R:=
  Ql G G.rds p2 p1 p0 p3 p8 p9 m
def Qke (G:Gt)(p2 p1 p0 p3 p8:V)(m:M):R:=
  Qkd G p2 p1 p0 p3 p8 (.bool true) m
def Qck (G:Gt)(p2 p1 p0 p3:V)(m:M):R:=
  Qke G p2 p1 p0 p3 (.bool true) m
theorem Q15m (G:Gt)(a0 a1 a2 a3:V)(m:M):ef G Tryz.f230 [a0,a1,a2,a3] m = Qck G a2 a1 a0 a3 m:=
  evFn_of (r:=fun r m=>Qck G (r 2) (r 1) (r 0) (r 3) m) rfl rfl (tr (seqQ (f:=fun r m=>Qke G (r 2) (r 1) (r 0) (r 3) (r 8) m) (tr (seqQ (f:=fun r m=>Qkd G (r 2) (r 1) (r 0) (r 3) (r 8) (r 9) m) (tr (blockQ (loopQ (fun i r m=>Ql G i (r 2) (r 1) (r 0) (r 3) (r 8) (r 9) m) (fun _ _=>rfl) (fun i0=>tr (blockQ (seqQ (f:=fun r m=>Qkc G (Ql G i0) (r 10) (r 0) (r 1) (r 2) (r 3) (r 8) (r 9) m) (tr (seqQ (f:=fun r m=>Qkb G (Ql G i0) (r 3) (r 0) (r 1) (r 2) (r 8) (r 9) (r 10) m) (tr (seqQ (f:=fun r m=>Qka G (Ql G i0) (r 8) (r 0) (r 1) (r 2) (r 3) (r 9) (r 10) m) (tr (seqQ (f:=fun r m=>Qbe G (Ql G i0) (r 0) (r 1) (r 2) (r 8) (r 9) (r 3) (r 10) m) (tr (seqQ (f:=fun r m=>Qk9 G (Ql G i0) (r 12) (r 0) (r 1) (r 2) (r 11) (r 8) (r 9) (r 3) (r 10) m) (tr (seqQ (f:=fun r m=>Qbd G (Ql G i0) (r 8) (r 9) (r 12) (r 0) (r 1) (r 2) (r 11) (r 3) (r 10) m) (tr (tr (seqQ (f:=fun r m=>Qbc G (Ql G i0) (r 1) (r 0) (r 11) (r 2) (r 3) (r 8) (r 9) (r 10) m) (tr (tr seqD (seqQ (f:=fun r m=>Qar G (Ql G i0) (r 87) (r 0) (r 1) (r 2) (r 11) (r 3) (r 8) (r 9) (r 10) m) (fun r m=>by kernel_rfl))) (fun r m=>by kernel_rfl))) (seqQ (f:=fun r m=>Q5a G (Ql G i0) (r 68) (r 0) (r 1) (r 2) (r 11) (r 3) (r 8) (r 9) (r 10) m) (fun r m=>by kernel_rfl))) (fun r m=>by kernel_rfl))) (fun r m=>by kernel_rfl))) (fun r m=>by kernel_rfl))) (fun r m=>by kernel_rfl))) (fun r m=>by kernel_rfl))) (fun r m=>by kernel_rfl)))) (fun r m=>by kernel_rfl)))) (fun r m=>by kernel_rfl))) (fun r m=>by kernel_rfl))) (fun r m=>by kernel_rfl)) m
def Q15c:En:=⟨Q73,Tryz.f230,Tryz.func230,by kernel_rfl,arg4 (fun G a0 a1 a2 a3 m=>Qck G a2 a1 a0 a3 m),okarg4 Q15m⟩
end
end Go.Ab.Sh

set_option linter.unusedVariables false
set_option maxRecDepth 100000
namespace Go.Ab.Sh
open Go Go.Ab Go.Proofs
noncomputable section
def Qkw (G:Gt)(p3:V)(m:M):R:=
  some (p3,m)
def Qyr (G:Gt)(p0 p1:V)(m:M):R:=
  bp (pur (bin .lss true true .int p0 (.int .i64 0)) m) fun x0 m=>
  brb x0
  (Qkw G (.bool true) m)
  (bp (pur (aLoad false 1 p1 m) m) fun x1 m=>
  bp (pur (aNilCheck x1) m) fun x2 m=>
  bp (pur (aFieldAddr 0 x2) m) fun x3 m=>
  bp (pur (aLoad false 1 x3 m) m) fun x4 m=>
  bp (pur (bin .geq false true .int p0 x4) m) fun x5 m=>
  Qkw G x5 m)
def Qpk (G:Gt)(p0 p1:V)(m:M):R:=
  Qyr G p0 p1 m
theorem Q1g0 (G:Gt)(a0 a1:V)(m:M):ef G Tryz.f231 [a0,a1] m = Qpk G a0 a1 m:=
  evFn_of (r:=fun r m=>Qpk G (r 0) (r 1) m) rfl rfl (tr (seqQ (f:=fun r m=>Qyr G (r 0) (r 1) m) (tr (seqQ (f:=fun r m=>Qkw G (r 3) m) (fun r m=>by kernel_rfl)) (fun r m=>by kernel_rfl))) (fun r m=>by kernel_rfl)) m
def Q1f8:En:=⟨Q134,Tryz.f231,Tryz.func231,by kernel_rfl,arg2 Qpk,okarg2 Q1g0⟩
def Qiu (G:Gt)(m:M):R:=
  some ((.int .i64 (-1)),m)
def Qas (G:Gt):Nat → V → V → V → V → M → R
 | 0,_,_,_,_,_=>none
 | i + 1,p8,p7,p1,p0,m=>
  bp (pur (bin .lss false true .int p8 p7) m) fun x0 m=>
  brb x0
  (bp (pur (aIndexAddrSl 1 p0 p8) m) fun x1 m=>
  bp (pur (aLoad false 1 x1 m) m) fun x2 m=>
  bp (evCall G.tab p1 [x2] m) fun x3 m=>
  brb x3
  (some (p8,m))
  (bp (pur (bin .add true true .int p8 (.int .i64 1)) m) fun x4 m=>
  (Qas G i) x4 p7 p1 p0 m))
  (Qiu G m)
def Qiv (G:Gt)(p8 p7 p1 p0:V)(m:M):R:=
  Qas G G.rds p8 p7 p1 p0 m
def Qiw (G:Gt)(p0 p1:V)(m:M):R:=
  bp (pur (lenK 1 p0 m) m) fun x5 m=>
  Qiv G (.int .i64 0) x5 p1 p0 m
def Qbw (G:Gt)(p0 p1:V)(m:M):R:=
  Qiw G p0 p1 m
theorem Q13x (G:Gt)(a0 a1:V)(m:M):ef G Tryz.f232 [a0,a1] m = Qbw G a0 a1 m:=
  evFn_of (r:=fun r m=>Qbw G (r 0) (r 1) m) rfl rfl (tr (seqQ (f:=fun r m=>Qiw G (r 0) (r 1) m) (tr (tr (seqQ (f:=fun r m=>Qiu G m) (fun r m=>by kernel_rfl)) (seqQ (f:=fun r m=>Qiv G (r 8) (r 7) (r 1) (r 0) m) (tr (blockQ (loopQ (fun i r m=>Qas G i (r 8) (r 7) (r 1) (r 0) m) (fun _ _=>rfl) (fun i0=>fun r m=>by kernel_rfl))) (fun r m=>by kernel_rfl)))) (fun r m=>by kernel_rfl))) (fun r m=>by kernel_rfl)) m
def Q13v:En:=⟨Qle,Tryz.f232,Tryz.func232,by kernel_rfl,arg2 Qbw,okarg2 Q13x⟩
def Qvx (G:Gt)(p0 p3:V)(m:M):R:=
  bp (pur (bin .add true true .int (.int .u64 48) p0) m) fun x0 m=>
  bp (conv (.int .u8) x0 m) fun x1 m=>
  bp (aBuildSlice Q1u8 [(.int .u8 0)] 1 1 [(0,x1)] m) fun x2 m=>
  bp (conv .str x2 m) fun x3 m=>
  bp (pur (bin .add false true .str x3 p3) m) fun x4 m=>
  some (x4,m)
def Qjj (G:Gt):Nat → V → V → M → R
 | 0,_,_,_=>none
 | i + 1,p0,p3,m=>
  bp (pur (bin .gtr true true .int p0 (.int .u64 9)) m) fun x5 m=>
  brb x5
  (bp (pur (bin .rem true true .int p0 (.int .u64 10)) m) fun x6 m=>
  bp (pur (bin .add true true .int (.int .u64 48) x6) m) fun x7 m=>
  bp (conv (.int .u8) x7 m) fun x8 m=>
  bp (aBuildSlice Q1u8 [(.int .u8 0)] 1 1 [(0,x8)] m) fun x9 m=>
  bp (conv .str x9 m) fun x10 m=>
  bp (pur (bin .add false true .str x10 p3) m) fun x11 m=>
  bp (pur (bin .quo true true .int p0 (.int .u64 10)) m) fun x12 m=>
  (Qjj G i) x12 x11 m)
  (Qvx G p0 p3 m)
def Qvy (G:Gt)(p0 p3:V)(m:M):R:=
  Qjj G G.rds p0 p3 m
def Qvz (G:Gt)(p0:V)(m:M):R:=
  Qvy G p0 (.string ⟨#[]⟩) m
def Qmr (G:Gt)(p0:V)(m:M):R:=
  Qvz G p0 m
theorem Q1ej (G:Gt)(a0:V)(m:M):ef G Tryz.f240 [a0] m = Qmr G a0 m:=
  evFn_of (r:=fun r m=>Qmr G (r 0) m) rfl rfl (tr (seqQ (f:=fun r m=>Qvz G (r 0) m) (tr (seqQ (f:=fun r m=>Qvy G (r 0) (r 3) m) (tr (tr (seqQ (f:=fun r m=>Qvx G (r 0) (r 3) m) (fun r m=>by kernel_rfl)) (blockQ (loopQ (fun i r m=>Qjj G i (r 0) (r 3) m) (fun _ _=>rfl) (fun i0=>fun r m=>by kernel_rfl)))) (fun r m=>by kernel_rfl))) (fun r m=>by kernel_rfl))) (fun r m=>by kernel_rfl)) m
def Q1dy:En:=⟨Qmo,Tryz.f240,Tryz.func240,by kernel_rfl,arg1 Qmr,okarg1 Q1ej⟩
def Q11g (G:Gt)(m:M):R:=
  some (.tuple ⟨[(.int .i64 0),(.int .i64 10)]⟩,m)
def Qms (G:Gt):Nat → V → V → M → R
 | 0,_,_,_=>none
 | i + 1,p4,p0,m=>
  bp (pur (bin .leq true true .int p4 (.int .i64 32)) m) fun x0 m=>
  brb x0
  (bp (G.tab Q14t [p4] m) fun x1 m=>
  bp (pur (aExtract x1 0) m) fun x2 m=>
  bp (pur (aExtract x1 1) m) fun x3 m=>
  bp (pur (bin .eql false true .int x2 p0) m) fun x4 m=>
  brb x4
  (some (.tuple ⟨[p4,(.int .i64 0)]⟩,m))
  (bp (pur (bin .add true true .int p4 (.int .i64 1)) m) fun x5 m=>
  (Qms G i) x5 p0 m))
  (Q11g G m)
def Q11h (G:Gt)(p4 p0:V)(m:M):R:=
  Qms G G.rds p4 p0 m
def Q11i (G:Gt)(p0:V)(m:M):R:=
  Q11h G (.int .i64 0) p0 m
def Qr9 (G:Gt)(p0:V)(m:M):R:=
  Q11i G p0 m
theorem Q1id (G:Gt)(a0:V)(m:M):ef G Tryz.f241 [a0] m = Qr9 G a0 m:=
  evFn_of (r:=fun r m=>Qr9 G (r 0) m) rfl rfl (tr (seqQ (f:=fun r m=>Q11i G (r 0) m) (tr (tr (seqQ (f:=fun r m=>Q11g G m) (fun r m=>by kernel_rfl)) (seqQ (f:=fun r m=>Q11h G (r 4) (r 0) m) (tr (blockQ (loopQ (fun i r m=>Qms G i (r 4) (r 0) m) (fun _ _=>rfl) (fun i0=>fun r m=>by kernel_rfl))) (fun r m=>by kernel_rfl)))) (fun r m=>by kernel_rfl))) (fun r m=>by kernel_rfl)) m
def Q1hy:En:=⟨Q14p,Tryz.f241,Tryz.func241,by kernel_rfl,arg1 Qr9,okarg1 Q1id⟩
def Q11j (G:Gt)(p5 p1:V)(m:M):R:=
  bp (pur (bin .gtr false true .int p5 p1) m) fun x0 m=>
  brb x0
  (some ((.int .i64 (-1)),m))
  (some (p5,m))
def Qmt (G:Gt)(k0:V → V → V → V → M → R)(p39 p5 p0 p6 p1:V)(m:M):R:=
  brb p39
  (some ((.int .i64 (-1)),m))
  (bp (pur (bin .mul true true .int (.int .i64 10) p5) m) fun x1 m=>
  bp (pur (aIndexStr p0 p6) m) fun x2 m=>
  bp (pur (bin .sub true true .int x2 (.int .u8 48)) m) fun x3 m=>
  bp (conv (.int .i64) x3 m) fun x4 m=>
  bp (pur (bin .add false true .int x1 x4) m) fun x5 m=>
  bp (pur (bin .add true true .int p6 (.int .i64 1)) m) fun x6 m=>
  k0 x6 p0 x5 p1 m)
def Q11k (G:Gt)(k0:V → V → V → V → M → R)(p0 p6 p5 p1:V)(m:M):R:=
  bp (pur (aIndexStr p0 p6) m) fun x7 m=>
  bp (pur (bin .lss true true .int x7 (.int .u8 48)) m) fun x8 m=>
  brb x8
  (Qmt G k0 (.bool true) p5 p0 p6 p1 m)
  (bp (pur (aIndexStr p0 p6) m) fun x9 m=>
  bp (pur (bin .gtr true true .int x9 (.int .u8 57)) m) fun x10 m=>
  Qmt G k0 x10 p5 p0 p6 p1 m)
def Qae (G:Gt):Nat → V → V → V → V → M → R
 | 0,_,_,_,_,_=>none
 | i + 1,p6,p0,p5,p1,m=>
  bp (pur (lenK 0 p0 m) m) fun x11 m=>
  bp (pur (bin .lss false true .int p6 x11) m) fun x12 m=>
  brb x12
  (Q11k G (Qae G i) p0 p6 p5 p1 m)
  (Q11j G p5 p1 m)
def Q11l (G:Gt)(p6 p0 p5 p1:V)(m:M):R:=
  Qae G G.rds p6 p0 p5 p1 m
def Q11m (G:Gt)(p0 p5 p1:V)(m:M):R:=
  Q11l G (.int .i64 0) p0 p5 p1 m
def Q11n (G:Gt)(p0 p1:V)(m:M):R:=
  Q11m G p0 (.int .i64 0) p1 m
def Qaf (G:Gt)(p23 p0 p1:V)(m:M):R:=
  brb p23
  (some ((.int .i64 (-1)),m))
  (Q11n G p0 p1 m)
def Q11o (G:Gt)(p0 p1:V)(m:M):R:=
  bp (pur (bin .eql true true .str p0 (.string ⟨#[]⟩)) m) fun x13 m=>
  brb x13
  (Qaf G (.bool true) p0 p1 m)
  (bp (pur (lenK 0 p0 m) m) fun x14 m=>
  bp (pur (bin .gtr true true .int x14 (.int .i64 12)) m) fun x15 m=>
  brb x15
  (Qaf G (.bool true) p0 p1 m)
  (bp (pur (lenK 0 p0 m) m) fun x16 m=>
  bp (pur (bin .gtr true true .int x16 (.int .i64 1)) m) fun x17 m=>
  brb x17
  (bp (pur (aIndexStr p0 (.int .i64 0)) m) fun x18 m=>
  bp (pur (bin .eql true true .int x18 (.int .u8 48)) m) fun x19 m=>
  Qaf G x19 p0 p1 m)
  (Qaf G (.bool false) p0 p1 m)))
def Qra (G:Gt)(p0 p1:V)(m:M):R:=
  Q11o G p0 p1 m
theorem Q1ie (G:Gt)(a0 a1:V)(m:M):ef G Tryz.f242 [a0,a1] m = Qra G a0 a1 m:=
  evFn_of (r:=fun r m=>Qra G (r 0) (r 1) m) rfl rfl (tr (seqQ (f:=fun r m=>Q11o G (r 0) (r 1) m) (tr (tr (seqQ (f:=fun r m=>Q11n G (r 0) (r 1) m) (tr (seqQ (f:=fun r m=>Q11m G (r 0) (r 5) (r 1) m) (tr (tr (seqQ (f:=fun r m=>Q11j G (r 5) (r 1) m) (fun r m=>by kernel_rfl)) (seqQ (f:=fun r m=>Q11l G (r 6) (r 0) (r 5) (r 1) m) (tr (blockQ (loopQ (fun i r m=>Qae G i (r 6) (r 0) (r 5) (r 1) m) (fun _ _=>rfl) (fun i0=>tr (seqQ (f:=fun r m=>Q11k G (Qae G i0) (r 0) (r 6) (r 5) (r 1) m) (tr (tr seqD (blockQ (tr seqD (seqQ (f:=fun r m=>Qmt G (Qae G i0) (r 39) (r 5) (r 0) (r 6) (r 1) m) (fun r m=>by kernel_rfl))))) (fun r m=>by kernel_rfl))) (fun r m=>by kernel_rfl)))) (fun r m=>by kernel_rfl)))) (fun r m=>by kernel_rfl))) (fun r m=>by kernel_rfl))) (seqQ (f:=fun r m=>Qaf G (r 23) (r 0) (r 1) m) (fun r m=>by kernel_rfl))) (fun r m=>by kernel_rfl))) (fun r m=>by kernel_rfl)) m
def Q1i5:En:=⟨Q14q,Tryz.f242,Tryz.func242,by kernel_rfl,arg2 Qra,okarg2 Q1ie⟩
def Q15n (G:Gt)(p0:V)(m:M):R:=
  bp (some (aNew Qx (Value.cells p0).toList m)) fun x0 m=>
  bp (some (aNew Q1au Q1av m)) fun x1 m=>
  bp (pur (aFieldAddr 2 x0) m) fun x2 m=>
  bp (pur (aLoad false 1 x2 m) m) fun x3 m=>
  bp (pur (aFieldAddr 4 x0) m) fun x4 m=>
  bp (pur (aLoad false 1 x4 m) m) fun x5 m=>
  bp (pur (aFieldAddr 7 x0) m) fun x6 m=>
  bp (pur (aLoad false 1 x6 m) m) fun x7 m=>
  bp (pur (aFieldAddr 8 x0) m) fun x8 m=>
  bp (pur (aLoad false 1 x8 m) m) fun x9 m=>
  bp (pur (aFieldAddr 9 x0) m) fun x10 m=>
  bp (pur (aLoad false 1 x10 m) m) fun x11 m=>
  bp (G.tab Q11p [x3,(.func (.func Q1po) #[] #[])] m) fun x12 m=>
  ckB (again (pur (aLoad false 1 x4 m) m) x5 && (again (pur (aLoad false 1 x6 m) m) x7 && (again (pur (aLoad false 1 x8 m) m) x9 && (again (pur (aLoad false 1 x10 m) m) x11 && true))))
  (bp (G.tab Qsv [x5,(.func (.func Q1ae) #[] #[])] m) fun x13 m=>
  ckB (again (pur (aLoad false 1 x6 m) m) x7 && (again (pur (aLoad false 1 x8 m) m) x9 && (again (pur (aLoad false 1 x10 m) m) x11 && true)))
  (bp (G.tab Qlf [x7,(.func (.func Q171) #[] #[])] m) fun x14 m=>
  ckB (again (pur (aLoad false 1 x8 m) m) x9 && (again (pur (aLoad false 1 x10 m) m) x11 && true))
  (bp (G.tab Qi3 [x9,(.func (.func Q14o) #[] #[])] m) fun x15 m=>
  ckB (again (pur (aLoad false 1 x10 m) m) x11 && true)
  (bp (G.tab Qsw [x11,(.func (.func Q1af) #[] #[])] m) fun x16 m=>
  bp (pur (aBuild Q1av [(0,1),(1,1),(2,1),(3,1),(4,1)] [(0,x12),(1,x13),(2,x14),(3,x15),(4,x16)]) m) fun x17 m=>
  bp (unt (aStore 5 x1 x17 m)) fun _ m=>
  ob (ob (aLoad true 5 x1 m) fun v=>ob (some []) fun l=>some (v :: l)) fun l=>some (resVal l,m)))))
theorem Q1pp (G:Gt)(a0:V)(m:M):ef G Tryz.f245 [a0] m = Q15n G a0 m:=
  evFn_of (r:=fun r m=>Q15n G (r 0) m) rfl rfl (fun r m=>by kernel_rfl) m
def Q1pj:En:=⟨Q1ek,Tryz.f245,Tryz.func245,by kernel_rfl,arg1 Q15n,okarg1 Q1pp⟩
def Q180 (G:Gt)(p0 p1:V)(m:M):R:=
  bp (pur (un .not p0) m) fun x0 m=>
  brb x0
  (some ((.int .i64 1),m))
  (bp (pur (un .not p1) m) fun x1 m=>
  brb x1
  (some ((.int .i64 2),m))
  (some ((.int .i64 0),m)))
theorem Q1ra (G:Gt)(a0 a1:V)(m:M):ef G Tryz.f247 [a0,a1] m = Q180 G a0 a1 m:=
  evFn_of (r:=fun r m=>Q180 G (r 0) (r 1) m) rfl rfl (fun r m=>by kernel_rfl) m
def Q1qv:En:=⟨Qzm,Tryz.f247,Tryz.func247,by kernel_rfl,arg2 Q180,okarg2 Q1ra⟩
def Qws (G:Gt)(p1 p2 p0:V)(m:M):R:=
  bp (pur (aLoad true 5 p1 m) m) fun x0 m=>
  bp (pur (aLoad true 12 p2 m) m) fun x1 m=>
  bp (G.tab Q17b [x0,x1,p0] m) fun x2 m=>
  some (x2,m)
theorem Q1lk (G:Gt)(a0 a1 a2:V)(m:M):ef G Tryz.f250 [a0,a1,a2] m = Qws G a1 a2 a0 m:=
  evFn_of (r:=fun r m=>Qws G (r 1) (r 2) (r 0) m) rfl rfl (fun r m=>by kernel_rfl) m
def Q1ld:En:=⟨Q18s,Tryz.f250,Tryz.func250,by kernel_rfl,arg3 (fun G a0 a1 a2 m=>Qws G a1 a2 a0 m),okarg3 Q1lk⟩
def Qgr (G:Gt)(p6:V)(m:M):R:=
  some (p6,m)
def Q4z (G:Gt)(p9 p3 p7:V)(m:M):R:=
  bp (pur (aFieldAddr 0 p3) m) fun x0 m=>
  bp (pur (aLoad false 1 x0 m) m) fun x1 m=>
  bp (pur (aFieldAddr 1 p7) m) fun x2 m=>
  bp (pur (aLoad false 1 x2 m) m) fun x3 m=>
  bp (G.tab Q13e [x1,x3] m) fun x4 m=>
  brb x4
  (bp (pur (aFieldAddr 1 p3) m) fun x5 m=>
  bp (pur (aLoad false 1 x5 m) m) fun x6 m=>
  bp (pur (aFieldAddr 5 p7) m) fun x7 m=>
  bp (pur (aLoad false 1 x7 m) m) fun x8 m=>
  bp (G.tab Q13e [x6,x8] m) fun x9 m=>
  brb x9
  (bp (pur (aFieldAddr 1 p3) m) fun x10 m=>
  bp (pur (aLoad false 1 x10 m) m) fun x11 m=>
  bp (pur (aFieldAddr 6 p7) m) fun x12 m=>
  bp (pur (aLoad false 1 x12 m) m) fun x13 m=>
  bp (G.tab Q13e [x11,x13] m) fun x14 m=>
  bp (G.tab Qzm [p9,x14] m) fun x15 m=>
  Qgr G x15 m)
  (bp (G.tab Qzm [p9,(.bool false)] m) fun x16 m=>
  Qgr G x16 m))
  (bp (G.tab Qzm [p9,(.bool false)] m) fun x17 m=>
  Qgr G x17 m)
def Q74 (G:Gt)(p7 p4 p2 p8 p3:V)(m:M):R:=
  bp (pur (aFieldAddr 0 p7) m) fun x18 m=>
  bp (pur (aLoad false 1 x18 m) m) fun x19 m=>
  bp (G.tab Q1ac [x19] m) fun x20 m=>
  brb x20
  (bp (pur (aFieldAddr 3 p4) m) fun x21 m=>
  bp (pur (aLoad false 1 x21 m) m) fun x22 m=>
  bp (G.tab Qul [x22,p2,(.func (.func Q12z) #[] #[])] m) fun x23 m=>
  brb x23
  (brb p8
  (bp (pur (aFieldAddr 7 p7) m) fun x24 m=>
  bp (pur (aLoad false 1 x24 m) m) fun x25 m=>
  bp (pur (bin .leq true true .int x25 (.int .u8 2)) m) fun x26 m=>
  brb x26
  (bp (pur (aFieldAddr 8 p7) m) fun x27 m=>
  bp (pur (aLoad false 1 x27 m) m) fun x28 m=>
  bp (G.tab Qmu [x28,(.int .i64 (-1)),(.int .i64 16777216)] m) fun x29 m=>
  brb x29
  (bp (pur (aFieldAddr 9 p7) m) fun x30 m=>
  bp (pur (aLoad false 1 x30 m) m) fun x31 m=>
  bp (G.tab Qmu [x31,(.int .i64 1),(.int .i64 65535)] m) fun x32 m=>
  Q4z G x32 p3 p7 m)
  (Q4z G (.bool false) p3 p7 m))
  (Q4z G (.bool false) p3 p7 m))
  (Q4z G (.bool false) p3 p7 m))
  (Q4z G (.bool false) p3 p7 m))
  (Q4z G (.bool false) p3 p7 m)
def Q13f (G:Gt)(p7 p4 p2 p3:V)(m:M):R:=
  bp (pur (aFieldAddr 2 p7) m) fun x33 m=>
  bp (pur (aLoad false 1 x33 m) m) fun x34 m=>
  bp (pur (bin .eql true true .int x34 (.int .u32 0)) m) fun x35 m=>
  brb x35
  (bp (pur (aFieldAddr 3 p7) m) fun x36 m=>
  bp (pur (aLoad false 1 x36 m) m) fun x37 m=>
  bp (pur (bin .eql true true .int x37 (.int .i64 0)) m) fun x38 m=>
  brb x38
  (Q74 G p7 p4 p2 (.bool true) p3 m)
  (bp (pur (aFieldAddr 2 p7) m) fun x39 m=>
  bp (pur (aLoad false 1 x39 m) m) fun x40 m=>
  bp (pur (bin .neq true true .int x40 (.int .u32 0)) m) fun x41 m=>
  brb x41
  (bp (pur (aFieldAddr 3 p7) m) fun x42 m=>
  bp (pur (aLoad false 1 x42 m) m) fun x43 m=>
  bp (G.tab Qmu [x43,(.int .i64 1),(.int .i64 32)] m) fun x44 m=>
  Q74 G p7 p4 p2 x44 p3 m)
  (Q74 G p7 p4 p2 (.bool false) p3 m)))
  (bp (pur (aFieldAddr 2 p7) m) fun x45 m=>
  bp (pur (aLoad false 1 x45 m) m) fun x46 m=>
  bp (pur (bin .neq true true .int x46 (.int .u32 0)) m) fun x47 m=>
  brb x47
  (bp (pur (aFieldAddr 3 p7) m) fun x48 m=>
  bp (pur (aLoad false 1 x48 m) m) fun x49 m=>
  bp (G.tab Qmu [x49,(.int .i64 1),(.int .i64 32)] m) fun x50 m=>
  Q74 G p7 p4 p2 x50 p3 m)
  (Q74 G p7 p4 p2 (.bool false) p3 m))
def Q13g (G:Gt)(p4 p2 p3:V)(m:M):R:=
  bp (pur (aFieldAddr 3 p4) m) fun x51 m=>
  bp (pur (aLoad false 1 x51 m) m) fun x52 m=>
  bp (pur (aIndexAddrSl 11 x52 p2) m) fun x53 m=>
  bp (pur (aLoad true 11 x53 m) m) fun x54 m=>
  bp (some (aNew Q1r Q7y m)) fun x55 m=>
  bp (unt (aStore 11 x55 x54 m)) fun _ m=>
  Q13f G x55 p4 p2 p3 m
def Qum (G:Gt)(p0 p1 p2:V)(m:M):R:=
  bp (some (aNew Q1au (Value.cells p0).toList m)) fun x56 m=>
  bp (some (aNew Qx (Value.cells p1).toList m)) fun x57 m=>
  Q13g G x57 p2 x56 m
theorem Q1jw (G:Gt)(a0 a1 a2:V)(m:M):ef G Tryz.f251 [a0,a1,a2] m = Qum G a0 a1 a2 m:=
  evFn_of (r:=fun r m=>Qum G (r 0) (r 1) (r 2) m) rfl rfl (tr (seqQ (f:=fun r m=>Q13g G (r 4) (r 2) (r 3) m) (tr (seqQ (f:=fun r m=>Q13f G (r 7) (r 4) (r 2) (r 3) m) (tr (seqQ (f:=fun r m=>Q74 G (r 7) (r 4) (r 2) (r 8) (r 3) m) (tr (seqQ (f:=fun r m=>Q4z G (r 9) (r 3) (r 7) m) (tr (seqQ (f:=fun r m=>Qgr G (r 6) m) (fun r m=>by kernel_rfl)) (fun r m=>by kernel_rfl))) (fun r m=>by kernel_rfl))) (fun r m=>by kernel_rfl))) (fun r m=>by kernel_rfl))) (fun r m=>by kernel_rfl)) m
def Q1j7:En:=⟨Q17b,Tryz.f251,Tryz.func251,by kernel_rfl,arg3 Qum,okarg3 Q1jw⟩
def Q15o (G:Gt)(p4:V)(m:M):R:=
  some (p4,m)
def Q1el (G:Gt)(p1 p0:V)(m:M):R:=
  bp (pur (bin .eql true true .str p1 (.string ⟨#[]⟩)) m) fun x0 m=>
  brb x0
  (Q15o G (.bool true) m)
  (bp (pur (aLookup .str (.int .i64 0) false p0 p1 m) m) fun x1 m=>
  bp (pur (bin .gtr true true .int x1 (.int .i64 0)) m) fun x2 m=>
  Q15o G x2 m)
def Q1aw (G:Gt)(p1 p0:V)(m:M):R:=
  Q1el G p1 p0 m
theorem Q1sn (G:Gt)(a0 a1:V)(m:M):ef G Tryz.f256 [a0,a1] m = Q1aw G a1 a0 m:=
  evFn_of (r:=fun r m=>Q1aw G (r 1) (r 0) m) rfl rfl (tr (seqQ (f:=fun r m=>Q1el G (r 1) (r 0) m) (tr (seqQ (f:=fun r m=>Q15o G (r 4) m) (fun r m=>by kernel_rfl)) (fun r m=>by kernel_rfl))) (fun r m=>by kernel_rfl)) m
def Q1sd:En:=⟨Q13e,Tryz.f256,Tryz.func256,by kernel_rfl,arg2 (fun G a0 a1 m=>Q1aw G a1 a0 m),okarg2 Q1sn⟩
def Qat (G:Gt)(p0:V)(m:M):R:=
  bp (pur (bin .eql true true .slice p0 (.slice none 0 0)) m) fun x0 m=>
  brb x0
  (some ((.slice none 0 0),m))
  (bp (aBuildSlice Qts [(.string ⟨#[]⟩)] 1 0 [] m) fun x1 m=>
  bp (apS Qts 1 16 x1 p0 m) fun x2 m=>
  some (x2,m))
theorem Q123 (G:Gt)(a0:V)(m:M):ef G Tryz.f273 [a0] m = Qat G a0 m:=
  evFn_of (r:=fun r m=>Qat G (r 0) m) rfl rfl (fun r m=>by kernel_rfl) m
def Q11x:En:=⟨Qix,Tryz.f273,Tryz.func273,by kernel_rfl,arg1 Qat,okarg1 Q123⟩
def Q5u (G:Gt)(p0:V)(m:M):R:=
  bp (pur (bin .eql true true .slice p0 (.slice none 0 0)) m) fun x0 m=>
  brb x0
  (some ((.slice none 0 0),m))
  (bp (aBuildSlice Q1r Q7y 11 0 [] m) fun x1 m=>
  bp (apS Q1r 11 120 x1 p0 m) fun x2 m=>
  some (x2,m))
theorem Qt3 (G:Gt)(a0:V)(m:M):ef G Tryz.f274 [a0] m = Q5u G a0 m:=
  evFn_of (r:=fun r m=>Q5u G (r 0) m) rfl rfl (fun r m=>by kernel_rfl) m
def Qsy:En:=⟨Qct,Tryz.f274,Tryz.func274,by kernel_rfl,arg1 Q5u,okarg1 Qt3⟩
def Q4f (G:Gt)(p0:V)(m:M):R:=
  bp (pur (bin .eql true true .slice p0 (.slice none 0 0)) m) fun x0 m=>
  brb x0
  (some ((.slice none 0 0),m))
  (bp (aBuildSlice Q1gs Q1rb 3 0 [] m) fun x1 m=>
  bp (apS Q1gs 3 32 x1 p0 m) fun x2 m=>
  some (x2,m))
theorem Qnp (G:Gt)(a0:V)(m:M):ef G Tryz.f275 [a0] m = Q4f G a0 m:=
  evFn_of (r:=fun r m=>Q4f G (r 0) m) rfl rfl (fun r m=>by kernel_rfl) m
def Qne:En:=⟨Qay,Tryz.f275,Tryz.func275,by kernel_rfl,arg1 Q4f,okarg1 Qnp⟩
def Q57 (G:Gt)(p0:V)(m:M):R:=
  bp (pur (bin .eql true true .slice p0 (.slice none 0 0)) m) fun x0 m=>
  brb x0
  (some ((.slice none 0 0),m))
  (bp (aBuildSlice Q1jx Q1so 7 0 [] m) fun x1 m=>
  bp (apS Q1jx 7 56 x1 p0 m) fun x2 m=>
  some (x2,m))
theorem Qqa (G:Gt)(a0:V)(m:M):ef G Tryz.f276 [a0] m = Q57 G a0 m:=
  evFn_of (r:=fun r m=>Q57 G (r 0) m) rfl rfl (fun r m=>by kernel_rfl) m
def Qpx:En:=⟨Qbr,Tryz.f276,Tryz.func276,by kernel_rfl,arg1 Q57,okarg1 Qqa⟩
end
end Go.Ab.Sh
