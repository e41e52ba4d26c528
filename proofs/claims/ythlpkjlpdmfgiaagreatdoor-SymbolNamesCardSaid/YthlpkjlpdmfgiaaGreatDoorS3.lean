/-
  Functions of the program as plain definitions. No conditions.
-/
import Derived.Test.YthlpkjlpdmfgiaaGreatDoorAb5
import Derived.Test.YthlpkjlpdmfgiaaGreatDoorZ
import Derived.KernelRfl
import Derived.Test.YthlpkjlpdmfgiaaGreatDoorProg
set_option linter.unusedVariables false
set_option maxRecDepth 100000
namespace Go.Ab.Sh
open Go Go.Ab Go.Proofs
noncomputable section
def Qx8 (G:Gt)(m:M):R:=
  some ((.int .i64 0),m)
def Qkk (G:Gt)(k0:V → V → V → V → M → R)(p51 p50 p49 p0:V)(m:M):R:=
  bp (pur (bin .add true true .int p51 (.int .i64 1)) m) fun x0 m=>
  k0 x0 p50 p49 p0 m
def Qv7 (G:Gt)(k0:V → V → V → V → M → R)(p0 p12 p51 p50 p49:V)(m:M):R:=
  bp (pur (aNilCheck p0) m) fun x1 m=>
  bp (pur (aFieldAddr 1 x1) m) fun x2 m=>
  bp (pur (aLoad false 1 x2 m) m) fun x3 m=>
  bp (unt (aMapUpdate .int x3 p12 (.int .i64 2) m)) fun _ m=>
  Qkk G k0 p51 p50 p49 p0 m
def Qj3 (G:Gt)(k0:V → V → V → V → M → R):Nat → V → V → V → V → V → V → V → V → M → R
 | 0,_,_,_,_,_,_,_,_,_=>none
 | i + 1,p75,p74,p73,p0,p12,p51,p50,p49,m=>
  bp (pur (bin .lss false true .int p75 p74) m) fun x4 m=>
  brb x4
  (bp (pur (aIndexAddrSl 1 p73 p75) m) fun x5 m=>
  bp (pur (aLoad false 1 x5 m) m) fun x6 m=>
  bp (pur (bin .rem true true .int x6 (.int .i64 2)) m) fun x7 m=>
  bp (pur (bin .eql true true .int x7 (.int .i64 1)) m) fun x8 m=>
  brb x8
  (some ((.int .i64 1),m))
  (bp (pur (bin .add true true .int p75 (.int .i64 1)) m) fun x9 m=>
  (Qj3 G k0 i) x9 p74 p73 p0 p12 p51 p50 p49 m))
  (Qv7 G k0 p0 p12 p51 p50 p49 m)
def Qv8 (G:Gt)(k0:V → V → V → V → M → R)(p75 p74 p73 p0 p12 p51 p50 p49:V)(m:M):R:=
  Qj3 G k0 G.rds p75 p74 p73 p0 p12 p51 p50 p49 m
def Qv9 (G:Gt)(k0:V → V → V → V → M → R)(p13 p0 p12 p51 p50 p49:V)(m:M):R:=
  bp (pur (lenK 1 p13 m) m) fun x10 m=>
  Qv8 G k0 (.int .i64 0) x10 p13 p0 p12 p51 p50 p49 m
def Qva (G:Gt)(k0:V → V → V → V → M → R)(p14 p13 p0 p12 p51 p50 p49:V)(m:M):R:=
  bp (pur (bin .neq true true .int p14 (.int .i64 0)) m) fun x11 m=>
  brb x11
  (some ((.int .i64 1),m))
  (Qv9 G k0 p13 p0 p12 p51 p50 p49 m)
def Qvb (G:Gt)(k0:V → V → V → V → M → R)(p0 p12 p51 p50 p49:V)(m:M):R:=
  bp (pur (aNilCheck p0) m) fun x12 m=>
  bp (pur (aFieldAddr 0 x12) m) fun x13 m=>
  bp (pur (aLoad false 1 x13 m) m) fun x14 m=>
  bp (G.tab Qos [x14,p12] m) fun x15 m=>
  bp (pur (aExtract x15 0) m) fun x16 m=>
  bp (pur (aExtract x15 1) m) fun x17 m=>
  Qva G k0 x17 x16 p0 p12 p51 p50 p49 m
def Qx9 (G:Gt)(k0:V → V → V → V → M → R)(p0 p12 p51 p50 p49:V)(m:M):R:=
  bp (pur (aNilCheck p0) m) fun x18 m=>
  bp (pur (aFieldAddr 1 x18) m) fun x19 m=>
  bp (pur (aLoad false 1 x19 m) m) fun x20 m=>
  bp (pur (aLookup .int (.int .i64 0) false x20 p12 m) m) fun x21 m=>
  bp (pur (bin .eql true true .int x21 (.int .i64 2)) m) fun x22 m=>
  brb x22
  (Qkk G k0 p51 p50 p49 p0 m)
  (Qvb G k0 p0 p12 p51 p50 p49 m)
def Qxa (G:Gt)(k0:V → V → V → V → M → R)(p49 p51 p0 p50:V)(m:M):R:=
  bp (pur (aIndexAddrSl 1 p49 p51) m) fun x23 m=>
  bp (pur (aLoad false 1 x23 m) m) fun x24 m=>
  Qx9 G k0 p0 x24 p51 p50 p49 m
def Qxb (G:Gt)(k0:V → V → V → V → M → R)(p52 p49 p51 p0 p50:V)(m:M):R:=
  brb p52
  (Qxa G k0 p49 p51 p0 p50 m)
  (Qx8 G m)
def Q17 (G:Gt):Nat → V → V → V → V → M → R
 | 0,_,_,_,_,_=>none
 | i + 1,p51,p50,p49,p0,m=>
  bp (pur (bin .lss false true .int p51 p50) m) fun x25 m=>
  Qxb G (Q17 G i) x25 p49 p51 p0 p50 m
def Qxc (G:Gt)(p51 p50 p49 p0:V)(m:M):R:=
  Q17 G G.rds p51 p50 p49 p0 m
def Qxd (G:Gt)(p1 p0:V)(m:M):R:=
  bp (pur (lenK 1 p1 m) m) fun x26 m=>
  Qxc G (.int .i64 0) x26 p1 p0 m
def Qj4 (G:Gt)(k0:V → V → V → V → V → M → R)(p21 p20 p19 p0 p1:V)(m:M):R:=
  bp (pur (bin .add true true .int p21 (.int .i64 1)) m) fun x27 m=>
  k0 x27 p20 p19 p0 p1 m
def Qvc (G:Gt)(k0:V → V → V → V → V → M → R)(p19 p21 p0 p20 p1:V)(m:M):R:=
  bp (pur (aIndexAddrSl 1 p19 p21) m) fun x28 m=>
  bp (pur (aLoad false 1 x28 m) m) fun x29 m=>
  bp (pur (aNilCheck p0) m) fun x30 m=>
  bp (pur (aFieldAddr 1 x30) m) fun x31 m=>
  bp (pur (aLoad false 1 x31 m) m) fun x32 m=>
  bp (pur (aLookup .int (.int .i64 0) false x32 x29 m) m) fun x33 m=>
  bp (pur (bin .geq true true .int x33 (.int .i64 1)) m) fun x34 m=>
  brb x34
  (Qj4 G k0 p21 p20 p19 p0 p1 m)
  (bp (pur (aNilCheck p0) m) fun x35 m=>
  bp (pur (aFieldAddr 0 x35) m) fun x36 m=>
  bp (pur (aLoad false 1 x36 m) m) fun x37 m=>
  bp (G.tab Q1le [x37,x29] m) fun x38 m=>
  bp (pur (aExtract x38 0) m) fun x39 m=>
  bp (pur (aExtract x38 1) m) fun x40 m=>
  bp (pur (bin .neq true true .int x40 (.int .i64 0)) m) fun x41 m=>
  brb x41
  (some ((.int .i64 1),m))
  (bp (pur (aNilCheck p0) m) fun x42 m=>
  bp (pur (aFieldAddr 1 x42) m) fun x43 m=>
  bp (pur (aLoad false 1 x43 m) m) fun x44 m=>
  bp (unt (aMapUpdate .int x44 x29 (.int .i64 1) m)) fun _ m=>
  Qj4 G k0 p21 p20 p19 p0 p1 m))
def Qvd (G:Gt)(k0:V → V → V → V → V → M → R)(p22 p19 p21 p0 p20 p1:V)(m:M):R:=
  brb p22
  (Qvc G k0 p19 p21 p0 p20 p1 m)
  (Qxd G p1 p0 m)
def Q4s (G:Gt):Nat → V → V → V → V → V → M → R
 | 0,_,_,_,_,_,_=>none
 | i + 1,p21,p20,p19,p0,p1,m=>
  bp (pur (bin .lss false true .int p21 p20) m) fun x45 m=>
  Qvd G (Q4s G i) x45 p19 p21 p0 p20 p1 m
def Qve (G:Gt)(p21 p20 p19 p0 p1:V)(m:M):R:=
  Q4s G G.rds p21 p20 p19 p0 p1 m
def Qxe (G:Gt)(p2 p0 p1:V)(m:M):R:=
  bp (pur (lenK 1 p2 m) m) fun x46 m=>
  Qve G (.int .i64 0) x46 p2 p0 p1 m
def Qxf (G:Gt)(p0 p2 p1:V)(m:M):R:=
  bp (pur (binP m .eql true true .ptr p0 (.pointer none)) m) fun x47 m=>
  brb x47
  (some ((.int .i64 2),m))
  (Qxe G p2 p0 p1 m)
def Qot (G:Gt)(p0 p2 p1:V)(m:M):R:=
  Qxf G p0 p2 p1 m
theorem Q1fo (G:Gt)(a0 a1 a2:V)(m:M):ef G Tryz.f31 [a0,a1,a2] m = Qot G a0 a2 a1 m:=
  evFn_of (r:=fun r m=>Qot G (r 0) (r 2) (r 1) m) rfl rfl (tr (seqQ (f:=fun r m=>Qxf G (r 0) (r 2) (r 1) m) (tr (seqQ (f:=fun r m=>Qxe G (r 2) (r 0) (r 1) m) (tr (tr (seqQ (f:=fun r m=>Qxd G (r 1) (r 0) m) (tr (tr (seqQ (f:=fun r m=>Qx8 G m) (fun r m=>by kernel_rfl)) (seqQ (f:=fun r m=>Qxc G (r 51) (r 50) (r 49) (r 0) m) (tr (blockQ (loopQ (fun i r m=>Q17 G i (r 51) (r 50) (r 49) (r 0) m) (fun _ _=>rfl) (fun i0=>tr (seqQ (f:=fun r m=>Qxb G (Q17 G i0) (r 52) (r 49) (r 51) (r 0) (r 50) m) (tr (seqQ (f:=fun r m=>Qxa G (Q17 G i0) (r 49) (r 51) (r 0) (r 50) m) (tr (tr (seqQ (f:=fun r m=>Qkk G (Q17 G i0) (r 51) (r 50) (r 49) (r 0) m) (fun r m=>by kernel_rfl)) (blockQ (seqQ (f:=fun r m=>Qx9 G (Q17 G i0) (r 0) (r 12) (r 51) (r 50) (r 49) m) (tr (seqQ (f:=fun r m=>Qvb G (Q17 G i0) (r 0) (r 12) (r 51) (r 50) (r 49) m) (tr (seqQ (f:=fun r m=>Qva G (Q17 G i0) (r 14) (r 13) (r 0) (r 12) (r 51) (r 50) (r 49) m) (tr (seqQ (f:=fun r m=>Qv9 G (Q17 G i0) (r 13) (r 0) (r 12) (r 51) (r 50) (r 49) m) (tr (tr (seqQ (f:=fun r m=>Qv7 G (Q17 G i0) (r 0) (r 12) (r 51) (r 50) (r 49) m) (fun r m=>by kernel_rfl)) (seqQ (f:=fun r m=>Qv8 G (Q17 G i0) (r 75) (r 74) (r 73) (r 0) (r 12) (r 51) (r 50) (r 49) m) (tr (blockQ (loopQ (fun i r m=>Qj3 G (Q17 G i0) i (r 75) (r 74) (r 73) (r 0) (r 12) (r 51) (r 50) (r 49) m) (fun _ _=>rfl) (fun i1=>fun r m=>by kernel_rfl))) (fun r m=>by kernel_rfl)))) (fun r m=>by kernel_rfl))) (fun r m=>by kernel_rfl))) (fun r m=>by kernel_rfl))) (fun r m=>by kernel_rfl))))) (fun r m=>by kernel_rfl))) (fun r m=>by kernel_rfl))) (fun r m=>by kernel_rfl)))) (fun r m=>by kernel_rfl)))) (fun r m=>by kernel_rfl))) (seqQ (f:=fun r m=>Qve G (r 21) (r 20) (r 19) (r 0) (r 1) m) (tr (blockQ (loopQ (fun i r m=>Q4s G i (r 21) (r 20) (r 19) (r 0) (r 1) m) (fun _ _=>rfl) (fun i0=>tr (seqQ (f:=fun r m=>Qvd G (Q4s G i0) (r 22) (r 19) (r 21) (r 0) (r 20) (r 1) m) (tr (seqQ (f:=fun r m=>Qvc G (Q4s G i0) (r 19) (r 21) (r 0) (r 20) (r 1) m) (tr (seqQ (f:=fun r m=>Qj4 G (Q4s G i0) (r 21) (r 20) (r 19) (r 0) (r 1) m) (fun r m=>by kernel_rfl)) (fun r m=>by kernel_rfl))) (fun r m=>by kernel_rfl))) (fun r m=>by kernel_rfl)))) (fun r m=>by kernel_rfl)))) (fun r m=>by kernel_rfl))) (fun r m=>by kernel_rfl))) (fun r m=>by kernel_rfl)) m
def Q1f7:En:=⟨Qb2,Tryz.f31,Tryz.func31,by kernel_rfl,arg3 (fun G a0 a1 a2 m=>Qot G a0 a2 a1 m),okarg3 Q1fo⟩
def Qou (G:Gt)(p29 p6 p5 p3 p1:V)(m:M):R:=
  brb p29
  (bp (pur (aBuild Q31 [(0,1),(1,1)] []) m) fun x0 m=>
  bp (unt (aStore 2 p6 x0 m)) fun _ m=>
  ob (ob (aLoad true 2 p6 m) fun v=>ob (some [(.int .i64 1)]) fun l=>some (v :: l)) fun l=>some (resVal l,m))
  (bp (some (aNew Q1o2 [.nilFunc] m)) fun x1 m=>
  bp (unt (aStore 1 x1 (.func (.func Q12j) ⟨[]⟩ ⟨[p5,p3]⟩) m)) fun _ m=>
  bp (some (aMakeMap m)) fun x2 m=>
  bp (pur (aBuild Q31 [(0,1),(1,1)] []) m) fun x3 m=>
  bp (unt (aMapUpdate .int x2 (.int .i32 0) x3 m)) fun _ m=>
  bp (pur (aBuild Q31 [(0,1),(1,1)] [(1,(.int .u64 1))]) m) fun x4 m=>
  bp (unt (aMapUpdate .int x2 (.int .i32 1) x4 m)) fun _ m=>
  bp (some (aNew Q1e2 [(.map none)] m)) fun x5 m=>
  bp (unt (aStore 1 x5 x2 m)) fun _ m=>
  bp (some (aNew Q1e3 [.nilFunc] m)) fun x6 m=>
  let x7:V:=(.func (.func Q12k) ⟨[]⟩ ⟨[x5,p3,x6,x1]⟩)
  bp (unt (aStore 1 x6 x7 m)) fun _ m=>
  bp (pur (aLoad false 1 x6 m) m) fun x8 m=>
  bp (conv (.int .i32) p1 m) fun x9 m=>
  bp (pur (aLoad false 1 x1 m) m) fun x10 m=>
  bp (conv (.int .i32) p1 m) fun x11 m=>
  bp (evCall G.tab x8 [x9] m) fun x12 m=>
  ckB (again (pur (aLoad false 1 x1 m) m) x10 && true)
  (bp (evCall G.tab x10 [x11] m) fun x13 m=>
  bp (G.tab Q1cw [x12,x13] m) fun x14 m=>
  bp (unt (aStore 2 p6 x14 m)) fun _ m=>
  ob (ob (aLoad true 2 p6 m) fun v=>ob (some [(.int .i64 0)]) fun l=>some (v :: l)) fun l=>some (resVal l,m)))
def Q12l (G:Gt)(p3 p1 p5 p6:V)(m:M):R:=
  bp (pur (aLoad false 1 p3 m) m) fun x15 m=>
  bp (pur (aLoad false 1 p5 m) m) fun x16 m=>
  bp (G.tab Q16k [x15,p1,x16] m) fun x17 m=>
  bp (pur (un .not x17) m) fun x18 m=>
  brb x18
  (Qou G (.bool true) p6 p5 p3 p1 m)
  (bp (pur (aLoad false 1 p5 m) m) fun x19 m=>
  bp (pur (lenK 1 x19 m) m) fun x20 m=>
  bp (pur (bin .gtr true true .int x20 (.int .i64 127)) m) fun x21 m=>
  Qou G x21 p6 p5 p3 p1 m)
def Q12m (G:Gt)(p3 p1 p6 p5:V)(m:M):R:=
  bp (pur (aLoad false 1 p3 m) m) fun x22 m=>
  bp (aBuildSlice Q7o [(.int .i64 0)] 1 1 [(0,p1)] m) fun x23 m=>
  bp (G.tab Q29 [x22,x23] m) fun x24 m=>
  bp (pur (bin .neq true true .int x24 (.int .i64 0)) m) fun x25 m=>
  brb x25
  (bp (pur (aBuild Q31 [(0,1),(1,1)] []) m) fun x26 m=>
  bp (unt (aStore 2 p6 x26 m)) fun _ m=>
  ob (ob (aLoad true 2 p6 m) fun v=>ob (some [x24]) fun l=>some (v :: l)) fun l=>some (resVal l,m))
  (Q12l G p3 p1 p5 p6 m)
def Qtq (G:Gt)(p0 p2 p1:V)(m:M):R:=
  bp (some (aNew Q2f (Value.cells p0).toList m)) fun x27 m=>
  bp (some (aNew Q1pl (Value.cells p2).toList m)) fun x28 m=>
  bp (some (aNew Qd5 Q31 m)) fun x29 m=>
  Q12m G x27 p1 x29 x28 m
theorem Q1jf (G:Gt)(a0 a1 a2:V)(m:M):ef G Tryz.f32 [a0,a1,a2] m = Qtq G a0 a2 a1 m:=
  evFn_of (r:=fun r m=>Qtq G (r 0) (r 2) (r 1) m) rfl rfl (tr (seqQ (f:=fun r m=>Q12m G (r 3) (r 1) (r 6) (r 5) m) (tr (seqQ (f:=fun r m=>Q12l G (r 3) (r 1) (r 5) (r 6) m) (tr (tr seqD (seqQ (f:=fun r m=>Qou G (r 29) (r 6) (r 5) (r 3) (r 1) m) (fun r m=>by kernel_rfl))) (fun r m=>by kernel_rfl))) (fun r m=>by kernel_rfl))) (fun r m=>by kernel_rfl)) m
def Q1jb:En:=⟨Q16l,Tryz.f32,Tryz.func32,by kernel_rfl,arg3 (fun G a0 a1 a2 m=>Qtq G a0 a2 a1 m),okarg3 Q1jf⟩
def Q1m7 (G:Gt)(p3:V)(m:M):R:=
  some (p3,m)
def Q1cx (G:Gt):Nat → V → V → V → M → R
 | 0,_,_,_,_=>none
 | i + 1,p5,p3,p0,m=>
  bp (pur (bin .lss true true .int p5 (.int .i64 104)) m) fun x0 m=>
  brb x0
  (bp (evCall G.tab p0 [p5] m) fun x1 m=>
  bp (aBuildSlice Q7o [(.int .i64 0)] 1 1 [(0,x1)] m) fun x2 m=>
  bp (apS Q7o 1 8 p3 x2 m) fun x3 m=>
  bp (pur (bin .add true true .int p5 (.int .i64 1)) m) fun x4 m=>
  (Q1cx G i) x4 x3 p0 m)
  (Q1m7 G p3 m)
def Q1m8 (G:Gt)(p5 p3 p0:V)(m:M):R:=
  Q1cx G G.rds p5 p3 p0 m
def Q1m9 (G:Gt)(p3 p0:V)(m:M):R:=
  Q1m8 G (.int .i64 0) p3 p0 m
def Q1ma (G:Gt)(p0:V)(m:M):R:=
  Q1m9 G (.slice none 0 0) p0 m
def Q1jg (G:Gt)(p0:V)(m:M):R:=
  Q1ma G p0 m
theorem Q1w5 (G:Gt)(a0:V)(m:M):ef G Tryz.f33 [a0] m = Q1jg G a0 m:=
  evFn_of (r:=fun r m=>Q1jg G (r 0) m) rfl rfl (tr (seqQ (f:=fun r m=>Q1ma G (r 0) m) (tr (seqQ (f:=fun r m=>Q1m9 G (r 3) (r 0) m) (tr (tr (seqQ (f:=fun r m=>Q1m7 G (r 3) m) (fun r m=>by kernel_rfl)) (seqQ (f:=fun r m=>Q1m8 G (r 5) (r 3) (r 0) m) (tr (blockQ (loopQ (fun i r m=>Q1cx G i (r 5) (r 3) (r 0) m) (fun _ _=>rfl) (fun i0=>fun r m=>by kernel_rfl))) (fun r m=>by kernel_rfl)))) (fun r m=>by kernel_rfl))) (fun r m=>by kernel_rfl))) (fun r m=>by kernel_rfl)) m
def Q1w1:En:=⟨Q1q6,Tryz.f33,Tryz.func33,by kernel_rfl,arg1 Q1jg,okarg1 Q1w5⟩
def Qtr (G:Gt)(p0:V)(m:M):R:=
  bp (pur (bin .mul true true .int (.int .i64 2) p0) m) fun x0 m=>
  some (x0,m)
theorem Q1w6 (G:Gt)(a0:V)(m:M):ef G Tryz.f34 [a0] m = Qtr G a0 m:=
  evFn_of (r:=fun r m=>Qtr G (r 0) m) rfl rfl (fun r m=>by kernel_rfl) m
def Q1jd:En:=⟨Qnz,Tryz.f34,Tryz.func34,by kernel_rfl,arg1 Qtr,okarg1 Q1w6⟩
def Q1cy (G:Gt):Nat → V → V → V → V → M → R
 | 0,_,_,_,_,_=>none
 | i + 1,p7,p0,p2,p4,m=>
  bp (pur (bin .lss true true .int p7 (.int .i64 104)) m) fun x0 m=>
  brb x0
  (bp (pur (aLoad true 5 p4 m) m) fun x1 m=>
  bp (evCall G.tab p2 [p7] m) fun x2 m=>
  ckB (again (pur (aLoad true 5 p4 m) m) x1 && true)
  (bp (G.tab Q1jh [x1,p7] m) fun x3 m=>
  bp (pur (aExtract x3 0) m) fun x4 m=>
  bp (pur (aExtract x3 1) m) fun x5 m=>
  bp (pur (aIndexAddrSl 1 p0 x2) m) fun x6 m=>
  bp (unt (aStore 1 x6 x4 m)) fun _ m=>
  bp (pur (bin .add true true .int p7 (.int .i64 1)) m) fun x7 m=>
  (Q1cy G i) x7 p0 p2 p4 m))
  (some (.tuple ⟨[]⟩,m))
def Q1mb (G:Gt)(p7 p0 p2 p4:V)(m:M):R:=
  Q1cy G G.rds p7 p0 p2 p4 m
def Q1mc (G:Gt)(p0 p2 p4:V)(m:M):R:=
  Q1mb G (.int .i64 0) p0 p2 p4 m
def Q1ji (G:Gt)(p1 p0 p2:V)(m:M):R:=
  bp (some (aNew Q12n (Value.cells p1).toList m)) fun x8 m=>
  Q1mc G p0 p2 x8 m
theorem Q1w7 (G:Gt)(a0 a1 a2:V)(m:M):ef G Tryz.f35 [a0,a1,a2] m = Q1ji G a1 a0 a2 m:=
  evFn_of (r:=fun r m=>Q1ji G (r 1) (r 0) (r 2) m) rfl rfl (tr (seqQ (f:=fun r m=>Q1mc G (r 0) (r 2) (r 4) m) (tr (seqQ (f:=fun r m=>Q1mb G (r 7) (r 0) (r 2) (r 4) m) (tr (blockQ (loopQ (fun i r m=>Q1cy G i (r 7) (r 0) (r 2) (r 4) m) (fun _ _=>rfl) (fun i0=>fun r m=>by kernel_rfl))) (fun r m=>by kernel_rfl))) (fun r m=>by kernel_rfl))) (fun r m=>by kernel_rfl)) m
def Q1w0:En:=⟨Q1q7,Tryz.f35,Tryz.func35,by kernel_rfl,arg3 (fun G a0 a1 a2 m=>Q1ji G a1 a0 a2 m),okarg3 Q1w7⟩
def Q18f (G:Gt)(p9:V)(m:M):R:=
  bp (pur (bin .eql true true .int p9 (.int .i32 1)) m) fun x0 m=>
  some (.tuple ⟨[x0,(.int .i64 0)]⟩,m)
def Qwi (G:Gt):Nat → V → V → V → M → R
 | 0,_,_,_,_=>none
 | i + 1,p9,p0,p2,m=>
  bp (pur (bin .gtr true true .int p9 (.int .i32 1)) m) fun x1 m=>
  brb x1
  (bp (pur (aNilCheck p0) m) fun x2 m=>
  bp (pur (aFieldAddr 2 x2) m) fun x3 m=>
  bp (pur (aLoad false 1 x3 m) m) fun x4 m=>
  bp (pur (aIndexAddrSl 3 x4 p9) m) fun x5 m=>
  bp (pur (aLoad true 3 x5 m) m) fun x6 m=>
  bp (some (aNew Qu Q8m m)) fun x7 m=>
  bp (unt (aStore 3 x7 x6 m)) fun _ m=>
  bp (pur (aFieldAddr 0 x7) m) fun x8 m=>
  bp (pur (aLoad false 1 x8 m) m) fun x9 m=>
  bp (pur (aFieldAddr 0 x7) m) fun x10 m=>
  bp (pur (aLoad false 1 x10 m) m) fun x11 m=>
  bp (pur (aIndexAddrSl 1 p2 x11) m) fun x12 m=>
  bp (pur (aLoad false 1 x12 m) m) fun x13 m=>
  bp (G.tab Q64 [p0,p9,x9,x13] m) fun x14 m=>
  (Qwi G i) x14 p0 p2 m)
  (Q18f G p9 m)
def Q18g (G:Gt)(p9 p0 p2:V)(m:M):R:=
  Qwi G G.rds p9 p0 p2 m
def Q18h (G:Gt)(p1 p0 p2:V)(m:M):R:=
  bp (conv (.int .i32) p1 m) fun x15 m=>
  Q18g G x15 p0 p2 m
def Q18i (G:Gt)(p2 p0 p1:V)(m:M):R:=
  bp (pur (lenK 1 p2 m) m) fun x16 m=>
  bp (pur (aNilCheck p0) m) fun x17 m=>
  bp (pur (aFieldAddr 0 x17) m) fun x18 m=>
  bp (pur (aLoad false 1 x18 m) m) fun x19 m=>
  bp (pur (bin .neq false true .int x16 x19) m) fun x20 m=>
  brb x20
  (some (.tuple ⟨[(.bool false),(.int .i64 1)]⟩,m))
  (Q18h G p1 p0 p2 m)
def Q18j (G:Gt)(p0 p1 p2:V)(m:M):R:=
  bp (aBuildSlice Q7o [(.int .i64 0)] 1 1 [(0,p1)] m) fun x21 m=>
  bp (G.tab Q29 [p0,x21] m) fun x22 m=>
  bp (pur (bin .neq true true .int x22 (.int .i64 0)) m) fun x23 m=>
  brb x23
  (some (.tuple ⟨[(.bool false),x22]⟩,m))
  (Q18i G p2 p0 p1 m)
def Q12o (G:Gt)(p0 p1 p2:V)(m:M):R:=
  Q18j G p0 p1 p2 m
theorem Q1o3 (G:Gt)(a0 a1 a2:V)(m:M):ef G Tryz.f36 [a0,a1,a2] m = Q12o G a0 a1 a2 m:=
  evFn_of (r:=fun r m=>Q12o G (r 0) (r 1) (r 2) m) rfl rfl (tr (seqQ (f:=fun r m=>Q18j G (r 0) (r 1) (r 2) m) (tr (seqQ (f:=fun r m=>Q18i G (r 2) (r 0) (r 1) m) (tr (seqQ (f:=fun r m=>Q18h G (r 1) (r 0) (r 2) m) (tr (seqQ (f:=fun r m=>Q18g G (r 9) (r 0) (r 2) m) (tr (tr (seqQ (f:=fun r m=>Q18f G (r 9) m) (fun r m=>by kernel_rfl)) (blockQ (loopQ (fun i r m=>Qwi G i (r 9) (r 0) (r 2) m) (fun _ _=>rfl) (fun i0=>fun r m=>by kernel_rfl)))) (fun r m=>by kernel_rfl))) (fun r m=>by kernel_rfl))) (fun r m=>by kernel_rfl))) (fun r m=>by kernel_rfl))) (fun r m=>by kernel_rfl)) m
def Q1ny:En:=⟨Q1by,Tryz.f36,Tryz.func36,by kernel_rfl,arg3 Q12o,okarg3 Q1o3⟩
def Q100 (G:Gt)(p0 p1 p2:V)(m:M):R:=
  bp (pur (binP m .eql true true .ptr p0 (.pointer none)) m) fun x0 m=>
  brb x0
  (some (.tuple ⟨[(.int .i64 0),(.int .i64 2)]⟩,m))
  (bp (pur (aNilCheck p0) m) fun x1 m=>
  bp (pur (aFieldAddr 0 x1) m) fun x2 m=>
  bp (pur (aLoad false 1 x2 m) m) fun x3 m=>
  bp (G.tab Qov [p0,p1,p2,(.func (.func Qhj) ⟨[x3]⟩ ⟨[]⟩)] m) fun x4 m=>
  bp (pur (aExtract x4 0) m) fun x5 m=>
  bp (pur (aExtract x4 1) m) fun x6 m=>
  some (.tuple ⟨[x5,x6]⟩,m))
theorem Q1mw (G:Gt)(a0 a1 a2:V)(m:M):ef G Tryz.f37 [a0,a1,a2] m = Q100 G a0 a1 a2 m:=
  evFn_of (r:=fun r m=>Q100 G (r 0) (r 1) (r 2) m) rfl rfl (fun r m=>by kernel_rfl) m
def Q1mu:En:=⟨Q3d,Tryz.f37,Tryz.func37,by kernel_rfl,arg3 Q100,okarg3 Q1mw⟩
def Q12p (G:Gt)(p0 p1 p2:V)(m:M):R:=
  bp (pur (binP m .eql true true .ptr p0 (.pointer none)) m) fun x0 m=>
  brb x0
  (some (.tuple ⟨[(.int .i64 0),(.int .i64 2)]⟩,m))
  (bp (pur (aNilCheck p0) m) fun x1 m=>
  bp (pur (aFieldAddr 0 x1) m) fun x2 m=>
  bp (pur (aLoad false 1 x2 m) m) fun x3 m=>
  bp (G.tab Qov [p0,p1,p2,(.func (.func Qso) ⟨[x3]⟩ ⟨[]⟩)] m) fun x4 m=>
  bp (pur (aExtract x4 0) m) fun x5 m=>
  bp (pur (aExtract x4 1) m) fun x6 m=>
  some (.tuple ⟨[x5,x6]⟩,m))
theorem Q1o4 (G:Gt)(a0 a1 a2:V)(m:M):ef G Tryz.f38 [a0,a1,a2] m = Q12p G a0 a1 a2 m:=
  evFn_of (r:=fun r m=>Q12p G (r 0) (r 1) (r 2) m) rfl rfl (fun r m=>by kernel_rfl) m
def Q1nz:En:=⟨Qsj,Tryz.f38,Tryz.func38,by kernel_rfl,arg3 Q12p,okarg3 Q1o4⟩
def Qkl (G:Gt)(p1 p0 p2:V)(m:M):R:=
  bp (pur (aNilCheck p0) m) fun x0 m=>
  bp (pur (aFieldAddr 3 x0) m) fun x1 m=>
  bp (pur (aLoad false 1 x1 m) m) fun x2 m=>
  bp (pur (bin .eql false true .int p1 x2) m) fun x3 m=>
  brb x3
  (some (p2,m))
  (bp (pur (aNilCheck p0) m) fun x4 m=>
  bp (pur (aFieldAddr 0 x4) m) fun x5 m=>
  bp (pur (aLoad false 1 x5 m) m) fun x6 m=>
  bp (G.tab Q1e4 [x6,p1,p2] m) fun x7 m=>
  bp (pur (aExtract x7 0) m) fun x8 m=>
  bp (pur (aExtract x7 1) m) fun x9 m=>
  bp (G.tab Q1 [p0,x8,x9] m) fun x10 m=>
  some (x10,m))
theorem Q1cz (G:Gt)(a0 a1 a2:V)(m:M):ef G Tryz.f39 [a0,a1,a2] m = Qkl G a1 a0 a2 m:=
  evFn_of (r:=fun r m=>Qkl G (r 1) (r 0) (r 2) m) rfl rfl (fun r m=>by kernel_rfl) m
def Q1cn:En:=⟨Qkm,Tryz.f39,Tryz.func39,by kernel_rfl,arg3 (fun G a0 a1 a2 m=>Qkl G a1 a0 a2 m),okarg3 Q1cz⟩
def Qow (G:Gt)(p1 p0 p2:V)(m:M):R:=
  bp (pur (aNilCheck p0) m) fun x0 m=>
  bp (pur (aFieldAddr 3 x0) m) fun x1 m=>
  bp (pur (aLoad false 1 x1 m) m) fun x2 m=>
  bp (pur (bin .eql false true .int p1 x2) m) fun x3 m=>
  brb x3
  (some (p2,m))
  (bp (pur (aNilCheck p0) m) fun x4 m=>
  bp (pur (aFieldAddr 0 x4) m) fun x5 m=>
  bp (pur (aLoad false 1 x5 m) m) fun x6 m=>
  bp (G.tab Q1jj [x6,p1,p2] m) fun x7 m=>
  bp (pur (aExtract x7 0) m) fun x8 m=>
  bp (pur (aExtract x7 1) m) fun x9 m=>
  bp (G.tab Q1 [p0,x8,x9] m) fun x10 m=>
  some (x10,m))
theorem Q1fp (G:Gt)(a0 a1 a2:V)(m:M):ef G Tryz.f40 [a0,a1,a2] m = Qow G a1 a0 a2 m:=
  evFn_of (r:=fun r m=>Qow G (r 1) (r 0) (r 2) m) rfl rfl (fun r m=>by kernel_rfl) m
def Q1fg:En:=⟨Qox,Tryz.f40,Tryz.func40,by kernel_rfl,arg3 (fun G a0 a1 a2 m=>Qow G a1 a0 a2 m),okarg3 Q1fp⟩
end
end Go.Ab.Sh

set_option linter.unusedVariables false
set_option maxRecDepth 100000
namespace Go.Ab.Sh
open Go Go.Ab Go.Proofs
noncomputable section
def Qxg (G:Gt)(p20 p0 p1:V)(m:M):R:=
  brb p20
  (some (.tuple ⟨[(.pointer none),(.int .i64 1)]⟩,m))
  (bp (pur (aBuild Q8m [(0,1),(1,1),(2,1)] [(0,(.int .i32 256))]) m) fun x0 m=>
  bp (pur (aBuild Q8m [(0,1),(1,1),(2,1)] [(0,(.int .i32 256))]) m) fun x1 m=>
  bp (aBuildSlice Qu Q8m 3 2 [(0,x0),(1,x1)] m) fun x2 m=>
  bp (some (aMakeMap m)) fun x3 m=>
  bp (some (aMakeMap m)) fun x4 m=>
  bp (some (aMakeMap m)) fun x5 m=>
  bp (unt (aMapUpdate .int x5 (.int .i64 0) (.bool true) m)) fun _ m=>
  bp (unt (aMapUpdate .int x5 (.int .i64 1) (.bool true) m)) fun _ m=>
  bp (some (aMakeMap m)) fun x6 m=>
  bp (pur (aBuild Q1tq [(0,1),(1,1),(2,1),(3,1),(4,1),(5,1),(6,1)] [(0,p0),(1,p1),(2,x2),(3,x3),(4,x4),(5,x5),(6,x6)]) m) fun x7 m=>
  bp (some (aNew Q1tr (Value.cells x7).toList m)) fun x8 m=>
  some (.tuple ⟨[x8,(.int .i64 0)]⟩,m))
def Q1md (G:Gt)(p0 p1:V)(m:M):R:=
  bp (pur (bin .lss true true .int p0 (.int .i64 0)) m) fun x9 m=>
  brb x9
  (Qxg G (.bool true) p0 p1 m)
  (bp (pur (bin .gtr true true .int p0 (.int .i64 256)) m) fun x10 m=>
  brb x10
  (Qxg G (.bool true) p0 p1 m)
  (bp (pur (bin .lss true true .int p1 (.int .i64 0)) m) fun x11 m=>
  brb x11
  (Qxg G (.bool true) p0 p1 m)
  (bp (pur (bin .gtr true true .int p1 (.int .i64 4194304)) m) fun x12 m=>
  Qxg G x12 p0 p1 m)))
def Q1jk (G:Gt)(p0 p1:V)(m:M):R:=
  Q1md G p0 p1 m
theorem Q1w8 (G:Gt)(a0 a1:V)(m:M):ef G Tryz.f41 [a0,a1] m = Q1jk G a0 a1 m:=
  evFn_of (r:=fun r m=>Q1jk G (r 0) (r 1) m) rfl rfl (tr (seqQ (f:=fun r m=>Q1md G (r 0) (r 1) m) (tr (tr seqD (seqQ (f:=fun r m=>Qxg G (r 20) (r 0) (r 1) m) (fun r m=>by kernel_rfl))) (fun r m=>by kernel_rfl))) (fun r m=>by kernel_rfl)) m
def Q1w2:En:=⟨Q1q8,Tryz.f41,Tryz.func41,by kernel_rfl,arg2 Q1jk,okarg2 Q1w8⟩
def Qxh (G:Gt)(p7 p3:V)(m:M):R:=
  bp (pur (aBuild Q65 [(0,1),(1,1)] []) m) fun x0 m=>
  bp (unt (aStore 2 p3 x0 m)) fun _ m=>
  ob (ob (ob (aLoad true 2 p3 m) fun v=>ob (some [(.int .i64 0)]) fun l=>some (v :: l)) fun l=>some (p7 :: l)) fun l=>some (resVal l,m)
def Qj5 (G:Gt)(k0:V → V → V → V → V → V → M → R)(p10 p0 p8 p9 p7 p3:V)(m:M):R:=
  bp (pur (bin .add true true .int p10 (.int .i64 1)) m) fun x1 m=>
  k0 x1 p0 p8 p9 p7 p3 m
def Qj6 (G:Gt)(k0:V → V → V → V → V → V → M → R)(p10 p9 p0 p7 p3:V)(m:M):R:=
  bp (pur (bin .add true true .int p10 (.int .i64 1)) m) fun x2 m=>
  bp (pur (bin .add true true .int p9 (.int .i64 1)) m) fun x3 m=>
  Qj5 G k0 p10 p0 x2 x3 p7 p3 m
def Qj7 (G:Gt)(k0:V → V → V → V → V → V → M → R)(p55 p7 p11 p10 p9 p0 p3:V)(m:M):R:=
  brb p55
  (bp (pur (aLoad true 2 p11 m) m) fun x4 m=>
  bp (aBuildSlice Qc0 Qim 2 1 [(0,x4)] m) fun x5 m=>
  bp (apS Qc0 2 32 p7 x5 m) fun x6 m=>
  Qj6 G k0 p10 p9 p0 x6 p3 m)
  (Qj6 G k0 p10 p9 p0 p7 p3 m)
def Qvf (G:Gt)(k0:V → V → V → V → V → V → M → R)(p11 p7 p10 p9 p0 p3:V)(m:M):R:=
  bp (pur (aFieldAddr 1 p11) m) fun x7 m=>
  bp (pur (aLoad false 1 x7 m) m) fun x8 m=>
  bp (pur (lenK 1 x8 m) m) fun x9 m=>
  bp (pur (bin .gtr true true .int x9 (.int .i64 0)) m) fun x10 m=>
  brb x10
  (bp (pur (aFieldAddr 1 p11) m) fun x11 m=>
  bp (pur (aLoad false 1 x11 m) m) fun x12 m=>
  bp (pur (aIndexAddrSl 3 x12 (.int .i64 0)) m) fun x13 m=>
  bp (pur (aFieldAddr 0 x13) m) fun x14 m=>
  bp (pur (aLoad false 1 x14 m) m) fun x15 m=>
  bp (pur (aIndexStr x15 (.int .i64 0)) m) fun x16 m=>
  bp (pur (bin .neq true true .int x16 (.int .u8 33)) m) fun x17 m=>
  Qj7 G k0 x17 p7 p11 p10 p9 p0 p3 m)
  (Qj7 G k0 (.bool false) p7 p11 p10 p9 p0 p3 m)
def Qvg (G:Gt)(k0:V → V → V → V → V → V → M → R)(p0 p8 p10 p9 p7 p3:V)(m:M):R:=
  bp (pur (aSliceStr p0 (some p8) (some p10)) m) fun x18 m=>
  bp (G.tab Q12q [x18,p9] m) fun x19 m=>
  bp (some (aNew Qc0 Qim m)) fun x20 m=>
  bp (unt (aStore 2 x20 x19 m)) fun _ m=>
  Qvf G k0 x20 p7 p10 p9 p0 p3 m
def Qj8 (G:Gt)(k0:V → V → V → V → V → V → M → R)(p36 p10 p0 p8 p9 p7 p3:V)(m:M):R:=
  brb p36
  (Qj5 G k0 p10 p0 p8 p9 p7 p3 m)
  (Qvg G k0 p0 p8 p10 p9 p7 p3 m)
def Qxi (G:Gt)(k0:V → V → V → V → V → V → M → R)(p10 p0 p8 p9 p7 p3:V)(m:M):R:=
  bp (pur (lenK 0 p0 m) m) fun x21 m=>
  bp (pur (bin .lss false true .int p10 x21) m) fun x22 m=>
  brb x22
  (bp (pur (aIndexStr p0 p10) m) fun x23 m=>
  bp (pur (bin .neq true true .int x23 (.int .u8 10)) m) fun x24 m=>
  Qj8 G k0 x24 p10 p0 p8 p9 p7 p3 m)
  (Qj8 G k0 (.bool false) p10 p0 p8 p9 p7 p3 m)
def Q1s (G:Gt):Nat → V → V → V → V → V → V → M → R
 | 0,_,_,_,_,_,_,_=>none
 | i + 1,p10,p0,p8,p9,p7,p3,m=>
  bp (pur (lenK 0 p0 m) m) fun x25 m=>
  bp (pur (bin .leq false true .int p10 x25) m) fun x26 m=>
  brb x26
  (Qxi G (Q1s G i) p10 p0 p8 p9 p7 p3 m)
  (Qxh G p7 p3 m)
def Qxj (G:Gt)(p10 p0 p8 p9 p7 p3:V)(m:M):R:=
  Q1s G G.rds p10 p0 p8 p9 p7 p3 m
def Qxk (G:Gt)(p0 p8 p9 p7 p3:V)(m:M):R:=
  Qxj G (.int .i64 0) p0 p8 p9 p7 p3 m
def Qxl (G:Gt)(p0 p8 p7 p3:V)(m:M):R:=
  Qxk G p0 p8 (.int .i64 1) p7 p3 m
def Qxm (G:Gt)(p0 p7 p3:V)(m:M):R:=
  Qxl G p0 (.int .i64 0) p7 p3 m
def Qxn (G:Gt)(p0 p3:V)(m:M):R:=
  Qxm G p0 (.slice none 0 0) p3 m
def Qxo (G:Gt)(p6 p5 p3 p0:V)(m:M):R:=
  bp (pur (bin .neq true true .int p6 (.int .i64 0)) m) fun x27 m=>
  brb x27
  (bp (pur (aLoad true 2 p5 m) m) fun x28 m=>
  bp (unt (aStore 2 p3 x28 m)) fun _ m=>
  ob (ob (ob (aLoad true 2 p3 m) fun v=>ob (some [p6]) fun l=>some (v :: l)) fun l=>some ((.slice none 0 0) :: l)) fun l=>some (resVal l,m))
  (Qxn G p0 p3 m)
def Qxp (G:Gt)(p0 p3:V)(m:M):R:=
  bp (G.tab Q12r [p0] m) fun x29 m=>
  bp (pur (aExtract x29 0) m) fun x30 m=>
  bp (pur (aExtract x29 1) m) fun x31 m=>
  bp (some (aNew Qo0 Q65 m)) fun x32 m=>
  bp (unt (aStore 2 x32 x30 m)) fun _ m=>
  Qxo G x31 x32 p3 p0 m
def Qoy (G:Gt)(p0:V)(m:M):R:=
  bp (some (aNew Qo0 Q65 m)) fun x33 m=>
  Qxp G p0 x33 m
theorem Q1fq (G:Gt)(a0:V)(m:M):ef G Tryz.f42 [a0] m = Qoy G a0 m:=
  evFn_of (r:=fun r m=>Qoy G (r 0) m) rfl rfl (tr (seqQ (f:=fun r m=>Qxp G (r 0) (r 3) m) (tr (seqQ (f:=fun r m=>Qxo G (r 6) (r 5) (r 3) (r 0) m) (tr (seqQ (f:=fun r m=>Qxn G (r 0) (r 3) m) (tr (seqQ (f:=fun r m=>Qxm G (r 0) (r 7) (r 3) m) (tr (seqQ (f:=fun r m=>Qxl G (r 0) (r 8) (r 7) (r 3) m) (tr (seqQ (f:=fun r m=>Qxk G (r 0) (r 8) (r 9) (r 7) (r 3) m) (tr (tr (seqQ (f:=fun r m=>Qxh G (r 7) (r 3) m) (fun r m=>by kernel_rfl)) (seqQ (f:=fun r m=>Qxj G (r 10) (r 0) (r 8) (r 9) (r 7) (r 3) m) (tr (blockQ (loopQ (fun i r m=>Q1s G i (r 10) (r 0) (r 8) (r 9) (r 7) (r 3) m) (fun _ _=>rfl) (fun i0=>tr (seqQ (f:=fun r m=>Qxi G (Q1s G i0) (r 10) (r 0) (r 8) (r 9) (r 7) (r 3) m) (tr (tr (seqQ (f:=fun r m=>Qj5 G (Q1s G i0) (r 10) (r 0) (r 8) (r 9) (r 7) (r 3) m) (fun r m=>by kernel_rfl)) (blockQ (tr (seqQ (f:=fun r m=>Qvg G (Q1s G i0) (r 0) (r 8) (r 10) (r 9) (r 7) (r 3) m) (tr (seqQ (f:=fun r m=>Qvf G (Q1s G i0) (r 11) (r 7) (r 10) (r 9) (r 0) (r 3) m) (tr (tr (seqQ (f:=fun r m=>Qj6 G (Q1s G i0) (r 10) (r 9) (r 0) (r 7) (r 3) m) (fun r m=>by kernel_rfl)) (seqQ (f:=fun r m=>Qj7 G (Q1s G i0) (r 55) (r 7) (r 11) (r 10) (r 9) (r 0) (r 3) m) (fun r m=>by kernel_rfl))) (fun r m=>by kernel_rfl))) (fun r m=>by kernel_rfl))) (seqQ (f:=fun r m=>Qj8 G (Q1s G i0) (r 36) (r 10) (r 0) (r 8) (r 9) (r 7) (r 3) m) (fun r m=>by kernel_rfl))))) (fun r m=>by kernel_rfl))) (fun r m=>by kernel_rfl)))) (fun r m=>by kernel_rfl)))) (fun r m=>by kernel_rfl))) (fun r m=>by kernel_rfl))) (fun r m=>by kernel_rfl))) (fun r m=>by kernel_rfl))) (fun r m=>by kernel_rfl))) (fun r m=>by kernel_rfl))) (fun r m=>by kernel_rfl)) m
def Q1fm:En:=⟨Q12s,Tryz.f42,Tryz.func42,by kernel_rfl,arg1 Qoy,okarg1 Q1fq⟩
def Qan (G:Gt)(p1 p0:V)(m:M):R:=
  bp (G.tab Q3m [p1] m) fun x0 m=>
  bp (pur (bin .eql true true .str x0 (.string ⟨#[104,111,115,116,110,97,109,101]⟩)) m) fun x1 m=>
  brb x1
  (bp (G.tab Q2g [p1] m) fun x2 m=>
  bp (pur (aNilCheck p0) m) fun x3 m=>
  bp (pur (aFieldAddr 0 x3) m) fun x4 m=>
  bp (pur (aFieldAddr 0 x4) m) fun x5 m=>
  bp (unt (aStore 1 x5 x2 m)) fun _ m=>
  bp (G.tab Q54 [p0,(.string ⟨#[104,111,115,116,110,97,109,101]⟩)] m) fun x6 m=>
  some (.tuple ⟨[]⟩,m))
  (bp (pur (bin .eql true true .str x0 (.string ⟨#[118,114,102]⟩)) m) fun x7 m=>
  brb x7
  (bp (G.tab Q2g [p1] m) fun x8 m=>
  bp (pur (bin .add true true .str (.string ⟨#[118,114,102,32]⟩) x8) m) fun x9 m=>
  bp (G.tab Q54 [p0,x9] m) fun x10 m=>
  bp (pur (aNilCheck p0) m) fun x11 m=>
  bp (pur (aFieldAddr 0 x11) m) fun x12 m=>
  bp (pur (aFieldAddr 2 x12) m) fun x13 m=>
  bp (pur (aLoad false 1 x13 m) m) fun x14 m=>
  bp (aBuildSlice Qts [(.string ⟨#[]⟩)] 1 1 [(0,x8)] m) fun x15 m=>
  bp (apS Qts 1 16 x14 x15 m) fun x16 m=>
  bp (pur (aNilCheck p0) m) fun x17 m=>
  bp (pur (aFieldAddr 0 x17) m) fun x18 m=>
  bp (pur (aFieldAddr 2 x18) m) fun x19 m=>
  bp (unt (aStore 1 x19 x16 m)) fun _ m=>
  some (.tuple ⟨[]⟩,m))
  (bp (pur (bin .eql true true .str x0 (.string ⟨#[105,110,116,101,114,102,97,99,101]⟩)) m) fun x20 m=>
  brb x20
  (bp (G.tab Q2g [p1] m) fun x21 m=>
  bp (pur (bin .add true true .str (.string ⟨#[105,110,116,101,114,102,97,99,101,32]⟩) x21) m) fun x22 m=>
  bp (G.tab Q7p [p0,(.string ⟨#[105,110,116,101,114,102,97,99,101]⟩),x22] m) fun x23 m=>
  bp (pur (aNilCheck p0) m) fun x24 m=>
  bp (pur (aFieldAddr 0 x24) m) fun x25 m=>
  bp (pur (aFieldAddr 3 x25) m) fun x26 m=>
  bp (pur (aLoad false 1 x26 m) m) fun x27 m=>
  bp (pur (aBuild Q7y [(0,1),(1,1),(2,1),(3,1),(4,1),(5,1),(6,1),(7,1),(8,1),(9,1),(10,1)] [(0,x21),(8,(.int .i64 (-1))),(9,(.int .i64 10))]) m) fun x28 m=>
  bp (aBuildSlice Q1r Q7y 11 1 [(0,x28)] m) fun x29 m=>
  bp (apS Q1r 11 120 x27 x29 m) fun x30 m=>
  bp (pur (aNilCheck p0) m) fun x31 m=>
  bp (pur (aFieldAddr 0 x31) m) fun x32 m=>
  bp (pur (aFieldAddr 3 x32) m) fun x33 m=>
  bp (unt (aStore 1 x33 x30 m)) fun _ m=>
  some (.tuple ⟨[]⟩,m))
  (bp (pur (bin .eql true true .str x0 (.string ⟨#[105,112]⟩)) m) fun x34 m=>
  brb x34
  (bp (G.tab Q1a3 [p0,p1] m) fun x35 m=>
  some (.tuple ⟨[]⟩,m))
  (bp (pur (bin .eql true true .str x0 (.string ⟨#[114,111,117,116,101,45,109,97,112]⟩)) m) fun x36 m=>
  brb x36
  (bp (G.tab Q2g [p1] m) fun x37 m=>
  bp (G.tab Q35 [p1,(.string ⟨#[112,101,114,109,105,116]⟩),(.string ⟨#[100,101,110,121]⟩),(.string ⟨#[110,101,120,116]⟩)] m) fun x38 m=>
  bp (G.tab Q7q [p1,(.int .i64 1),(.int .i64 65535)] m) fun x39 m=>
  bp (G.tab Q15d [p0,x37,x38,x39] m) fun x40 m=>
  some (.tuple ⟨[]⟩,m))
  (bp (pur (bin .eql true true .str x0 (.string ⟨#[114,111,117,116,101,114]⟩)) m) fun x41 m=>
  brb x41
  (bp (G.tab Q35 [p1,(.string ⟨#[111,115,112,102]⟩),(.string ⟨#[98,103,112]⟩),(.string ⟨#[98,103,112]⟩)] m) fun x42 m=>
  bp (pur (bin .eql true true .str x42 (.string ⟨#[111,115,112,102]⟩)) m) fun x43 m=>
  brb x43
  (bp (G.tab Qtt [p1] m) fun x44 m=>
  bp (pur (bin .add true true .str (.string ⟨#[111,115,112,102,32]⟩) x44) m) fun x45 m=>
  bp (G.tab Q7p [p0,(.string ⟨#[111,115,112,102]⟩),x45] m) fun x46 m=>
  bp (pur (aNilCheck p0) m) fun x47 m=>
  bp (pur (aFieldAddr 0 x47) m) fun x48 m=>
  bp (pur (aFieldAddr 10 x48) m) fun x49 m=>
  bp (pur (aLoad false 1 x49 m) m) fun x50 m=>
  bp (pur (aBuild Q12t [(0,1),(1,1),(2,1)] [(0,x44)]) m) fun x51 m=>
  bp (aBuildSlice Qv0 Q12t 3 1 [(0,x51)] m) fun x52 m=>
  bp (apS Qv0 3 48 x50 x52 m) fun x53 m=>
  bp (pur (aNilCheck p0) m) fun x54 m=>
  bp (pur (aFieldAddr 0 x54) m) fun x55 m=>
  bp (pur (aFieldAddr 10 x55) m) fun x56 m=>
  bp (unt (aStore 1 x56 x53 m)) fun _ m=>
  some (.tuple ⟨[]⟩,m))
  (bp (G.tab Q7q [p1,(.int .i64 1),(.int .i64 4294967295)] m) fun x57 m=>
  bp (G.tab Qtt [p1] m) fun x58 m=>
  bp (pur (bin .add true true .str (.string ⟨#[98,103,112,32]⟩) x58) m) fun x59 m=>
  bp (G.tab Q7p [p0,(.string ⟨#[98,103,112]⟩),x59] m) fun x60 m=>
  bp (pur (aNilCheck p0) m) fun x61 m=>
  bp (pur (aFieldAddr 0 x61) m) fun x62 m=>
  bp (pur (aFieldAddr 11 x62) m) fun x63 m=>
  bp (pur (aLoad false 1 x63 m) m) fun x64 m=>
  bp (conv (.int .u32) x57 m) fun x65 m=>
  bp (pur (aBuild Q10t [(0,1),(1,1),(2,1),(3,1),(4,1),(5,1)] [(0,x58),(1,x65)]) m) fun x66 m=>
  bp (aBuildSlice Qtu Q10t 6 1 [(0,x66)] m) fun x67 m=>
  bp (apS Qtu 6 96 x64 x67 m) fun x68 m=>
  bp (pur (aNilCheck p0) m) fun x69 m=>
  bp (pur (aFieldAddr 0 x69) m) fun x70 m=>
  bp (pur (aFieldAddr 11 x70) m) fun x71 m=>
  bp (unt (aStore 1 x71 x68 m)) fun _ m=>
  some (.tuple ⟨[]⟩,m)))
  (bp (G.tab Q36 [p1,(.int .i64 130)] m) fun x72 m=>
  some (.tuple ⟨[]⟩,m)))))))
theorem Q120 (G:Gt)(a0 a1:V)(m:M):ef G Tryz.f43 [a0,a1] m = Qan G a1 a0 m:=
  evFn_of (r:=fun r m=>Qan G (r 1) (r 0) m) rfl rfl (fun r m=>by kernel_rfl) m
def Q11w:En:=⟨Qis,Tryz.f43,Tryz.func43,by kernel_rfl,arg2 (fun G a0 a1 m=>Qan G a1 a0 m),okarg2 Q120⟩
def Qda (G:Gt)(p0 p1:V)(m:M):R:=
  bp (pur (aNilCheck p0) m) fun x0 m=>
  bp (pur (aFieldAddr 12 x0) m) fun x1 m=>
  bp (pur (aLoad false 1 x1 m) m) fun x2 m=>
  bp (pur (bin .eql true true .str x2 (.string ⟨#[105,110,116,101,114,102,97,99,101]⟩)) m) fun x3 m=>
  brb x3
  (bp (pur (aNilCheck p0) m) fun x4 m=>
  bp (pur (aFieldAddr 0 x4) m) fun x5 m=>
  bp (pur (aFieldAddr 3 x5) m) fun x6 m=>
  bp (pur (aLoad false 1 x6 m) m) fun x7 m=>
  bp (pur (aNilCheck p0) m) fun x8 m=>
  bp (pur (aFieldAddr 0 x8) m) fun x9 m=>
  bp (pur (aFieldAddr 3 x9) m) fun x10 m=>
  bp (pur (aLoad false 1 x10 m) m) fun x11 m=>
  bp (pur (lenK 1 x11 m) m) fun x12 m=>
  bp (pur (bin .sub true true .int x12 (.int .i64 1)) m) fun x13 m=>
  bp (pur (aIndexAddrSl 11 x7 x13) m) fun x14 m=>
  bp (G.tab Qo1 [p0,p1,x14] m) fun x15 m=>
  some (.tuple ⟨[]⟩,m))
  (bp (pur (bin .eql true true .str x2 (.string ⟨#[102,105,108,116,101,114]⟩)) m) fun x16 m=>
  brb x16
  (bp (pur (aNilCheck p0) m) fun x17 m=>
  bp (pur (aFieldAddr 0 x17) m) fun x18 m=>
  bp (pur (aFieldAddr 4 x18) m) fun x19 m=>
  bp (pur (aLoad false 1 x19 m) m) fun x20 m=>
  bp (pur (aNilCheck p0) m) fun x21 m=>
  bp (pur (aFieldAddr 0 x21) m) fun x22 m=>
  bp (pur (aFieldAddr 4 x22) m) fun x23 m=>
  bp (pur (aLoad false 1 x23 m) m) fun x24 m=>
  bp (pur (lenK 1 x24 m) m) fun x25 m=>
  bp (pur (bin .sub true true .int x25 (.int .i64 1)) m) fun x26 m=>
  bp (pur (aIndexAddrSl 2 x20 x26) m) fun x27 m=>
  bp (G.tab Q17p [p0,p1,x27] m) fun x28 m=>
  some (.tuple ⟨[]⟩,m))
  (bp (pur (bin .eql true true .str x2 (.string ⟨#[114,111,117,116,101,45,109,97,112]⟩)) m) fun x29 m=>
  brb x29
  (bp (pur (aNilCheck p0) m) fun x30 m=>
  bp (pur (aFieldAddr 0 x30) m) fun x31 m=>
  bp (pur (aFieldAddr 9 x31) m) fun x32 m=>
  bp (pur (aLoad false 1 x32 m) m) fun x33 m=>
  bp (pur (aNilCheck p0) m) fun x34 m=>
  bp (pur (aFieldAddr 14 x34) m) fun x35 m=>
  bp (pur (aLoad false 1 x35 m) m) fun x36 m=>
  bp (pur (aIndexAddrSl 3 x33 x36) m) fun x37 m=>
  bp (pur (aFieldAddr 1 x37) m) fun x38 m=>
  bp (pur (aLoad false 1 x38 m) m) fun x39 m=>
  bp (pur (lenK 1 x39 m) m) fun x40 m=>
  bp (pur (bin .sub true true .int x40 (.int .i64 1)) m) fun x41 m=>
  bp (pur (aIndexAddrSl 15 x39 x41) m) fun x42 m=>
  bp (G.tab Q198 [p0,p1,x42] m) fun x43 m=>
  some (.tuple ⟨[]⟩,m))
  (bp (pur (bin .eql true true .str x2 (.string ⟨#[111,115,112,102]⟩)) m) fun x44 m=>
  brb x44
  (bp (pur (aNilCheck p0) m) fun x45 m=>
  bp (pur (aFieldAddr 0 x45) m) fun x46 m=>
  bp (pur (aFieldAddr 10 x46) m) fun x47 m=>
  bp (pur (aLoad false 1 x47 m) m) fun x48 m=>
  bp (pur (aNilCheck p0) m) fun x49 m=>
  bp (pur (aFieldAddr 0 x49) m) fun x50 m=>
  bp (pur (aFieldAddr 10 x50) m) fun x51 m=>
  bp (pur (aLoad false 1 x51 m) m) fun x52 m=>
  bp (pur (lenK 1 x52 m) m) fun x53 m=>
  bp (pur (bin .sub true true .int x53 (.int .i64 1)) m) fun x54 m=>
  bp (pur (aIndexAddrSl 3 x48 x54) m) fun x55 m=>
  bp (G.tab Q35 [p1,(.string ⟨#[114,111,117,116,101,114,45,105,100]⟩),(.string ⟨#[114,101,100,105,115,116,114,105,98,117,116,101]⟩),(.string ⟨#[114,101,100,105,115,116,114,105,98,117,116,101]⟩)] m) fun x56 m=>
  bp (pur (bin .eql true true .str x56 (.string ⟨#[114,111,117,116,101,114,45,105,100]⟩)) m) fun x57 m=>
  brb x57
  (bp (G.tab Q71 [p1] m) fun x58 m=>
  bp (pur (aNilCheck x55) m) fun x59 m=>
  bp (pur (aFieldAddr 1 x59) m) fun x60 m=>
  bp (unt (aStore 1 x60 x58 m)) fun _ m=>
  bp (G.tab Qcc [p0,(.string ⟨#[114,111,117,116,101,114,45,105,100]⟩)] m) fun x61 m=>
  some (.tuple ⟨[]⟩,m))
  (bp (pur (aNilCheck x55) m) fun x62 m=>
  bp (pur (aFieldAddr 2 x62) m) fun x63 m=>
  bp (pur (aLoad false 1 x63 m) m) fun x64 m=>
  bp (G.tab Q16m [p1,(.string ⟨#[98,103,112]⟩),(.int .u8 8)] m) fun x65 m=>
  ckB (again (pur (aLoad false 1 x63 m) m) x64 && true)
  (bp (aBuildSlice Q1jl Q1sf 4 1 [(0,x65)] m) fun x66 m=>
  bp (apS Q1jl 4 40 x64 x66 m) fun x67 m=>
  bp (pur (aNilCheck x55) m) fun x68 m=>
  bp (pur (aFieldAddr 2 x68) m) fun x69 m=>
  bp (unt (aStore 1 x69 x67 m)) fun _ m=>
  some (.tuple ⟨[]⟩,m))))
  (bp (pur (bin .eql true true .str x2 (.string ⟨#[98,103,112]⟩)) m) fun x70 m=>
  brb x70
  (bp (pur (aNilCheck p0) m) fun x71 m=>
  bp (pur (aFieldAddr 0 x71) m) fun x72 m=>
  bp (pur (aFieldAddr 11 x72) m) fun x73 m=>
  bp (pur (aLoad false 1 x73 m) m) fun x74 m=>
  bp (pur (aNilCheck p0) m) fun x75 m=>
  bp (pur (aFieldAddr 0 x75) m) fun x76 m=>
  bp (pur (aFieldAddr 11 x76) m) fun x77 m=>
  bp (pur (aLoad false 1 x77 m) m) fun x78 m=>
  bp (pur (lenK 1 x78 m) m) fun x79 m=>
  bp (pur (bin .sub true true .int x79 (.int .i64 1)) m) fun x80 m=>
  bp (pur (aIndexAddrSl 6 x74 x80) m) fun x81 m=>
  bp (G.tab Q199 [p0,p1,x81] m) fun x82 m=>
  some (.tuple ⟨[]⟩,m))
  (some (.tuple ⟨[]⟩,m))))))
theorem Q16n (G:Gt)(a0 a1:V)(m:M):ef G Tryz.f44 [a0,a1] m = Qda G a0 a1 m:=
  evFn_of (r:=fun r m=>Qda G (r 0) (r 1) m) rfl rfl (fun r m=>by kernel_rfl) m
def Q16g:En:=⟨Qo2,Tryz.f44,Tryz.func44,by kernel_rfl,arg2 Qda,okarg2 Q16n⟩
def Qdb (G:Gt)(p2:V)(m:M):R:=
  some (p2,m)
def Qo3 (G:Gt)(p0:V)(m:M):R:=
  bp (pur (aNilCheck p0) m) fun x0 m=>
  bp (pur (aFieldAddr 4 x0) m) fun x1 m=>
  bp (pur (aLoad false 1 x1 m) m) fun x2 m=>
  bp (pur (bin .eql true true .int x2 (.int .i64 0)) m) fun x3 m=>
  brt x3
  (bp (pur (aNilCheck p0) m) fun x4 m=>
  bp (pur (aFieldAddr 1 x4) m) fun x5 m=>
  bp (pur (aLoad false 1 x5 m) m) fun x6 m=>
  bp (pur (aNilCheck p0) m) fun x7 m=>
  bp (pur (aFieldAddr 0 x7) m) fun x8 m=>
  bp (pur (aLoad false 1 x8 m) m) fun x9 m=>
  bp (pur (lenK 1 x9 m) m) fun x10 m=>
  bp (pur (bin .lss false true .int x6 x10) m) fun x11 m=>
  Qdb G x11 m)
  (Qdb G (.bool false) m)
  (none)
def Qgh (G:Gt)(p0:V)(m:M):R:=
  Qo3 G p0 m
theorem Q19a (G:Gt)(a0:V)(m:M):ef G Tryz.f45 [a0] m = Qgh G a0 m:=
  evFn_of (r:=fun r m=>Qgh G (r 0) m) rfl rfl (tr (seqQ (f:=fun r m=>Qo3 G (r 0) m) (tr (seqQ (f:=fun r m=>Qdb G (r 2) m) (fun r m=>by kernel_rfl)) (fun r m=>by kernel_rfl))) (fun r m=>by kernel_rfl)) m
def Q191:En:=⟨Qsp,Tryz.f45,Tryz.func45,by kernel_rfl,arg1 Qgh,okarg1 Q19a⟩
def Qgi (G:Gt)(p0:V)(m:M):R:=
  bp (pur (aNilCheck p0) m) fun x0 m=>
  bp (pur (aFieldAddr 4 x0) m) fun x1 m=>
  bp (pur (aLoad false 1 x1 m) m) fun x2 m=>
  bp (pur (bin .neq true true .int x2 (.int .i64 0)) m) fun x3 m=>
  brb x3
  (some ((.string ⟨#[]⟩),m))
  (bp (pur (aNilCheck p0) m) fun x4 m=>
  bp (pur (aFieldAddr 1 x4) m) fun x5 m=>
  bp (pur (aLoad false 1 x5 m) m) fun x6 m=>
  bp (pur (aNilCheck p0) m) fun x7 m=>
  bp (pur (aFieldAddr 0 x7) m) fun x8 m=>
  bp (pur (aLoad false 1 x8 m) m) fun x9 m=>
  bp (pur (lenK 1 x9 m) m) fun x10 m=>
  bp (pur (bin .eql false true .int x6 x10) m) fun x11 m=>
  brb x11
  (bp (pur (aNilCheck p0) m) fun x12 m=>
  bp (pur (aFieldAddr 0 x12) m) fun x13 m=>
  bp (pur (aLoad false 1 x13 m) m) fun x14 m=>
  bp (pur (aNilCheck p0) m) fun x15 m=>
  bp (pur (aFieldAddr 0 x15) m) fun x16 m=>
  bp (pur (aLoad false 1 x16 m) m) fun x17 m=>
  bp (pur (lenK 1 x17 m) m) fun x18 m=>
  bp (pur (bin .sub true true .int x18 (.int .i64 1)) m) fun x19 m=>
  bp (pur (aIndexAddrSl 3 x14 x19) m) fun x20 m=>
  bp (pur (aLoad true 3 x20 m) m) fun x21 m=>
  bp (some (aNew Qqr Qqs m)) fun x22 m=>
  bp (unt (aStore 3 x22 x21 m)) fun _ m=>
  bp (pur (aNilCheck p0) m) fun x23 m=>
  bp (pur (aFieldAddr 4 x23) m) fun x24 m=>
  bp (unt (aStore 1 x24 (.int .i64 130) m)) fun _ m=>
  bp (pur (aFieldAddr 1 x22) m) fun x25 m=>
  bp (pur (aFieldAddr 0 x25) m) fun x26 m=>
  bp (pur (aLoad false 1 x26 m) m) fun x27 m=>
  bp (pur (aFieldAddr 1 x22) m) fun x28 m=>
  bp (pur (aFieldAddr 1 x28) m) fun x29 m=>
  bp (pur (aLoad false 1 x29 m) m) fun x30 m=>
  bp (pur (aFieldAddr 0 x22) m) fun x31 m=>
  bp (pur (aLoad false 1 x31 m) m) fun x32 m=>
  bp (pur (lenK 0 x32 m) m) fun x33 m=>
  bp (pur (bin .add false true .int x30 x33) m) fun x34 m=>
  bp (pur (aBuild Q65 [(0,1),(1,1)] [(0,x27),(1,x34)]) m) fun x35 m=>
  bp (pur (aNilCheck p0) m) fun x36 m=>
  bp (pur (aFieldAddr 2 x36) m) fun x37 m=>
  bp (unt (aStore 2 x37 x35 m)) fun _ m=>
  some ((.string ⟨#[]⟩),m))
  (bp (pur (aNilCheck p0) m) fun x38 m=>
  bp (pur (aFieldAddr 1 x38) m) fun x39 m=>
  bp (pur (aLoad false 1 x39 m) m) fun x40 m=>
  bp (pur (bin .add true true .int x40 (.int .i64 1)) m) fun x41 m=>
  bp (pur (aNilCheck p0) m) fun x42 m=>
  bp (pur (aFieldAddr 1 x42) m) fun x43 m=>
  bp (unt (aStore 1 x43 x41 m)) fun _ m=>
  bp (pur (aNilCheck p0) m) fun x44 m=>
  bp (pur (aFieldAddr 0 x44) m) fun x45 m=>
  bp (pur (aLoad false 1 x45 m) m) fun x46 m=>
  bp (pur (aNilCheck p0) m) fun x47 m=>
  bp (pur (aFieldAddr 1 x47) m) fun x48 m=>
  bp (pur (aLoad false 1 x48 m) m) fun x49 m=>
  bp (pur (bin .sub true true .int x49 (.int .i64 1)) m) fun x50 m=>
  bp (pur (aIndexAddrSl 3 x46 x50) m) fun x51 m=>
  bp (pur (aFieldAddr 0 x51) m) fun x52 m=>
  bp (pur (aLoad false 1 x52 m) m) fun x53 m=>
  some (x53,m)))
theorem Q19b (G:Gt)(a0:V)(m:M):ef G Tryz.f46 [a0] m = Qgi G a0 m:=
  evFn_of (r:=fun r m=>Qgi G (r 0) m) rfl rfl (fun r m=>by kernel_rfl) m
def Q197:En:=⟨Q3m,Tryz.f46,Tryz.func46,by kernel_rfl,arg1 Qgi,okarg1 Q19b⟩
end
end Go.Ab.Sh
