/-
  Functions of the program as plain definitions. No conditions.
-/
import Derived.Test.YtoahkkdbdiamcaaGreatDoorAb5
import Derived.Test.YtoahkkdbdiamcaaGreatDoorZ
import Derived.KernelRfl
import Derived.Test.YtoahkkdbdiamcaaGreatDoorProg
set_option linter.unusedVariables false
set_option maxRecDepth 100000
namespace Go.Ab.Sh
open Go Go.Ab Go.Proofs
noncomputable section
def Q1b6 (G:Gt)(p6:V)(m:M):R:=
  some (.tuple ⟨[p6,(.int .i64 0)]⟩,m)
def Qvg (G:Gt)(k0:V → V → V → V → M → R)(p7 p3 p0 p6:V)(m:M):R:=
  bp (pur (bin .sub true true .int p7 (.int .i64 1)) m) fun x0 m=>
  k0 x0 p3 p0 p6 m
def Qvh (G:Gt)(k0:V → V → V → V → M → R)(p27 p7 p3 p0 p6:V)(m:M):R:=
  brb p27
  (Qvg G k0 p7 p3 p0 p6 m)
  (bp (pur (aNilCheck p0) m) fun x1 m=>
  bp (pur (aFieldAddr 0 x1) m) fun x2 m=>
  bp (pur (aLoad false 1 x2 m) m) fun x3 m=>
  bp (G.tab Q1jv [p7] m) fun x4 m=>
  ckB (again (pur (aLoad false 1 x2 m) m) x3 && true)
  (bp (G.tab Q7r [x3,x4] m) fun x5 m=>
  bp (pur (aExtract x5 0) m) fun x6 m=>
  bp (pur (aExtract x5 1) m) fun x7 m=>
  bp (pur (bin .neq true true .int x7 (.int .i64 0)) m) fun x8 m=>
  brb x8
  (some (.tuple ⟨[(.int .i64 0),x7]⟩,m))
  (bp (pur (aNilCheck p0) m) fun x9 m=>
  bp (pur (aFieldAddr 0 x9) m) fun x10 m=>
  bp (pur (aLoad false 1 x10 m) m) fun x11 m=>
  bp (G.tab Q1xo [p7] m) fun x12 m=>
  ckB (again (pur (aLoad false 1 x10 m) m) x11 && true)
  (bp (G.tab Q7r [x11,x12] m) fun x13 m=>
  bp (pur (aExtract x13 0) m) fun x14 m=>
  bp (pur (aExtract x13 1) m) fun x15 m=>
  bp (pur (bin .neq true true .int x15 (.int .i64 0)) m) fun x16 m=>
  brb x16
  (some (.tuple ⟨[(.int .i64 0),x15]⟩,m))
  (bp (pur (aNilCheck p0) m) fun x17 m=>
  bp (pur (aFieldAddr 0 x17) m) fun x18 m=>
  bp (pur (aLoad false 1 x18 m) m) fun x19 m=>
  bp (G.tab Q1hv [x19,x6,x14] m) fun x20 m=>
  bp (pur (aExtract x20 0) m) fun x21 m=>
  bp (pur (aExtract x20 1) m) fun x22 m=>
  bp (pur (bin .neq true true .int x22 (.int .i64 0)) m) fun x23 m=>
  brb x23
  (some (.tuple ⟨[(.int .i64 0),x22]⟩,m))
  (bp (pur (aNilCheck p0) m) fun x24 m=>
  bp (pur (aFieldAddr 0 x24) m) fun x25 m=>
  bp (pur (aLoad false 1 x25 m) m) fun x26 m=>
  bp (G.tab Q46 [x26,x21,(.int .i64 0),p6] m) fun x27 m=>
  bp (pur (aExtract x27 0) m) fun x28 m=>
  bp (pur (aExtract x27 1) m) fun x29 m=>
  bp (pur (bin .neq true true .int x29 (.int .i64 0)) m) fun x30 m=>
  brb x30
  (some (.tuple ⟨[(.int .i64 0),x29]⟩,m))
  (Qvg G k0 p7 p3 p0 x28 m)))))))
def Q1b7 (G:Gt)(k0:V → V → V → V → M → R)(p7 p3 p0 p6:V)(m:M):R:=
  bp (pur (aFieldAddr 0 p3) m) fun x31 m=>
  bp (pur (aLoad false 1 x31 m) m) fun x32 m=>
  bp (pur (bin .geq false true .int p7 x32) m) fun x33 m=>
  brb x33
  (bp (pur (aFieldAddr 0 p3) m) fun x34 m=>
  bp (pur (aLoad false 1 x34 m) m) fun x35 m=>
  bp (pur (aFieldAddr 1 p3) m) fun x36 m=>
  bp (pur (aLoad false 1 x36 m) m) fun x37 m=>
  bp (pur (bin .add false true .int x35 x37) m) fun x38 m=>
  bp (pur (bin .lss false true .int p7 x38) m) fun x39 m=>
  Qvh G k0 x39 p7 p3 p0 p6 m)
  (Qvh G k0 (.bool false) p7 p3 p0 p6 m)
def Q9x (G:Gt):Nat → V → V → V → V → M → R
 | 0,_,_,_,_,_=>none
 | i + 1,p7,p3,p0,p6,m=>
  bp (pur (bin .geq true true .int p7 (.int .i64 0)) m) fun x40 m=>
  brb x40
  (Q1b7 G (Q9x G i) p7 p3 p0 p6 m)
  (Q1b6 G p6 m)
def Q1b8 (G:Gt)(p7 p3 p0 p6:V)(m:M):R:=
  Q9x G G.rds p7 p3 p0 p6 m
def Q1b9 (G:Gt)(p3 p0 p6:V)(m:M):R:=
  Q1b8 G (.int .i64 103) p3 p0 p6 m
def Q1ba (G:Gt)(p3 p0:V)(m:M):R:=
  Q1b9 G p3 p0 (.int .i64 1) m
def Q11t (G:Gt)(p1 p0:V)(m:M):R:=
  bp (some (aNew Q1xp (Value.cells p1).toList m)) fun x41 m=>
  Q1ba G x41 p0 m
theorem Q1v0 (G:Gt)(a0 a1:V)(m:M):ef G Tryz.f114 [a0,a1] m = Q11t G a1 a0 m:=
  evFn_of (r:=fun r m=>Q11t G (r 1) (r 0) m) rfl rfl (tr (seqQ (f:=fun r m=>Q1ba G (r 3) (r 0) m) (tr (seqQ (f:=fun r m=>Q1b9 G (r 3) (r 0) (r 6) m) (tr (tr (seqQ (f:=fun r m=>Q1b6 G (r 6) m) (fun r m=>by kernel_rfl)) (seqQ (f:=fun r m=>Q1b8 G (r 7) (r 3) (r 0) (r 6) m) (tr (blockQ (loopQ (fun i r m=>Q9x G i (r 7) (r 3) (r 0) (r 6) m) (fun _ _=>rfl) (fun i0=>tr (seqQ (f:=fun r m=>Q1b7 G (Q9x G i0) (r 7) (r 3) (r 0) (r 6) m) (tr (tr (seqQ (f:=fun r m=>Qvg G (Q9x G i0) (r 7) (r 3) (r 0) (r 6) m) (fun r m=>by kernel_rfl)) (blockQ (tr seqD (seqQ (f:=fun r m=>Qvh G (Q9x G i0) (r 27) (r 7) (r 3) (r 0) (r 6) m) (fun r m=>by kernel_rfl))))) (fun r m=>by kernel_rfl))) (fun r m=>by kernel_rfl)))) (fun r m=>by kernel_rfl)))) (fun r m=>by kernel_rfl))) (fun r m=>by kernel_rfl))) (fun r m=>by kernel_rfl)) m
def Q1ub:En:=⟨Q1fw,Tryz.f114,Tryz.func114,by kernel_rfl,arg2 (fun G a0 a1 m=>Q11t G a1 a0 m),okarg2 Q1v0⟩
def Qhp (G:Gt)(p1 p2 p0:V)(m:M):R:=
  bp (some (aNew Qx (Value.cells p1).toList m)) fun x0 m=>
  bp (pur (bin .eql true true .str p2 (.string ⟨#[]⟩)) m) fun x1 m=>
  brb x1
  (some ((.int .i64 1),m))
  (bp (pur (aFieldAddr 4 x0) m) fun x2 m=>
  bp (pur (aLoad false 1 x2 m) m) fun x3 m=>
  bp (G.tab Q1lv [x3,p2] m) fun x4 m=>
  bp (pur (aExtract x4 0) m) fun x5 m=>
  bp (pur (aExtract x4 1) m) fun x6 m=>
  bp (some (aNew Qpf Qx9 m)) fun x7 m=>
  bp (unt (aStore 2 x7 x5 m)) fun _ m=>
  bp (pur (aNilCheck p0) m) fun x8 m=>
  bp (pur (aFieldAddr 0 x8) m) fun x9 m=>
  bp (pur (aLoad false 1 x9 m) m) fun x10 m=>
  bp (pur (aLoad true 2 x7 m) m) fun x11 m=>
  bp (G.tab Q22c [x10,x11] m) fun x12 m=>
  bp (pur (aExtract x12 0) m) fun x13 m=>
  bp (pur (aExtract x12 1) m) fun x14 m=>
  bp (G.tab Qb [p0,x13,x14] m) fun x15 m=>
  some (x15,m))
theorem Q1dr (G:Gt)(a0 a1 a2:V)(m:M):ef G Tryz.f115 [a0,a1,a2] m = Qhp G a1 a2 a0 m:=
  evFn_of (r:=fun r m=>Qhp G (r 1) (r 2) (r 0) m) rfl rfl (fun r m=>by kernel_rfl) m
def Q1cz:En:=⟨Qgh,Tryz.f115,Tryz.func115,by kernel_rfl,arg3 (fun G a0 a1 a2 m=>Qhp G a1 a2 a0 m),okarg3 Q1dr⟩
def Q15j (G:Gt)(p0 p1:V)(m:M):R:=
  bp (aBuildSlice Qcu [(.int .i64 0)] 1 1 [(0,p1)] m) fun x0 m=>
  bp (G.tab Qjk [p0,x0,(.slice none 0 0)] m) fun x1 m=>
  bp (pur (bin .neq true true .int x1 (.int .i64 0)) m) fun x2 m=>
  brb x2
  (some (.tuple ⟨[(.int .i64 0),x1]⟩,m))
  (bp (pur (aNilCheck p0) m) fun x3 m=>
  bp (pur (aFieldAddr 0 x3) m) fun x4 m=>
  bp (pur (aLoad false 1 x4 m) m) fun x5 m=>
  bp (G.tab Q15c [x5,p1] m) fun x6 m=>
  bp (pur (aExtract x6 0) m) fun x7 m=>
  bp (pur (aExtract x6 1) m) fun x8 m=>
  some (.tuple ⟨[x7,x8]⟩,m))
theorem Q1wo (G:Gt)(a0 a1:V)(m:M):ef G Tryz.f116 [a0,a1] m = Q15j G a0 a1 m:=
  evFn_of (r:=fun r m=>Q15j G (r 0) (r 1) m) rfl rfl (fun r m=>by kernel_rfl) m
def Q1vw:En:=⟨Qse,Tryz.f116,Tryz.func116,by kernel_rfl,arg2 Q15j,okarg2 Q1wo⟩
def Qoe (G:Gt)(p1 p2 p0 p3:V)(m:M):R:=
  bp (some (aNew Qx (Value.cells p1).toList m)) fun x0 m=>
  bp (pur (un .not p2) m) fun x1 m=>
  brb x1
  (bp (pur (aNilCheck p0) m) fun x2 m=>
  bp (pur (aFieldAddr 3 x2) m) fun x3 m=>
  bp (pur (aLoad false 1 x3 m) m) fun x4 m=>
  some (x4,m))
  (bp (pur (aNilCheck p0) m) fun x5 m=>
  bp (pur (aFieldAddr 0 x5) m) fun x6 m=>
  bp (pur (aLoad false 1 x6 m) m) fun x7 m=>
  bp (pur (aFieldAddr 5 x0) m) fun x8 m=>
  bp (pur (aLoad false 1 x8 m) m) fun x9 m=>
  bp (pur (aFieldAddr 4 x0) m) fun x10 m=>
  bp (pur (aLoad false 1 x10 m) m) fun x11 m=>
  bp (G.tab Q1t3 [x7,x9,x11,p3] m) fun x12 m=>
  bp (pur (aExtract x12 0) m) fun x13 m=>
  bp (pur (aExtract x12 1) m) fun x14 m=>
  bp (G.tab Qb [p0,x13,x14] m) fun x15 m=>
  some (x15,m))
theorem Q1ky (G:Gt)(a0 a1 a2 a3:V)(m:M):ef G Tryz.f117 [a0,a1,a2,a3] m = Qoe G a1 a2 a0 a3 m:=
  evFn_of (r:=fun r m=>Qoe G (r 1) (r 2) (r 0) (r 3) m) rfl rfl (fun r m=>by kernel_rfl) m
def Q1ke:En:=⟨Qg2,Tryz.f117,Tryz.func117,by kernel_rfl,arg4 (fun G a0 a1 a2 a3 m=>Qoe G a1 a2 a0 a3 m),okarg4 Q1ky⟩
def Qlj (G:Gt)(p1 p0 p2 p3:V)(m:M):R:=
  bp (some (aNew Q8s (Value.cells p1).toList m)) fun x0 m=>
  bp (pur (aLoad false 1 p2 m) m) fun x1 m=>
  bp (pur (aLoad false 1 p2 m) m) fun x2 m=>
  bp (pur (aNilCheck x2) m) fun x3 m=>
  bp (pur (aFieldAddr 0 x3) m) fun x4 m=>
  bp (pur (aLoad false 1 x4 m) m) fun x5 m=>
  bp (pur (aFieldAddr 0 p3) m) fun x6 m=>
  bp (pur (aIndexAddrArr 8 1 x6 p0) m) fun x7 m=>
  bp (pur (aLoad false 1 x7 m) m) fun x8 m=>
  bp (pur (aLoad false 1 p2 m) m) fun x9 m=>
  bp (pur (aLoad true 5 x0 m) m) fun x10 m=>
  bp (pur (aFieldAddr 0 p3) m) fun x11 m=>
  bp (G.tab Qg1 [x9,x10,(.int .i64 1)] m) fun x12 m=>
  ckB (again (pur (aLoad false 1 p2 m) m) x1 && (again (pur (aLoad false 1 p2 m) m) x2 && (again (pur (aLoad false 1 x4 m) m) x5 && (again (pur (aLoad false 1 x7 m) m) x8 && true))))
  (bp (G.tab Qnh [x5,x8,x12] m) fun x13 m=>
  ckB (again (pur (aLoad false 1 p2 m) m) x1 && true)
  (bp (pur (aExtract x13 0) m) fun x14 m=>
  bp (pur (aExtract x13 1) m) fun x15 m=>
  bp (G.tab Qb [x1,x14,x15] m) fun x16 m=>
  bp (pur (aIndexAddrArr 8 1 x11 p0) m) fun x17 m=>
  bp (unt (aStore 1 x17 x16 m)) fun _ m=>
  some (.tuple ⟨[]⟩,m)))
theorem Q1i6 (G:Gt)(a0 a1 a2 a3:V)(m:M):ef G Tryz.f118 [a0,a1,a2,a3] m = Qlj G a1 a0 a2 a3 m:=
  evFn_of (r:=fun r m=>Qlj G (r 1) (r 0) (r 2) (r 3) m) rfl rfl (fun r m=>by kernel_rfl) m
def Q1hh:En:=⟨Qxs,Tryz.f118,Tryz.func118,by kernel_rfl,arg4 (fun G a0 a1 a2 a3 m=>Qlj G a1 a0 a2 a3 m),okarg4 Q1i6⟩
def Qlk (G:Gt)(p2 p0 p3 p4 p1 p5:V)(m:M):R:=
  bp (pur (aLoad false 1 p2 m) m) fun x0 m=>
  bp (pur (aLoad false 1 p3 m) m) fun x1 m=>
  bp (pur (aLoad false 1 p4 m) m) fun x2 m=>
  bp (pur (aLoad false 1 p5 m) m) fun x3 m=>
  bp (pur (aNilCheck x3) m) fun x4 m=>
  bp (pur (aFieldAddr 3 x4) m) fun x5 m=>
  bp (pur (aLoad false 1 x5 m) m) fun x6 m=>
  bp (pur (aBuild Qkk [(0,1),(1,1),(2,1),(3,1),(4,1)] [(0,x1),(1,x2),(2,p1),(3,x6),(4,(.int .i64 1))]) m) fun x7 m=>
  bp (evCall G.tab x0 [p0,x7] m) fun x8 m=>
  some (.tuple ⟨[]⟩,m)
theorem Q1i7 (G:Gt)(a0 a1 a2 a3 a4 a5:V)(m:M):ef G Tryz.f119 [a0,a1,a2,a3,a4,a5] m = Qlk G a2 a0 a3 a4 a1 a5 m:=
  evFn_of (r:=fun r m=>Qlk G (r 2) (r 0) (r 3) (r 4) (r 1) (r 5) m) rfl rfl (fun r m=>by kernel_rfl) m
def Q1hb:En:=⟨Qxq,Tryz.f119,Tryz.func119,by kernel_rfl,arg6 (fun G a0 a1 a2 a3 a4 a5 m=>Qlk G a2 a0 a3 a4 a1 a5 m),okarg6 Q1i7⟩
def Qq6 (G:Gt)(p0 p1:V)(m:M):R:=
  bp (pur (aNilCheck p0) m) fun x0 m=>
  bp (pur (aFieldAddr 0 x0) m) fun x1 m=>
  bp (pur (aLoad false 1 x1 m) m) fun x2 m=>
  bp (pur (aBuild Q2d [(0,1),(1,1)] [(0,p1),(1,(.int .i64 32))]) m) fun x3 m=>
  bp (G.tab Quq [x2,(.int .i64 1),x3] m) fun x4 m=>
  bp (pur (aExtract x4 0) m) fun x5 m=>
  bp (pur (aExtract x4 1) m) fun x6 m=>
  bp (G.tab Qb [p0,x5,x6] m) fun x7 m=>
  some (x7,m)
theorem Q1mb (G:Gt)(a0 a1:V)(m:M):ef G Tryz.f120 [a0,a1] m = Qq6 G a0 a1 m:=
  evFn_of (r:=fun r m=>Qq6 G (r 0) (r 1) m) rfl rfl (fun r m=>by kernel_rfl) m
def Q1lr:En:=⟨Qpm,Tryz.f120,Tryz.func120,by kernel_rfl,arg2 Qq6,okarg2 Q1mb⟩
def Q170 (G:Gt)(p8:V)(m:M):R:=
  some (.tuple ⟨[p8,(.int .i64 0)]⟩,m)
def Qq7 (G:Gt):Nat → V → V → V → V → M → R
 | 0,_,_,_,_,_=>none
 | i + 1,p29,p28,p27,p8,m=>
  bp (pur (bin .lss false true .int p29 p28) m) fun x0 m=>
  brb x0
  (bp (pur (aIndexAddrSl 4 p27 p29) m) fun x1 m=>
  bp (pur (aLoad true 4 x1 m) m) fun x2 m=>
  bp (some (aNew Q3f Qaf m)) fun x3 m=>
  bp (unt (aStore 4 x3 x2 m)) fun _ m=>
  bp (pur (aLoad true 4 x3 m) m) fun x4 m=>
  bp (G.tab Q1pd [x4] m) fun x5 m=>
  bp (aBuildSlice Q3f Qaf 4 1 [(0,x5)] m) fun x6 m=>
  bp (apS Q3f 4 48 p8 x6 m) fun x7 m=>
  bp (pur (bin .add true true .int p29 (.int .i64 1)) m) fun x8 m=>
  (Qq7 G i) x8 p28 p27 x7 m)
  (Q170 G p8 m)
def Q171 (G:Gt)(p29 p28 p27 p8:V)(m:M):R:=
  Qq7 G G.rds p29 p28 p27 p8 m
def Q172 (G:Gt)(p0 p1 p2 p8:V)(m:M):R:=
  bp (pur (aNilCheck p0) m) fun x9 m=>
  bp (pur (aFieldAddr 2 x9) m) fun x10 m=>
  bp (pur (aLoad false 1 x10 m) m) fun x11 m=>
  bp (pur (aBuild Q1gk [(0,1),(1,1)] [(0,p1),(1,p2)]) m) fun x12 m=>
  bp (pur (aLookup (.struct [(0,1,false,.int),(1,1,false,.str)]) (.slice none 0 0) false x11 x12 m) m) fun x13 m=>
  bp (pur (lenK 1 x13 m) m) fun x14 m=>
  Q171 G (.int .i64 0) x14 x13 p8 m
def Q173 (G:Gt)(p0 p1 p2:V)(m:M):R:=
  Q172 G p0 p1 p2 (.slice none 0 0) m
def Q174 (G:Gt)(p0 p1 p2:V)(m:M):R:=
  bp (pur (binP m .eql true true .ptr p0 (.pointer none)) m) fun x15 m=>
  brb x15
  (some (.tuple ⟨[(.slice none 0 0),(.int .i64 2)]⟩,m))
  (bp (G.tab Q18h [p0,p1,p2] m) fun x16 m=>
  bp (pur (un .not x16) m) fun x17 m=>
  brb x17
  (some (.tuple ⟨[(.slice none 0 0),(.int .i64 1)]⟩,m))
  (Q173 G p0 p1 p2 m))
def Qvi (G:Gt)(p0 p1 p2:V)(m:M):R:=
  Q174 G p0 p1 p2 m
theorem Q1r6 (G:Gt)(a0 a1 a2:V)(m:M):ef G Tryz.f121 [a0,a1,a2] m = Qvi G a0 a1 a2 m:=
  evFn_of (r:=fun r m=>Qvi G (r 0) (r 1) (r 2) m) rfl rfl (tr (seqQ (f:=fun r m=>Q174 G (r 0) (r 1) (r 2) m) (tr (seqQ (f:=fun r m=>Q173 G (r 0) (r 1) (r 2) m) (tr (seqQ (f:=fun r m=>Q172 G (r 0) (r 1) (r 2) (r 8) m) (tr (tr (seqQ (f:=fun r m=>Q170 G (r 8) m) (fun r m=>by kernel_rfl)) (seqQ (f:=fun r m=>Q171 G (r 29) (r 28) (r 27) (r 8) m) (tr (blockQ (loopQ (fun i r m=>Qq7 G i (r 29) (r 28) (r 27) (r 8) m) (fun _ _=>rfl) (fun i0=>fun r m=>by kernel_rfl))) (fun r m=>by kernel_rfl)))) (fun r m=>by kernel_rfl))) (fun r m=>by kernel_rfl))) (fun r m=>by kernel_rfl))) (fun r m=>by kernel_rfl)) m
def Q1qa:En:=⟨Q1a8,Tryz.f121,Tryz.func121,by kernel_rfl,arg3 Qvi,okarg3 Q1r6⟩
def Q60 (G:Gt)(p0 p1:V)(m:M):R:=
  bp (pur (lenK 1 p0 m) m) fun x0 m=>
  bp (conv (.int .u64) x0 m) fun x1 m=>
  bp (G.tab Q6u [x1] m) fun x2 m=>
  bp (G.tab Q4s [p0,(.int .i64 0),x0,x2,p1] m) fun x3 m=>
  some (.tuple ⟨[]⟩,m)
theorem Qsw (G:Gt)(a0 a1:V)(m:M):ef G Tryz.f122 [a0,a1] m = Q60 G a0 a1 m:=
  evFn_of (r:=fun r m=>Q60 G (r 0) (r 1) m) rfl rfl (fun r m=>by kernel_rfl) m
def Qs4:En:=⟨Qdw,Tryz.f122,Tryz.func122,by kernel_rfl,arg2 Q60,okarg2 Qsw⟩
def Qll (G:Gt)(p0 p1:V)(m:M):R:=
  bp (some (aNew Q3f (Value.cells p0).toList m)) fun x0 m=>
  bp (some (aNew Q3f (Value.cells p1).toList m)) fun x1 m=>
  bp (pur (aFieldAddr 0 x1) m) fun x2 m=>
  bp (pur (aFieldAddr 1 x2) m) fun x3 m=>
  bp (pur (aLoad false 1 x3 m) m) fun x4 m=>
  bp (pur (aFieldAddr 0 x0) m) fun x5 m=>
  bp (pur (aFieldAddr 1 x5) m) fun x6 m=>
  bp (pur (aLoad false 1 x6 m) m) fun x7 m=>
  bp (G.tab Qyl [x4,x7] m) fun x8 m=>
  some (x8,m)
theorem Q1i8 (G:Gt)(a0 a1:V)(m:M):ef G Tryz.f123 [a0,a1] m = Qll G a0 a1 m:=
  evFn_of (r:=fun r m=>Qll G (r 0) (r 1) m) rfl rfl (fun r m=>by kernel_rfl) m
def Q1hd:En:=⟨Qxm,Tryz.f123,Tryz.func123,by kernel_rfl,arg2 Qll,okarg2 Q1i8⟩
def Qyq (G:Gt)(p0 p1:V)(m:M):R:=
  bp (G.tab Qku [p0] m) fun x0 m=>
  bp (G.tab Qku [p1] m) fun x1 m=>
  brb x0
  (brb x1
  (some ((.int .i64 0),m))
  (some ((.int .i64 (-1)),m)))
  (brb x1
  (some ((.int .i64 1),m))
  (bp (pur (bin .lss false true .int p0 p1) m) fun x2 m=>
  brb x2
  (some ((.int .i64 (-1)),m))
  (bp (pur (bin .gtr false true .int p0 p1) m) fun x3 m=>
  brb x3
  (some ((.int .i64 1),m))
  (some ((.int .i64 0),m)))))
theorem Q1tg (G:Gt)(a0 a1:V)(m:M):ef G Tryz.f124 [a0,a1] m = Qyq G a0 a1 m:=
  evFn_of (r:=fun r m=>Qyq G (r 0) (r 1) m) rfl rfl (fun r m=>by kernel_rfl) m
def Q1rs:En:=⟨Qyl,Tryz.f124,Tryz.func124,by kernel_rfl,arg2 Qyq,okarg2 Q1tg⟩
def Qq8 (G:Gt)(p16 p5 p0 p1:V)(m:M):R:=
  brb p16
  (some (.tuple ⟨[(.int .i64 0),(.int .i64 1)]⟩,m))
  (bp (pur (aLoad true 2 p5 m) m) fun x0 m=>
  bp (G.tab Qxg [x0] m) fun x1 m=>
  bp (pur (bin .neq true true .int x1 (.int .i64 0)) m) fun x2 m=>
  brb x2
  (some (.tuple ⟨[(.int .i64 0),x1]⟩,m))
  (bp (pur (aFieldAddr 1 p5) m) fun x3 m=>
  bp (pur (aLoad false 1 x3 m) m) fun x4 m=>
  bp (pur (aFieldAddr 0 p5) m) fun x5 m=>
  bp (pur (aLoad false 1 x5 m) m) fun x6 m=>
  bp (conv (.int .u64) x6 m) fun x7 m=>
  bp (pur (aFieldAddr 1 p5) m) fun x8 m=>
  bp (pur (aLoad false 1 x8 m) m) fun x9 m=>
  bp (pur (bin .sub true true .int (.int .i64 32) x9) m) fun x10 m=>
  bp (pur (bin .shr false true .int x7 x10) m) fun x11 m=>
  bp (G.tab Q1vc [] m) fun x12 m=>
  ckB (again (pur (aLoad false 1 x3 m) m) x4 && (again (pur (aLoad false 1 x5 m) m) x6 && (again (pur (aLoad false 1 x8 m) m) x9 && true)))
  (bp (pur (aIndexAddrSl 2 x12 p1) m) fun x13 m=>
  bp (pur (aFieldAddr 0 x13) m) fun x14 m=>
  bp (pur (aLoad false 1 x14 m) m) fun x15 m=>
  bp (G.tab Q1fj [p0,x15,x4,x11,(.func (.func Q1jv) #[] #[])] m) fun x16 m=>
  bp (pur (aExtract x16 0) m) fun x17 m=>
  bp (pur (aExtract x16 1) m) fun x18 m=>
  some (.tuple ⟨[x17,x18]⟩,m))))
def Q175 (G:Gt)(p1 p5 p0:V)(m:M):R:=
  bp (pur (bin .neq true true .int p1 (.int .i64 0)) m) fun x19 m=>
  brb x19
  (bp (pur (bin .neq true true .int p1 (.int .i64 1)) m) fun x20 m=>
  Qq8 G x20 p5 p0 p1 m)
  (Qq8 G (.bool false) p5 p0 p1 m)
def Q176 (G:Gt)(p0 p1 p5:V)(m:M):R:=
  bp (pur (binP m .eql true true .ptr p0 (.pointer none)) m) fun x21 m=>
  brb x21
  (some (.tuple ⟨[(.int .i64 0),(.int .i64 2)]⟩,m))
  (Q175 G p1 p5 p0 m)
def Qvj (G:Gt)(p2 p0 p1:V)(m:M):R:=
  bp (some (aNew Q1x (Value.cells p2).toList m)) fun x22 m=>
  Q176 G p0 p1 x22 m
theorem Q1r7 (G:Gt)(a0 a1 a2:V)(m:M):ef G Tryz.f125 [a0,a1,a2] m = Qvj G a2 a0 a1 m:=
  evFn_of (r:=fun r m=>Qvj G (r 2) (r 0) (r 1) m) rfl rfl (tr (seqQ (f:=fun r m=>Q176 G (r 0) (r 1) (r 5) m) (tr (seqQ (f:=fun r m=>Q175 G (r 1) (r 5) (r 0) m) (tr (tr seqD (seqQ (f:=fun r m=>Qq8 G (r 16) (r 5) (r 0) (r 1) m) (fun r m=>by kernel_rfl))) (fun r m=>by kernel_rfl))) (fun r m=>by kernel_rfl))) (fun r m=>by kernel_rfl)) m
def Q1qe:En:=⟨Quq,Tryz.f125,Tryz.func125,by kernel_rfl,arg3 (fun G a0 a1 a2 m=>Qvj G a2 a0 a1 m),okarg3 Q1r7⟩
def Q15k (G:Gt)(p0 p1 p2:V)(m:M):R:=
  bp (pur (binP m .eql true true .ptr p0 (.pointer none)) m) fun x0 m=>
  brb x0
  (some (.tuple ⟨[(.int .i64 0),(.int .i64 2)]⟩,m))
  (bp (pur (aNilCheck p0) m) fun x1 m=>
  bp (pur (aFieldAddr 0 x1) m) fun x2 m=>
  bp (pur (aLoad false 1 x2 m) m) fun x3 m=>
  bp (G.tab Qsd [p0,p1,p2,(.func (.func Q15e) ⟨[x3]⟩ ⟨[]⟩)] m) fun x4 m=>
  bp (pur (aExtract x4 0) m) fun x5 m=>
  bp (pur (aExtract x4 1) m) fun x6 m=>
  some (.tuple ⟨[x5,x6]⟩,m))
theorem Q1wp (G:Gt)(a0 a1 a2:V)(m:M):ef G Tryz.f126 [a0,a1,a2] m = Q15k G a0 a1 a2 m:=
  evFn_of (r:=fun r m=>Q15k G (r 0) (r 1) (r 2) m) rfl rfl (fun r m=>by kernel_rfl) m
def Q1w2:En:=⟨Qc5,Tryz.f126,Tryz.func126,by kernel_rfl,arg3 Q15k,okarg3 Q1wp⟩
def Q11u (G:Gt)(p0 p1 p2:V)(m:M):R:=
  bp (some (aNew Q22f (Value.cells p0).toList m)) fun x0 m=>
  bp (pur (aLoad false 1 x0 m) m) fun x1 m=>
  bp (G.tab Qsd [x1,p1,p2,(.func (.func Q1b1) ⟨[]⟩ ⟨[x0]⟩)] m) fun x2 m=>
  bp (pur (aExtract x2 0) m) fun x3 m=>
  bp (pur (aExtract x2 1) m) fun x4 m=>
  some (.tuple ⟨[x3,x4]⟩,m)
theorem Q1v1 (G:Gt)(a0 a1 a2:V)(m:M):ef G Tryz.f127 [a0,a1,a2] m = Q11u G a0 a1 a2 m:=
  evFn_of (r:=fun r m=>Q11u G (r 0) (r 1) (r 2) m) rfl rfl (fun r m=>by kernel_rfl) m
def Q1u1:En:=⟨Q11e,Tryz.f127,Tryz.func127,by kernel_rfl,arg3 Q11u,okarg3 Q1v1⟩
end
end Go.Ab.Sh

set_option linter.unusedVariables false
set_option maxRecDepth 100000
namespace Go.Ab.Sh
open Go Go.Ab Go.Proofs
noncomputable section
def Qyr (G:Gt)(p17 p9 p8 p4:V)(m:M):R:=
  bp (pur (aFieldAddr 4 p9) m) fun x0 m=>
  bp (unt (aStore 1 x0 p17 m)) fun _ m=>
  bp (pur (aFieldAddr 1 p8) m) fun x1 m=>
  bp (pur (aLoad false 1 x1 m) m) fun x2 m=>
  bp (pur (bin .eql true true .int x2 (.int .u32 0)) m) fun x3 m=>
  brb x3
  (bp (pur (aLoad true 5 p9 m) m) fun x4 m=>
  bp (evCall G.tab p4 [(.int .u8 6),x4] m) fun x5 m=>
  some (.tuple ⟨[]⟩,m))
  (bp (pur (aLoad true 5 p9 m) m) fun x6 m=>
  bp (evCall G.tab p4 [(.int .u8 7),x6] m) fun x7 m=>
  some (.tuple ⟨[]⟩,m))
def Qlm (G:Gt)(k0:V → V → V → V → V → V → V → V → V → V → M → R)(p114 p113 p112 p0 p8 p16 p9 p5 p17 p4:V)(m:M):R:=
  bp (pur (bin .add true true .int p114 (.int .i64 1)) m) fun x8 m=>
  k0 x8 p113 p112 p0 p8 p16 p9 p5 p17 p4 m
def Qln (G:Gt)(k0:V → V → V → V → V → V → V → V → V → V → M → R)(p5 p21 p9 p114 p113 p112 p0 p8 p16 p17 p4:V)(m:M):R:=
  bp (pur (aLoad true 2 p21 m) m) fun x9 m=>
  bp (pur (aLoad true 5 p9 m) m) fun x10 m=>
  bp (aBuildSlice Q8s Qkk 5 1 [(0,x10)] m) fun x11 m=>
  bp (aMapEntry (.struct [(0,1,false,.int),(1,1,false,.int)]) (.slice none 0 0) p5 x9 m) fun x12 m=>
  bp (pur (aExtract x12 0) m) fun x13 m=>
  bp (apS Q8s 5 40 x13 x11 m) fun x14 m=>
  bp (pur (aExtract x12 1) m) fun x15 m=>
  bp (unt (aEntryStore p5 x15 x14 m)) fun _ m=>
  Qlm G k0 p114 p113 p112 p0 p8 p16 p9 p5 p17 p4 m
def Qys (G:Gt)(k0:V → V → V → V → V → V → V → V → V → V → M → R)(p8 p22 p16 p9 p5 p21 p114 p113 p112 p0 p4 p17:V)(m:M):R:=
  bp (pur (aFieldAddr 1 p8) m) fun x16 m=>
  bp (pur (aLoad false 1 x16 m) m) fun x17 m=>
  bp (pur (bin .eql false true .int x17 p22) m) fun x18 m=>
  brb x18
  (bp (pur (aFieldAddr 4 p9) m) fun x19 m=>
  bp (unt (aStore 1 x19 p16 m)) fun _ m=>
  Qln G k0 p5 p21 p9 p114 p113 p112 p0 p8 p16 (.int .i64 0) p4 m)
  (bp (pur (aFieldAddr 1 p8) m) fun x20 m=>
  bp (pur (aLoad false 1 x20 m) m) fun x21 m=>
  bp (pur (bin .eql true true .int x21 (.int .u32 0)) m) fun x22 m=>
  brb x22
  (bp (G.tab Qpm [p0,p22] m) fun x23 m=>
  bp (pur (aNilCheck p0) m) fun x24 m=>
  bp (pur (aFieldAddr 0 x24) m) fun x25 m=>
  bp (pur (aLoad false 1 x25 m) m) fun x26 m=>
  bp (G.tab Qc5 [x26,p16,x23] m) fun x27 m=>
  bp (pur (aExtract x27 0) m) fun x28 m=>
  bp (pur (aExtract x27 1) m) fun x29 m=>
  bp (G.tab Qb [p0,x28,x29] m) fun x30 m=>
  bp (pur (aFieldAddr 4 p9) m) fun x31 m=>
  bp (unt (aStore 1 x31 x30 m)) fun _ m=>
  bp (pur (aNilCheck p0) m) fun x32 m=>
  bp (pur (aFieldAddr 0 x32) m) fun x33 m=>
  bp (pur (aLoad false 1 x33 m) m) fun x34 m=>
  bp (G.tab Q11e [x34,p17,x23] m) fun x35 m=>
  bp (pur (aExtract x35 0) m) fun x36 m=>
  bp (pur (aExtract x35 1) m) fun x37 m=>
  bp (G.tab Qb [p0,x36,x37] m) fun x38 m=>
  Qln G k0 p5 p21 p9 p114 p113 p112 p0 p8 p16 x38 p4 m)
  (Qlm G k0 p114 p113 p112 p0 p8 p16 p9 p5 p17 p4 m))
def Qyt (G:Gt)(k0:V → V → V → V → V → V → V → V → V → V → M → R)(p0 p21 p8 p16 p9 p5 p114 p113 p112 p4 p17:V)(m:M):R:=
  bp (pur (aNilCheck p0) m) fun x39 m=>
  bp (pur (aFieldAddr 2 x39) m) fun x40 m=>
  bp (pur (aLoad false 1 x40 m) m) fun x41 m=>
  bp (pur (aFieldAddr 0 p21) m) fun x42 m=>
  bp (pur (aLoad false 1 x42 m) m) fun x43 m=>
  bp (pur (aIndexAddrSl 12 x41 x43) m) fun x44 m=>
  bp (pur (aFieldAddr 3 x44) m) fun x45 m=>
  bp (pur (aLoad false 1 x45 m) m) fun x46 m=>
  bp (pur (aFieldAddr 1 p21) m) fun x47 m=>
  bp (pur (aLoad false 1 x47 m) m) fun x48 m=>
  bp (pur (aIndexAddrSl 11 x46 x48) m) fun x49 m=>
  bp (pur (aFieldAddr 2 x49) m) fun x50 m=>
  bp (pur (aLoad false 1 x50 m) m) fun x51 m=>
  Qys G k0 p8 x51 p16 p9 p5 p21 p114 p113 p112 p0 p4 p17 m
def Qyu (G:Gt)(k0:V → V → V → V → V → V → V → V → V → V → M → R)(p112 p114 p0 p8 p16 p9 p5 p113 p4 p17:V)(m:M):R:=
  bp (pur (aIndexAddrSl 2 p112 p114) m) fun x52 m=>
  bp (pur (aLoad true 2 x52 m) m) fun x53 m=>
  bp (some (aNew Q7 Qo m)) fun x54 m=>
  bp (unt (aStore 2 x54 x53 m)) fun _ m=>
  Qyt G k0 p0 x54 p8 p16 p9 p5 p114 p113 p112 p4 p17 m
def Qyv (G:Gt)(k0:V → V → V → V → V → V → V → V → V → V → M → R)(p115 p112 p114 p0 p8 p16 p9 p5 p113 p4 p17:V)(m:M):R:=
  brb p115
  (Qyu G k0 p112 p114 p0 p8 p16 p9 p5 p113 p4 p17 m)
  (Qyr G p17 p9 p8 p4 m)
def Q27 (G:Gt):Nat → V → V → V → V → V → V → V → V → V → V → M → R
 | 0,_,_,_,_,_,_,_,_,_,_,_=>none
 | i + 1,p114,p113,p112,p0,p8,p16,p9,p5,p17,p4,m=>
  bp (pur (bin .lss false true .int p114 p113) m) fun x55 m=>
  Qyv G (Q27 G i) x55 p112 p114 p0 p8 p16 p9 p5 p113 p4 p17 m
def Qyw (G:Gt)(p114 p113 p112 p0 p8 p16 p9 p5 p17 p4:V)(m:M):R:=
  Q27 G G.rds p114 p113 p112 p0 p8 p16 p9 p5 p17 p4 m
def Qyx (G:Gt)(p18 p0 p8 p16 p9 p5 p17 p4:V)(m:M):R:=
  bp (pur (lenK 1 p18 m) m) fun x56 m=>
  Qyw G (.int .i64 0) x56 p18 p0 p8 p16 p9 p5 p17 p4 m
def Qyy (G:Gt)(p0 p7 p14 p8 p16 p9 p5 p17 p4:V)(m:M):R:=
  bp (pur (aNilCheck p0) m) fun x57 m=>
  bp (pur (aFieldAddr 1 x57) m) fun x58 m=>
  bp (pur (aLoad false 1 x58 m) m) fun x59 m=>
  bp (pur (aFieldAddr 0 p7) m) fun x60 m=>
  bp (pur (aLoad false 1 x60 m) m) fun x61 m=>
  bp (pur (aBuild Qo [(0,1),(1,1)] [(0,x61),(1,p14)]) m) fun x62 m=>
  bp (G.tab Q15g [x59] m) fun x63 m=>
  ckB (again (pur (aLoad false 1 x60 m) m) x61 && true)
  (bp (G.tab Qv3 [x63,x62] m) fun x64 m=>
  bp (pur (aExtract x64 0) m) fun x65 m=>
  bp (pur (aExtract x64 1) m) fun x66 m=>
  Qyx G x65 p0 p8 p16 p9 p5 p17 p4 m)
def Q109 (G:Gt)(p16 p0 p7 p14 p8 p9 p5 p4:V)(m:M):R:=
  Qyy G p0 p7 p14 p8 p16 p9 p5 p16 p4 m
def Q10a (G:Gt)(p4 p9 p16 p0 p7 p14 p8 p5:V)(m:M):R:=
  bp (pur (aLoad true 5 p9 m) m) fun x67 m=>
  bp (evCall G.tab p4 [(.int .u8 3),x67] m) fun x68 m=>
  Q109 G p16 p0 p7 p14 p8 p9 p5 p4 m
def Q10b (G:Gt)(p0 p16 p9 p4 p7 p14 p8 p5:V)(m:M):R:=
  bp (pur (aNilCheck p0) m) fun x69 m=>
  bp (pur (aFieldAddr 0 x69) m) fun x70 m=>
  bp (pur (aLoad false 1 x70 m) m) fun x71 m=>
  bp (G.tab Qse [x71,p16] m) fun x72 m=>
  bp (pur (aExtract x72 0) m) fun x73 m=>
  bp (pur (aExtract x72 1) m) fun x74 m=>
  bp (G.tab Qb [p0,x73,x74] m) fun x75 m=>
  bp (pur (aFieldAddr 4 p9) m) fun x76 m=>
  bp (unt (aStore 1 x76 x75 m)) fun _ m=>
  Q10a G p4 p9 p16 p0 p7 p14 p8 p5 m
def Qmv (G:Gt)(p0 p12 p15 p9 p4 p7 p14 p8 p5:V)(m:M):R:=
  bp (pur (aLoad true 12 p12 m) m) fun x77 m=>
  bp (pur (aFieldAddr 6 p15) m) fun x78 m=>
  bp (pur (aLoad false 1 x78 m) m) fun x79 m=>
  bp (G.tab Qgh [p0,x77,x79] m) fun x80 m=>
  Q10b G p0 x80 p9 p4 p7 p14 p8 p5 m
def Q10c (G:Gt)(p0 p12 p13 p15 p9 p4 p7 p14 p8 p5:V)(m:M):R:=
  bp (pur (aLoad true 12 p12 m) m) fun x81 m=>
  bp (pur (aFieldAddr 7 p13) m) fun x82 m=>
  bp (pur (aLoad false 1 x82 m) m) fun x83 m=>
  bp (pur (bin .eql true true .int x83 (.int .u8 1)) m) fun x84 m=>
  brb x84
  (bp (pur (aFieldAddr 7 p15) m) fun x85 m=>
  bp (pur (aLoad false 1 x85 m) m) fun x86 m=>
  bp (pur (bin .eql true true .int x86 (.int .u8 2)) m) fun x87 m=>
  bp (G.tab Qg2 [p0,x81,x87,(.bool false)] m) fun x88 m=>
  bp (pur (aFieldAddr 3 p9) m) fun x89 m=>
  bp (unt (aStore 1 x89 x88 m)) fun _ m=>
  Qmv G p0 p12 p15 p9 p4 p7 p14 p8 p5 m)
  (bp (G.tab Qg2 [p0,x81,(.bool false),(.bool false)] m) fun x90 m=>
  bp (pur (aFieldAddr 3 p9) m) fun x91 m=>
  bp (unt (aStore 1 x91 x90 m)) fun _ m=>
  Qmv G p0 p12 p15 p9 p4 p7 p14 p8 p5 m)
def Q10d (G:Gt)(p12 p14 p0 p13 p9 p4 p7 p8 p5:V)(m:M):R:=
  bp (pur (aFieldAddr 3 p12) m) fun x92 m=>
  bp (pur (aLoad false 1 x92 m) m) fun x93 m=>
  bp (pur (aIndexAddrSl 11 x93 p14) m) fun x94 m=>
  bp (pur (aLoad true 11 x94 m) m) fun x95 m=>
  bp (some (aNew Q1d Q47 m)) fun x96 m=>
  bp (unt (aStore 11 x96 x95 m)) fun _ m=>
  Q10c G p0 p12 p13 x96 p9 p4 p7 p14 p8 p5 m
def Qlo (G:Gt)(p52 p0 p9 p4 p12 p14 p13 p7 p8 p5:V)(m:M):R:=
  brb p52
  (bp (pur (aNilCheck p0) m) fun x97 m=>
  bp (pur (aFieldAddr 3 x97) m) fun x98 m=>
  bp (pur (aLoad false 1 x98 m) m) fun x99 m=>
  bp (pur (aFieldAddr 3 p9) m) fun x100 m=>
  bp (unt (aStore 1 x100 x99 m)) fun _ m=>
  bp (pur (aFieldAddr 4 p9) m) fun x101 m=>
  bp (unt (aStore 1 x101 (.int .i64 1) m)) fun _ m=>
  bp (pur (aLoad true 5 p9 m) m) fun x102 m=>
  bp (evCall G.tab p4 [(.int .u8 7),x102] m) fun x103 m=>
  some (.tuple ⟨[]⟩,m))
  (Q10d G p12 p14 p0 p13 p9 p4 p7 p8 p5 m)
def Q10e (G:Gt)(p14 p12 p0 p9 p4 p13 p7 p8 p5:V)(m:M):R:=
  bp (pur (bin .lss true true .int p14 (.int .i64 0)) m) fun x104 m=>
  brb x104
  (Qlo G (.bool true) p0 p9 p4 p12 p14 p13 p7 p8 p5 m)
  (bp (pur (aFieldAddr 3 p12) m) fun x105 m=>
  bp (pur (aLoad false 1 x105 m) m) fun x106 m=>
  bp (pur (aIndexAddrSl 11 x106 p14) m) fun x107 m=>
  bp (pur (aLoad true 11 x107 m) m) fun x108 m=>
  bp (G.tab Ql6 [x108] m) fun x109 m=>
  bp (pur (un .not x109) m) fun x110 m=>
  Qlo G x110 p0 p9 p4 p12 p14 p13 p7 p8 p5 m)
def Q10f (G:Gt)(p12 p8 p0 p9 p4 p13 p7 p5:V)(m:M):R:=
  bp (pur (aFieldAddr 3 p12) m) fun x111 m=>
  bp (pur (aLoad false 1 x111 m) m) fun x112 m=>
  bp (G.tab Q2q [x112,(.func (.func Q108) ⟨[]⟩ ⟨[p8]⟩)] m) fun x113 m=>
  Q10e G x113 p12 p0 p9 p4 p13 p7 p8 p5 m
def Q10g (G:Gt)(p12 p7 p8 p0 p9 p4 p5:V)(m:M):R:=
  bp (pur (aFieldAddr 3 p12) m) fun x114 m=>
  bp (pur (aLoad false 1 x114 m) m) fun x115 m=>
  bp (pur (aFieldAddr 1 p7) m) fun x116 m=>
  bp (pur (aLoad false 1 x116 m) m) fun x117 m=>
  bp (pur (aIndexAddrSl 11 x115 x117) m) fun x118 m=>
  bp (pur (aLoad true 11 x118 m) m) fun x119 m=>
  bp (some (aNew Q1d Q47 m)) fun x120 m=>
  bp (unt (aStore 11 x120 x119 m)) fun _ m=>
  Q10f G p12 p8 p0 p9 p4 x120 p7 p5 m
def Q10h (G:Gt)(p0 p7 p8 p9 p4 p5:V)(m:M):R:=
  bp (pur (aNilCheck p0) m) fun x121 m=>
  bp (pur (aFieldAddr 2 x121) m) fun x122 m=>
  bp (pur (aLoad false 1 x122 m) m) fun x123 m=>
  bp (pur (aFieldAddr 0 p7) m) fun x124 m=>
  bp (pur (aLoad false 1 x124 m) m) fun x125 m=>
  bp (pur (aIndexAddrSl 12 x123 x125) m) fun x126 m=>
  bp (pur (aLoad true 12 x126 m) m) fun x127 m=>
  bp (some (aNew Qx Q1e m)) fun x128 m=>
  bp (unt (aStore 12 x128 x127 m)) fun _ m=>
  Q10g G x128 p7 p8 p0 p9 p4 p5 m
def Qq9 (G:Gt)(p1 p2 p3 p0 p4 p5:V)(m:M):R:=
  bp (some (aNew Q7 (Value.cells p1).toList m)) fun x129 m=>
  bp (some (aNew Qeh (Value.cells p2).toList m)) fun x130 m=>
  bp (some (aNew Q8s (Value.cells p3).toList m)) fun x131 m=>
  Q10h G p0 x129 x130 x131 p4 p5 m
theorem Q1mc (G:Gt)(a0 a1 a2 a3 a4 a5:V)(m:M):ef G Tryz.f128 [a0,a1,a2,a3,a4,a5] m = Qq9 G a1 a2 a3 a0 a4 a5 m:=
  evFn_of (r:=fun r m=>Qq9 G (r 1) (r 2) (r 3) (r 0) (r 4) (r 5) m) rfl rfl (tr (seqQ (f:=fun r m=>Q10h G (r 0) (r 7) (r 8) (r 9) (r 4) (r 5) m) (tr (seqQ (f:=fun r m=>Q10g G (r 12) (r 7) (r 8) (r 0) (r 9) (r 4) (r 5) m) (tr (seqQ (f:=fun r m=>Q10f G (r 12) (r 8) (r 0) (r 9) (r 4) (r 13) (r 7) (r 5) m) (tr (seqQ (f:=fun r m=>Q10e G (r 14) (r 12) (r 0) (r 9) (r 4) (r 13) (r 7) (r 8) (r 5) m) (tr (tr (seqQ (f:=fun r m=>Q10d G (r 12) (r 14) (r 0) (r 13) (r 9) (r 4) (r 7) (r 8) (r 5) m) (tr (seqQ (f:=fun r m=>Q10c G (r 0) (r 12) (r 13) (r 15) (r 9) (r 4) (r 7) (r 14) (r 8) (r 5) m) (tr (seqQ (f:=fun r m=>Qmv G (r 0) (r 12) (r 15) (r 9) (r 4) (r 7) (r 14) (r 8) (r 5) m) (tr (seqQ (f:=fun r m=>Q10b G (r 0) (r 16) (r 9) (r 4) (r 7) (r 14) (r 8) (r 5) m) (tr (seqQ (f:=fun r m=>Q10a G (r 4) (r 9) (r 16) (r 0) (r 7) (r 14) (r 8) (r 5) m) (tr (seqQ (f:=fun r m=>Q109 G (r 16) (r 0) (r 7) (r 14) (r 8) (r 9) (r 5) (r 4) m) (tr (seqQ (f:=fun r m=>Qyy G (r 0) (r 7) (r 14) (r 8) (r 16) (r 9) (r 5) (r 17) (r 4) m) (tr (seqQ (f:=fun r m=>Qyx G (r 18) (r 0) (r 8) (r 16) (r 9) (r 5) (r 17) (r 4) m) (tr (tr (seqQ (f:=fun r m=>Qyr G (r 17) (r 9) (r 8) (r 4) m) (fun r m=>by kernel_rfl)) (seqQ (f:=fun r m=>Qyw G (r 114) (r 113) (r 112) (r 0) (r 8) (r 16) (r 9) (r 5) (r 17) (r 4) m) (tr (blockQ (loopQ (fun i r m=>Q27 G i (r 114) (r 113) (r 112) (r 0) (r 8) (r 16) (r 9) (r 5) (r 17) (r 4) m) (fun _ _=>rfl) (fun i0=>tr (seqQ (f:=fun r m=>Qyv G (Q27 G i0) (r 115) (r 112) (r 114) (r 0) (r 8) (r 16) (r 9) (r 5) (r 113) (r 4) (r 17) m) (tr (seqQ (f:=fun r m=>Qyu G (Q27 G i0) (r 112) (r 114) (r 0) (r 8) (r 16) (r 9) (r 5) (r 113) (r 4) (r 17) m) (tr (tr (seqQ (f:=fun r m=>Qlm G (Q27 G i0) (r 114) (r 113) (r 112) (r 0) (r 8) (r 16) (r 9) (r 5) (r 17) (r 4) m) (fun r m=>by kernel_rfl)) (blockQ (seqQ (f:=fun r m=>Qyt G (Q27 G i0) (r 0) (r 21) (r 8) (r 16) (r 9) (r 5) (r 114) (r 113) (r 112) (r 4) (r 17) m) (tr (seqQ (f:=fun r m=>Qys G (Q27 G i0) (r 8) (r 22) (r 16) (r 9) (r 5) (r 21) (r 114) (r 113) (r 112) (r 0) (r 4) (r 17) m) (tr (seqQ (f:=fun r m=>Qln G (Q27 G i0) (r 5) (r 21) (r 9) (r 114) (r 113) (r 112) (r 0) (r 8) (r 16) (r 17) (r 4) m) (fun r m=>by kernel_rfl)) (fun r m=>by kernel_rfl))) (fun r m=>by kernel_rfl))))) (fun r m=>by kernel_rfl))) (fun r m=>by kernel_rfl))) (fun r m=>by kernel_rfl)))) (fun r m=>by kernel_rfl)))) (fun r m=>by kernel_rfl))) (fun r m=>by kernel_rfl))) (fun r m=>by kernel_rfl))) (fun r m=>by kernel_rfl))) (fun r m=>by kernel_rfl))) (fun r m=>by kernel_rfl))) (fun r m=>by kernel_rfl))) (fun r m=>by kernel_rfl))) (seqQ (f:=fun r m=>Qlo G (r 52) (r 0) (r 9) (r 4) (r 12) (r 14) (r 13) (r 7) (r 8) (r 5) m) (fun r m=>by kernel_rfl))) (fun r m=>by kernel_rfl))) (fun r m=>by kernel_rfl))) (fun r m=>by kernel_rfl))) (fun r m=>by kernel_rfl))) (fun r m=>by kernel_rfl)) m
def Q1lp:En:=⟨Q160,Tryz.f128,Tryz.func128,by kernel_rfl,arg6 (fun G a0 a1 a2 a3 a4 a5 m=>Qq9 G a1 a2 a3 a0 a4 a5 m),okarg6 Q1mc⟩
def Q48 (G:Gt)(p0 p1:V)(m:M):R:=
  bp (pur (lenK 1 p0 m) m) fun x0 m=>
  bp (conv (.int .u64) x0 m) fun x1 m=>
  bp (G.tab Q6u [x1] m) fun x2 m=>
  bp (G.tab Q3w [p0,(.int .i64 0),x0,x2,p1] m) fun x3 m=>
  some (.tuple ⟨[]⟩,m)
theorem Qof (G:Gt)(a0 a1:V)(m:M):ef G Tryz.f129 [a0,a1] m = Q48 G a0 a1 m:=
  evFn_of (r:=fun r m=>Q48 G (r 0) (r 1) m) rfl rfl (fun r m=>by kernel_rfl) m
def Qo3:En:=⟨Qag,Tryz.f129,Tryz.func129,by kernel_rfl,arg2 Q48,okarg2 Qof⟩
def Q1md (G:Gt)(m:M):R:=
  some ((.bool true),m)
def Qfd (G:Gt)(k0:V → V → V → M → R)(p55 p16 p15 p14:V)(m:M):R:=
  brb p55
  (some ((.bool false),m))
  (bp (pur (bin .add true true .int p16 (.int .i64 1)) m) fun x0 m=>
  k0 x0 p15 p14 m)
def Qkm (G:Gt)(k0:V → V → V → M → R)(p5 p3 p4 p16 p15 p14:V)(m:M):R:=
  bp (pur (un .not p5) m) fun x1 m=>
  brb x1
  (bp (pur (bin .eql true true .int p3 (.int .i64 0)) m) fun x2 m=>
  brb x2
  (Qfd G k0 (.bool true) p16 p15 p14 m)
  (bp (pur (bin .leq true true .int (.int .u8 48) p4) m) fun x3 m=>
  brb x3
  (bp (pur (bin .leq true true .int p4 (.int .u8 57)) m) fun x4 m=>
  bp (pur (un .not x4) m) fun x5 m=>
  brb x5
  (bp (conv .intStr p4 m) fun x6 m=>
  bp (G.tab Q1dm [(.string ⟨#[45,95,46,47]⟩),x6] m) fun x7 m=>
  bp (pur (un .not x7) m) fun x8 m=>
  Qfd G k0 x8 p16 p15 p14 m)
  (Qfd G k0 (.bool false) p16 p15 p14 m))
  (bp (pur (un .not (.bool false)) m) fun x9 m=>
  brb x9
  (bp (conv .intStr p4 m) fun x10 m=>
  bp (G.tab Q1dm [(.string ⟨#[45,95,46,47]⟩),x10] m) fun x11 m=>
  bp (pur (un .not x11) m) fun x12 m=>
  Qfd G k0 x12 p16 p15 p14 m)
  (Qfd G k0 (.bool false) p16 p15 p14 m))))
  (Qfd G k0 (.bool false) p16 p15 p14 m)
def Q1me (G:Gt)(k0:V → V → V → M → R)(p4 p3 p16 p15 p14:V)(m:M):R:=
  bp (pur (bin .leq true true .int (.int .u8 97) p4) m) fun x13 m=>
  brb x13
  (bp (pur (bin .leq true true .int p4 (.int .u8 122)) m) fun x14 m=>
  brb x14
  (Qkm G k0 (.bool true) p3 p4 p16 p15 p14 m)
  (bp (pur (bin .leq true true .int (.int .u8 65) p4) m) fun x15 m=>
  brb x15
  (bp (pur (bin .leq true true .int p4 (.int .u8 90)) m) fun x16 m=>
  Qkm G k0 x16 p3 p4 p16 p15 p14 m)
  (Qkm G k0 (.bool false) p3 p4 p16 p15 p14 m)))
  (bp (pur (bin .leq true true .int (.int .u8 65) p4) m) fun x17 m=>
  brb x17
  (bp (pur (bin .leq true true .int p4 (.int .u8 90)) m) fun x18 m=>
  Qkm G k0 x18 p3 p4 p16 p15 p14 m)
  (Qkm G k0 (.bool false) p3 p4 p16 p15 p14 m))
def Q1mf (G:Gt)(k0:V → V → V → M → R)(p16 p14 p15:V)(m:M):R:=
  bp (pur (aIndexAddrSl 1 p14 p16) m) fun x19 m=>
  bp (pur (aLoad false 1 x19 m) m) fun x20 m=>
  Q1me G k0 x20 p16 p16 p15 p14 m
def Q1mg (G:Gt)(k0:V → V → V → M → R)(p17 p16 p14 p15:V)(m:M):R:=
  brb p17
  (Q1mf G k0 p16 p14 p15 m)
  (Q1md G m)
def Qci (G:Gt):Nat → V → V → V → M → R
 | 0,_,_,_,_=>none
 | i + 1,p16,p15,p14,m=>
  bp (pur (bin .lss false true .int p16 p15) m) fun x21 m=>
  Q1mg G (Qci G i) x21 p16 p14 p15 m
def Q1mh (G:Gt)(p16 p15 p14:V)(m:M):R:=
  Qci G G.rds p16 p15 p14 m
def Q1mi (G:Gt)(p0:V)(m:M):R:=
  bp (conv .bytes p0 m) fun x22 m=>
  bp (pur (lenK 1 x22 m) m) fun x23 m=>
  Q1mh G (.int .i64 0) x23 x22 m
def Q198 (G:Gt)(p12 p0:V)(m:M):R:=
  brb p12
  (some ((.bool false),m))
  (Q1mi G p0 m)
def Q1mj (G:Gt)(p0:V)(m:M):R:=
  bp (pur (bin .eql true true .str p0 (.string ⟨#[]⟩)) m) fun x24 m=>
  brb x24
  (Q198 G (.bool true) p0 m)
  (bp (pur (lenK 0 p0 m) m) fun x25 m=>
  bp (pur (bin .gtr true true .int x25 (.int .i64 32)) m) fun x26 m=>
  Q198 G x26 p0 m)
def Q1i9 (G:Gt)(p0:V)(m:M):R:=
  Q1mj G p0 m
theorem Q22x (G:Gt)(a0:V)(m:M):ef G Tryz.f132 [a0] m = Q1i9 G a0 m:=
  evFn_of (r:=fun r m=>Q1i9 G (r 0) m) rfl rfl (tr (seqQ (f:=fun r m=>Q1mj G (r 0) m) (tr (tr (seqQ (f:=fun r m=>Q1mi G (r 0) m) (tr (tr (seqQ (f:=fun r m=>Q1md G m) (fun r m=>by kernel_rfl)) (seqQ (f:=fun r m=>Q1mh G (r 16) (r 15) (r 14) m) (tr (blockQ (loopQ (fun i r m=>Qci G i (r 16) (r 15) (r 14) m) (fun _ _=>rfl) (fun i0=>tr (seqQ (f:=fun r m=>Q1mg G (Qci G i0) (r 17) (r 16) (r 14) (r 15) m) (tr (seqQ (f:=fun r m=>Q1mf G (Qci G i0) (r 16) (r 14) (r 15) m) (tr (tr seqD (blockQ (seqQ (f:=fun r m=>Q1me G (Qci G i0) (r 4) (r 3) (r 16) (r 15) (r 14) m) (tr (seqQ (f:=fun r m=>Qkm G (Qci G i0) (r 5) (r 3) (r 4) (r 16) (r 15) (r 14) m) (tr (seqQ (f:=fun r m=>Qfd G (Qci G i0) (r 55) (r 16) (r 15) (r 14) m) (fun r m=>by kernel_rfl)) (fun r m=>by kernel_rfl))) (fun r m=>by kernel_rfl))))) (fun r m=>by kernel_rfl))) (fun r m=>by kernel_rfl))) (fun r m=>by kernel_rfl)))) (fun r m=>by kernel_rfl)))) (fun r m=>by kernel_rfl))) (seqQ (f:=fun r m=>Q198 G (r 12) (r 0) m) (fun r m=>by kernel_rfl))) (fun r m=>by kernel_rfl))) (fun r m=>by kernel_rfl)) m
def Q224:En:=⟨Q1hq,Tryz.f132,Tryz.func132,by kernel_rfl,arg1 Q1i9,okarg1 Q22x⟩
def Q199 (G:Gt)(p0:V)(m:M):R:=
  bp (some (aNew Qx (Value.cells p0).toList m)) fun x0 m=>
  bp (pur (aLoad true 12 x0 m) m) fun x1 m=>
  bp (G.tab Q1m1 [x1] m) fun x2 m=>
  bp (some (aNew Q1i2 Q1i5 m)) fun x3 m=>
  bp (unt (aStore 5 x3 x2 m)) fun _ m=>
  bp (pur (aFieldAddr 2 x0) m) fun x4 m=>
  bp (pur (aLoad false 1 x4 m) m) fun x5 m=>
  bp (pur (lenK 1 x5 m) m) fun x6 m=>
  bp (pur (aBuild Q67 [(0,1),(1,1),(2,1),(3,1)] [(0,(.string ⟨#[118,114,102]⟩)),(1,x6),(2,(.int .i64 256)),(3,(.func (.func Q1uj) ⟨[]⟩ ⟨[x0]⟩))]) m) fun x7 m=>
  bp (pur (aFieldAddr 3 x0) m) fun x8 m=>
  bp (pur (aLoad false 1 x8 m) m) fun x9 m=>
  bp (pur (lenK 1 x9 m) m) fun x10 m=>
  bp (pur (aBuild Q67 [(0,1),(1,1),(2,1),(3,1)] [(0,(.string ⟨#[105,102,97,99,101]⟩)),(1,x10),(2,(.int .i64 64)),(3,(.func (.func Q1fx) ⟨[]⟩ ⟨[x3,x0]⟩))]) m) fun x11 m=>
  bp (pur (aFieldAddr 4 x0) m) fun x12 m=>
  bp (pur (aLoad false 1 x12 m) m) fun x13 m=>
  bp (pur (lenK 1 x13 m) m) fun x14 m=>
  bp (pur (aBuild Q67 [(0,1),(1,1),(2,1),(3,1)] [(0,(.string ⟨#[102,105,108,116,101,114]⟩)),(1,x14),(2,(.int .i64 256)),(3,(.func (.func Q1uk) ⟨[]⟩ ⟨[x0]⟩))]) m) fun x15 m=>
  bp (pur (aFieldAddr 5 x0) m) fun x16 m=>
  bp (pur (aLoad false 1 x16 m) m) fun x17 m=>
  bp (pur (lenK 1 x17 m) m) fun x18 m=>
  bp (pur (aBuild Q67 [(0,1),(1,1),(2,1),(3,1)] [(0,(.string ⟨#[114,101,119,114,105,116,101]⟩)),(1,x18),(2,(.int .i64 256)),(3,(.func (.func Q1ul) ⟨[]⟩ ⟨[x0,x3]⟩))]) m) fun x19 m=>
  bp (pur (aFieldAddr 6 x0) m) fun x20 m=>
  bp (pur (aLoad false 1 x20 m) m) fun x21 m=>
  bp (pur (lenK 1 x21 m) m) fun x22 m=>
  bp (pur (aBuild Q67 [(0,1),(1,1),(2,1),(3,1)] [(0,(.string ⟨#[115,116,97,116,105,99]⟩)),(1,x22),(2,(.int .i64 256)),(3,(.func (.func Q1um) ⟨[]⟩ ⟨[x3,x0]⟩))]) m) fun x23 m=>
  bp (pur (aFieldAddr 7 x0) m) fun x24 m=>
  bp (pur (aLoad false 1 x24 m) m) fun x25 m=>
  bp (pur (lenK 1 x25 m) m) fun x26 m=>
  bp (pur (aBuild Q67 [(0,1),(1,1),(2,1),(3,1)] [(0,(.string ⟨#[112,114,101,102,105,120,101,115]⟩)),(1,x26),(2,(.int .i64 256)),(3,(.func (.func Q1un) ⟨[]⟩ ⟨[x0]⟩))]) m) fun x27 m=>
  bp (pur (aFieldAddr 8 x0) m) fun x28 m=>
  bp (pur (aLoad false 1 x28 m) m) fun x29 m=>
  bp (pur (lenK 1 x29 m) m) fun x30 m=>
  bp (pur (aBuild Q67 [(0,1),(1,1),(2,1),(3,1)] [(0,(.string ⟨#[99,111,109,109,117,110,105,116,105,101,115]⟩)),(1,x30),(2,(.int .i64 256)),(3,(.func (.func Q1uo) ⟨[]⟩ ⟨[x0]⟩))]) m) fun x31 m=>
  bp (pur (aFieldAddr 9 x0) m) fun x32 m=>
  bp (pur (aLoad false 1 x32 m) m) fun x33 m=>
  bp (pur (lenK 1 x33 m) m) fun x34 m=>
  bp (pur (aBuild Q67 [(0,1),(1,1),(2,1),(3,1)] [(0,(.string ⟨#[112,111,108,105,99,121]⟩)),(1,x34),(2,(.int .i64 256)),(3,(.func (.func Q1up) ⟨[]⟩ ⟨[x3,x0]⟩))]) m) fun x35 m=>
  bp (pur (aFieldAddr 10 x0) m) fun x36 m=>
  bp (pur (aLoad false 1 x36 m) m) fun x37 m=>
  bp (pur (lenK 1 x37 m) m) fun x38 m=>
  bp (pur (aBuild Q67 [(0,1),(1,1),(2,1),(3,1)] [(0,(.string ⟨#[111,115,112,102]⟩)),(1,x38),(2,(.int .i64 256)),(3,(.func (.func Q1uq) ⟨[]⟩ ⟨[x3,x0]⟩))]) m) fun x39 m=>
  bp (pur (aFieldAddr 11 x0) m) fun x40 m=>
  bp (pur (aLoad false 1 x40 m) m) fun x41 m=>
  bp (pur (lenK 1 x41 m) m) fun x42 m=>
  bp (pur (aBuild Q67 [(0,1),(1,1),(2,1),(3,1)] [(0,(.string ⟨#[98,103,112]⟩)),(1,x42),(2,(.int .i64 256)),(3,(.func (.func Q1t4) ⟨[]⟩ ⟨[x3,x0]⟩))]) m) fun x43 m=>
  bp (aBuildSlice Q1s9 Q67 4 10 [(0,x7),(1,x11),(2,x15),(3,x19),(4,x23),(5,x27),(6,x31),(7,x35),(8,x39),(9,x43)] m) fun x44 m=>
  some (x44,m)
theorem Q1ya (G:Gt)(a0:V)(m:M):ef G Tryz.f133 [a0] m = Q199 G a0 m:=
  evFn_of (r:=fun r m=>Q199 G (r 0) m) rfl rfl (fun r m=>by kernel_rfl) m
def Q1xc:En:=⟨Q1jq,Tryz.f133,Tryz.func133,by kernel_rfl,arg1 Q199,okarg1 Q1ya⟩
end
end Go.Ab.Sh
