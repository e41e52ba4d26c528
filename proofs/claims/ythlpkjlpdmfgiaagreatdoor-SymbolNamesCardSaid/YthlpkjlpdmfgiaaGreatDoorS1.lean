/-
  Functions of the program as plain definitions. No conditions.
-/
import Derived.Test.YthlpkjlpdmfgiaaGreatDoorAb5
import Derived.Test.YthlpkjlpdmfgiaaGreatDoorZ
import Derived.KernelRfl
import Derived.Test.YthlpkjlpdmfgiaaGreatDoorProg
set_option linter.unusedVariables false
set_option maxRecDepth 100000
namespace Go.Ab.Sh
open Go Go.Ab Go.Proofs
noncomputable section
def Qqe (G:Gt)(p16 p17:V)(m:M):R:=
  bp (pur (aNilCheck p16) m) fun x0 m=>
  bp (pur (aFieldAddr 4 x0) m) fun x1 m=>
  bp (pur (aLoad false 1 x1 m) m) fun x2 m=>
  bp (pur (bin .neq true true .int x2 (.int .i64 0)) m) fun x3 m=>
  brb x3
  (some (.tuple ⟨[(.int .i64 0),(.int .i64 3)]⟩,m))
  (some (.tuple ⟨[p17,(.int .i64 0)]⟩,m))
def Qfl (G:Gt):Nat → V → V → V → V → V → V → V → V → M → R
 | 0,_,_,_,_,_,_,_,_,_=>none
 | i + 1,p66,p65,p64,p16,p0,p17,p4,p3,m=>
  bp (pur (bin .lss false true .int p66 p65) m) fun x4 m=>
  brb x4
  (bp (pur (aIndexAddrSl 5 p64 p66) m) fun x5 m=>
  bp (pur (aLoad true 5 x5 m) m) fun x6 m=>
  bp (some (aNew Q5b Qhb m)) fun x7 m=>
  bp (unt (aStore 5 x7 x6 m)) fun _ m=>
  bp (pur (aNilCheck p0) m) fun x8 m=>
  bp (pur (aFieldAddr 0 x8) m) fun x9 m=>
  bp (pur (aLoad false 1 x9 m) m) fun x10 m=>
  bp (pur (aLoad true 5 x7 m) m) fun x11 m=>
  bp (evCall G.tab p4 [p16,x11,p3] m) fun x12 m=>
  ckB (again (pur (aLoad false 1 x9 m) m) x10 && true)
  (bp (G.tab Qsj [x10,p17,x12] m) fun x13 m=>
  bp (pur (aExtract x13 0) m) fun x14 m=>
  bp (pur (aExtract x13 1) m) fun x15 m=>
  bp (G.tab Q1 [p16,x14,x15] m) fun x16 m=>
  bp (pur (bin .add true true .int p66 (.int .i64 1)) m) fun x17 m=>
  (Qfl G i) x17 p65 p64 p16 p0 x16 p4 p3 m))
  (Qqe G p16 p17 m)
def Qqf (G:Gt)(p66 p65 p64 p16 p0 p17 p4 p3:V)(m:M):R:=
  Qfl G G.rds p66 p65 p64 p16 p0 p17 p4 p3 m
def Qqg (G:Gt)(p12 p2 p16 p0 p17 p4 p3:V)(m:M):R:=
  bp (pur (aFieldAddr 8 p12) m) fun x18 m=>
  bp (pur (aLoad false 1 x18 m) m) fun x19 m=>
  bp (pur (aIndexAddrSl 3 x19 p2) m) fun x20 m=>
  bp (pur (aFieldAddr 2 x20) m) fun x21 m=>
  bp (pur (aLoad false 1 x21 m) m) fun x22 m=>
  bp (pur (lenK 1 x22 m) m) fun x23 m=>
  Qqf G (.int .i64 0) x23 x22 p16 p0 p17 p4 p3 m
def Qqh (G:Gt)(p12 p2 p16 p0 p4 p3:V)(m:M):R:=
  Qqg G p12 p2 p16 p0 (.int .i64 0) p4 p3 m
def Qqi (G:Gt)(p0 p12 p2 p4 p3:V)(m:M):R:=
  bp (pur (aNilCheck p0) m) fun x24 m=>
  bp (pur (aFieldAddr 0 x24) m) fun x25 m=>
  bp (pur (aLoad false 1 x25 m) m) fun x26 m=>
  bp (pur (aNilCheck p0) m) fun x27 m=>
  bp (pur (aFieldAddr 1 x27) m) fun x28 m=>
  bp (pur (aLoad false 1 x28 m) m) fun x29 m=>
  bp (pur (aBuild Q1ay [(0,1),(1,1),(2,1),(3,1),(4,1)] [(0,x26),(3,x29)]) m) fun x30 m=>
  bp (some (aNew Q1az (Value.cells x30).toList m)) fun x31 m=>
  Qqh G p12 p2 x31 p0 p4 p3 m
def Qqj (G:Gt)(p0 p3 p12 p2 p4:V)(m:M):R:=
  bp (pur (aNilCheck p0) m) fun x32 m=>
  bp (pur (aFieldAddr 0 x32) m) fun x33 m=>
  bp (pur (aLoad false 1 x33 m) m) fun x34 m=>
  bp (G.tab Q3d [x34,p3,(.int .i64 0)] m) fun x35 m=>
  bp (pur (aExtract x35 0) m) fun x36 m=>
  bp (pur (aExtract x35 1) m) fun x37 m=>
  bp (pur (bin .neq true true .int x37 (.int .i64 0)) m) fun x38 m=>
  brb x38
  (some (.tuple ⟨[(.int .i64 0),(.int .i64 1)]⟩,m))
  (Qqi G p0 p12 p2 p4 p3 m)
def Qez (G:Gt)(p37 p0 p3 p12 p2 p4:V)(m:M):R:=
  brb p37
  (some (.tuple ⟨[(.int .i64 0),(.int .i64 1)]⟩,m))
  (Qqj G p0 p3 p12 p2 p4 m)
def Qqk (G:Gt)(p2 p12 p0 p3 p4:V)(m:M):R:=
  bp (pur (bin .lss true true .int p2 (.int .i64 0)) m) fun x39 m=>
  brb x39
  (Qez G (.bool true) p0 p3 p12 p2 p4 m)
  (bp (pur (aFieldAddr 8 p12) m) fun x40 m=>
  bp (pur (aLoad false 1 x40 m) m) fun x41 m=>
  bp (pur (lenK 1 x41 m) m) fun x42 m=>
  bp (pur (bin .geq false true .int p2 x42) m) fun x43 m=>
  Qez G x43 p0 p3 p12 p2 p4 m)
def Qql (G:Gt)(p13 p2 p12 p0 p3 p4:V)(m:M):R:=
  bp (pur (bin .neq true true .int p13 (.int .i64 0)) m) fun x44 m=>
  brb x44
  (some (.tuple ⟨[(.int .i64 0),p13]⟩,m))
  (Qqk G p2 p12 p0 p3 p4 m)
def Qqm (G:Gt)(p0 p6 p2 p3 p4:V)(m:M):R:=
  bp (pur (aLoad true 2 p6 m) m) fun x45 m=>
  bp (G.tab Qiq [p0,x45] m) fun x46 m=>
  bp (pur (aExtract x46 0) m) fun x47 m=>
  bp (pur (aExtract x46 1) m) fun x48 m=>
  bp (some (aNew Qfa Q8l m)) fun x49 m=>
  bp (unt (aStore 9 x49 x47 m)) fun _ m=>
  Qql G x48 p2 x49 p0 p3 p4 m
def Qik (G:Gt)(p1 p0 p2 p3 p4:V)(m:M):R:=
  bp (some (aNew Qw (Value.cells p1).toList m)) fun x50 m=>
  Qqm G p0 x50 p2 p3 p4 m
theorem Q1ba (G:Gt)(a0 a1 a2 a3 a4:V)(m:M):ef G Tryz.f17 [a0,a1,a2,a3,a4] m = Qik G a1 a0 a2 a3 a4 m:=
  evFn_of (r:=fun r m=>Qik G (r 1) (r 0) (r 2) (r 3) (r 4) m) rfl rfl (tr (seqQ (f:=fun r m=>Qqm G (r 0) (r 6) (r 2) (r 3) (r 4) m) (tr (seqQ (f:=fun r m=>Qql G (r 13) (r 2) (r 12) (r 0) (r 3) (r 4) m) (tr (seqQ (f:=fun r m=>Qqk G (r 2) (r 12) (r 0) (r 3) (r 4) m) (tr (tr (seqQ (f:=fun r m=>Qqj G (r 0) (r 3) (r 12) (r 2) (r 4) m) (tr (seqQ (f:=fun r m=>Qqi G (r 0) (r 12) (r 2) (r 4) (r 3) m) (tr (seqQ (f:=fun r m=>Qqh G (r 12) (r 2) (r 16) (r 0) (r 4) (r 3) m) (tr (seqQ (f:=fun r m=>Qqg G (r 12) (r 2) (r 16) (r 0) (r 17) (r 4) (r 3) m) (tr (tr (seqQ (f:=fun r m=>Qqe G (r 16) (r 17) m) (fun r m=>by kernel_rfl)) (seqQ (f:=fun r m=>Qqf G (r 66) (r 65) (r 64) (r 16) (r 0) (r 17) (r 4) (r 3) m) (tr (blockQ (loopQ (fun i r m=>Qfl G i (r 66) (r 65) (r 64) (r 16) (r 0) (r 17) (r 4) (r 3) m) (fun _ _=>rfl) (fun i0=>fun r m=>by kernel_rfl))) (fun r m=>by kernel_rfl)))) (fun r m=>by kernel_rfl))) (fun r m=>by kernel_rfl))) (fun r m=>by kernel_rfl))) (fun r m=>by kernel_rfl))) (seqQ (f:=fun r m=>Qez G (r 37) (r 0) (r 3) (r 12) (r 2) (r 4) m) (fun r m=>by kernel_rfl))) (fun r m=>by kernel_rfl))) (fun r m=>by kernel_rfl))) (fun r m=>by kernel_rfl))) (fun r m=>by kernel_rfl)) m
def Q19z:En:=⟨Qi6,Tryz.f17,Tryz.func17,by kernel_rfl,arg5 (fun G a0 a1 a2 a3 a4 m=>Qik G a1 a0 a2 a3 a4 m),okarg5 Q1ba⟩
def Ql1 (G:Gt)(p1 p0 p2:V)(m:M):R:=
  bp (some (aNew Q5b (Value.cells p1).toList m)) fun x0 m=>
  bp (pur (aFieldAddr 3 x0) m) fun x1 m=>
  bp (pur (aLoad false 1 x1 m) m) fun x2 m=>
  bp (pur (aNilCheck p0) m) fun x3 m=>
  bp (pur (aFieldAddr 0 x3) m) fun x4 m=>
  bp (pur (aLoad false 1 x4 m) m) fun x5 m=>
  bp (pur (aFieldAddr 4 x0) m) fun x6 m=>
  bp (pur (aLoad false 1 x6 m) m) fun x7 m=>
  bp (G.tab Q3d [x5,x7,p2] m) fun x8 m=>
  ckB (again (pur (aLoad false 1 x1 m) m) x2 && true)
  (bp (pur (aExtract x8 0) m) fun x9 m=>
  bp (pur (aExtract x8 1) m) fun x10 m=>
  bp (G.tab Q1 [p0,x9,x10] m) fun x11 m=>
  ckB (again (pur (aLoad false 1 x1 m) m) x2 && true)
  (bp (G.tab Qkm [p0,x2,x11] m) fun x12 m=>
  bp (pur (aFieldAddr 1 x0) m) fun x13 m=>
  bp (pur (aLoad false 1 x13 m) m) fun x14 m=>
  bp (pur (aNilCheck p0) m) fun x15 m=>
  bp (pur (aFieldAddr 0 x15) m) fun x16 m=>
  bp (pur (aLoad false 1 x16 m) m) fun x17 m=>
  bp (pur (aFieldAddr 2 x0) m) fun x18 m=>
  bp (pur (aLoad false 1 x18 m) m) fun x19 m=>
  bp (G.tab Q3d [x17,x19,x12] m) fun x20 m=>
  ckB (again (pur (aLoad false 1 x13 m) m) x14 && true)
  (bp (pur (aExtract x20 0) m) fun x21 m=>
  bp (pur (aExtract x20 1) m) fun x22 m=>
  bp (G.tab Q1 [p0,x21,x22] m) fun x23 m=>
  ckB (again (pur (aLoad false 1 x13 m) m) x14 && true)
  (bp (G.tab Qkm [p0,x14,x23] m) fun x24 m=>
  bp (pur (aNilCheck p0) m) fun x25 m=>
  bp (pur (aFieldAddr 0 x25) m) fun x26 m=>
  bp (pur (aLoad false 1 x26 m) m) fun x27 m=>
  bp (pur (aFieldAddr 0 x0) m) fun x28 m=>
  bp (pur (aLoad false 1 x28 m) m) fun x29 m=>
  bp (G.tab Q3d [x27,x29,x24] m) fun x30 m=>
  bp (pur (aExtract x30 0) m) fun x31 m=>
  bp (pur (aExtract x30 1) m) fun x32 m=>
  bp (G.tab Q1 [p0,x31,x32] m) fun x33 m=>
  some (x33,m)))))
theorem Q1dg (G:Gt)(a0 a1 a2:V)(m:M):ef G Tryz.f18 [a0,a1,a2] m = Ql1 G a1 a0 a2 m:=
  evFn_of (r:=fun r m=>Ql1 G (r 1) (r 0) (r 2) m) rfl rfl (fun r m=>by kernel_rfl) m
def Q1ct:En:=⟨Qd3,Tryz.f18,Tryz.func18,by kernel_rfl,arg3 (fun G a0 a1 a2 m=>Ql1 G a1 a0 a2 m),okarg3 Q1dg⟩
def Qjo (G:Gt)(p1 p0 p2:V)(m:M):R:=
  bp (some (aNew Q5b (Value.cells p1).toList m)) fun x0 m=>
  bp (pur (aFieldAddr 1 x0) m) fun x1 m=>
  bp (pur (aLoad false 1 x1 m) m) fun x2 m=>
  bp (pur (aNilCheck p0) m) fun x3 m=>
  bp (pur (aFieldAddr 0 x3) m) fun x4 m=>
  bp (pur (aLoad false 1 x4 m) m) fun x5 m=>
  bp (pur (aFieldAddr 0 x0) m) fun x6 m=>
  bp (pur (aLoad false 1 x6 m) m) fun x7 m=>
  bp (G.tab Q3d [x5,x7,p2] m) fun x8 m=>
  ckB (again (pur (aLoad false 1 x1 m) m) x2 && true)
  (bp (pur (aExtract x8 0) m) fun x9 m=>
  bp (pur (aExtract x8 1) m) fun x10 m=>
  bp (G.tab Q1 [p0,x9,x10] m) fun x11 m=>
  ckB (again (pur (aLoad false 1 x1 m) m) x2 && true)
  (bp (G.tab Qox [p0,x2,x11] m) fun x12 m=>
  bp (pur (aFieldAddr 3 x0) m) fun x13 m=>
  bp (pur (aLoad false 1 x13 m) m) fun x14 m=>
  bp (pur (aNilCheck p0) m) fun x15 m=>
  bp (pur (aFieldAddr 0 x15) m) fun x16 m=>
  bp (pur (aLoad false 1 x16 m) m) fun x17 m=>
  bp (pur (aFieldAddr 2 x0) m) fun x18 m=>
  bp (pur (aLoad false 1 x18 m) m) fun x19 m=>
  bp (G.tab Q3d [x17,x19,x12] m) fun x20 m=>
  ckB (again (pur (aLoad false 1 x13 m) m) x14 && true)
  (bp (pur (aExtract x20 0) m) fun x21 m=>
  bp (pur (aExtract x20 1) m) fun x22 m=>
  bp (G.tab Q1 [p0,x21,x22] m) fun x23 m=>
  ckB (again (pur (aLoad false 1 x13 m) m) x14 && true)
  (bp (G.tab Qox [p0,x14,x23] m) fun x24 m=>
  bp (pur (aNilCheck p0) m) fun x25 m=>
  bp (pur (aFieldAddr 0 x25) m) fun x26 m=>
  bp (pur (aLoad false 1 x26 m) m) fun x27 m=>
  bp (pur (aFieldAddr 4 x0) m) fun x28 m=>
  bp (pur (aLoad false 1 x28 m) m) fun x29 m=>
  bp (G.tab Q3d [x27,x29,x24] m) fun x30 m=>
  bp (pur (aExtract x30 0) m) fun x31 m=>
  bp (pur (aExtract x30 1) m) fun x32 m=>
  bp (G.tab Q1 [p0,x31,x32] m) fun x33 m=>
  some (x33,m)))))
theorem Q1bx (G:Gt)(a0 a1 a2:V)(m:M):ef G Tryz.f19 [a0,a1,a2] m = Qjo G a1 a0 a2 m:=
  evFn_of (r:=fun r m=>Qjo G (r 1) (r 0) (r 2) m) rfl rfl (fun r m=>by kernel_rfl) m
def Q1bi:En:=⟨Qw1,Tryz.f19,Tryz.func19,by kernel_rfl,arg3 (fun G a0 a1 a2 m=>Qjo G a1 a0 a2 m),okarg3 Q1bx⟩
def Q1dh (G:Gt)(p11 p0:V)(m:M):R:=
  brb p11
  (some (.tuple ⟨[(.pointer none),(.int .i64 1)]⟩,m))
  (bp (G.tab Q1q8 [(.int .i64 208),p0] m) fun x0 m=>
  bp (pur (aExtract x0 0) m) fun x1 m=>
  bp (pur (aExtract x0 1) m) fun x2 m=>
  bp (pur (bin .neq true true .int x2 (.int .i64 0)) m) fun x3 m=>
  brb x3
  (some (.tuple ⟨[(.pointer none),x2]⟩,m))
  (bp (some (aMakeMap m)) fun x4 m=>
  bp (pur (aBuild Q1u6 [(0,1),(1,1)] [(0,x1),(1,x4)]) m) fun x5 m=>
  bp (some (aNew Q1tz (Value.cells x5).toList m)) fun x6 m=>
  some (.tuple ⟨[x6,(.int .i64 0)]⟩,m)))
def Q1mn (G:Gt)(p0:V)(m:M):R:=
  bp (pur (bin .lss true true .int p0 (.int .i64 0)) m) fun x7 m=>
  brb x7
  (Q1dh G (.bool true) p0 m)
  (bp (pur (bin .gtr true true .int p0 (.int .i64 4194304)) m) fun x8 m=>
  Q1dh G x8 p0 m)
def Q1kj (G:Gt)(p0:V)(m:M):R:=
  Q1mn G p0 m
theorem Q1wm (G:Gt)(a0:V)(m:M):ef G Tryz.f20 [a0] m = Q1kj G a0 m:=
  evFn_of (r:=fun r m=>Q1kj G (r 0) m) rfl rfl (tr (seqQ (f:=fun r m=>Q1mn G (r 0) m) (tr (tr seqD (seqQ (f:=fun r m=>Q1dh G (r 11) (r 0) m) (fun r m=>by kernel_rfl))) (fun r m=>by kernel_rfl))) (fun r m=>by kernel_rfl)) m
def Q1w3:En:=⟨Q1q9,Tryz.f20,Tryz.func20,by kernel_rfl,arg1 Q1kj,okarg1 Q1wm⟩
def Qzb (G:Gt)(p8 p2 p3:V)(m:M):R:=
  bp (pur (aNilCheck p8) m) fun x0 m=>
  bp (pur (aFieldAddr 0 x0) m) fun x1 m=>
  bp (pur (aLoad true 12 x1 m) m) fun x2 m=>
  bp (pur (aBuild Q65 [(0,1),(1,1)] []) m) fun x3 m=>
  bp (unt (aStore 12 p2 x2 m)) fun _ m=>
  bp (unt (aStore 2 p3 x3 m)) fun _ m=>
  ob (ob (aLoad true 12 p2 m) fun v=>ob (ob (aLoad true 2 p3 m) fun v=>ob (some [(.int .i64 0)]) fun l=>some (v :: l)) fun l=>some (v :: l)) fun l=>some (resVal l,m)
def Ql2 (G:Gt):Nat → V → V → V → V → M → R
 | 0,_,_,_,_,_=>none
 | i + 1,p12,p8,p2,p3,m=>
  bp (pur (aNilCheck p8) m) fun x4 m=>
  bp (pur (aFieldAddr 0 x4) m) fun x5 m=>
  bp (pur (aFieldAddr 9 x5) m) fun x6 m=>
  bp (pur (aLoad false 1 x6 m) m) fun x7 m=>
  bp (pur (lenK 1 x7 m) m) fun x8 m=>
  bp (pur (bin .lss false true .int p12 x8) m) fun x9 m=>
  brb x9
  (bp (pur (aNilCheck p8) m) fun x10 m=>
  bp (pur (aFieldAddr 0 x10) m) fun x11 m=>
  bp (pur (aFieldAddr 9 x11) m) fun x12 m=>
  bp (pur (aLoad false 1 x12 m) m) fun x13 m=>
  bp (pur (aNilCheck p8) m) fun x14 m=>
  bp (pur (aFieldAddr 0 x14) m) fun x15 m=>
  bp (pur (aFieldAddr 9 x15) m) fun x16 m=>
  bp (pur (aLoad false 1 x16 m) m) fun x17 m=>
  bp (pur (aIndexAddrSl 3 x17 p12) m) fun x18 m=>
  bp (pur (aFieldAddr 1 x18) m) fun x19 m=>
  bp (pur (aLoad false 1 x19 m) m) fun x20 m=>
  bp (G.tab Q1ep [x20] m) fun x21 m=>
  ckB (again (pur (aLoad false 1 x12 m) m) x13 && true)
  (bp (pur (aIndexAddrSl 3 x13 p12) m) fun x22 m=>
  bp (pur (aFieldAddr 1 x22) m) fun x23 m=>
  bp (unt (aStore 1 x23 x21 m)) fun _ m=>
  bp (pur (bin .add true true .int p12 (.int .i64 1)) m) fun x24 m=>
  (Ql2 G i) x24 p8 p2 p3 m))
  (Qzb G p8 p2 p3 m)
def Qzc (G:Gt)(p12 p8 p2 p3:V)(m:M):R:=
  Ql2 G G.rds p12 p8 p2 p3 m
def Qzd (G:Gt)(p8 p2 p3:V)(m:M):R:=
  Qzc G (.int .i64 0) p8 p2 p3 m
def Qze (G:Gt)(p8 p2 p3:V)(m:M):R:=
  bp (pur (aNilCheck p8) m) fun x25 m=>
  bp (pur (aFieldAddr 0 x25) m) fun x26 m=>
  bp (pur (aFieldAddr 0 x26) m) fun x27 m=>
  bp (pur (aLoad false 1 x27 m) m) fun x28 m=>
  bp (pur (bin .eql true true .str x28 (.string ⟨#[]⟩)) m) fun x29 m=>
  brb x29
  (bp (pur (aBuild Q1b [(0,1),(1,1),(2,1),(3,1),(4,1),(5,1),(6,1),(7,1),(8,1),(9,1),(10,1),(11,1)] []) m) fun x30 m=>
  bp (pur (aBuild Q65 [(0,1),(1,1)] []) m) fun x31 m=>
  bp (unt (aStore 12 p2 x30 m)) fun _ m=>
  bp (unt (aStore 2 p3 x31 m)) fun _ m=>
  ob (ob (aLoad true 12 p2 m) fun v=>ob (ob (aLoad true 2 p3 m) fun v=>ob (some [(.int .i64 5)]) fun l=>some (v :: l)) fun l=>some (v :: l)) fun l=>some (resVal l,m))
  (Qzd G p8 p2 p3 m)
def Qjp (G:Gt)(k0:V → V → V → V → V → M → R)(p10 p2 p3 p8 p11 p9 p5:V)(m:M):R:=
  bp (pur (aNilCheck p10) m) fun x32 m=>
  bp (pur (aFieldAddr 4 x32) m) fun x33 m=>
  bp (pur (aLoad false 1 x33 m) m) fun x34 m=>
  bp (pur (bin .neq true true .int x34 (.int .i64 0)) m) fun x35 m=>
  brb x35
  (bp (pur (aBuild Q1b [(0,1),(1,1),(2,1),(3,1),(4,1),(5,1),(6,1),(7,1),(8,1),(9,1),(10,1),(11,1)] []) m) fun x36 m=>
  bp (pur (aNilCheck p10) m) fun x37 m=>
  bp (pur (aFieldAddr 2 x37) m) fun x38 m=>
  bp (pur (aLoad true 2 x38 m) m) fun x39 m=>
  bp (pur (aNilCheck p10) m) fun x40 m=>
  bp (pur (aFieldAddr 4 x40) m) fun x41 m=>
  bp (pur (aLoad false 1 x41 m) m) fun x42 m=>
  bp (unt (aStore 12 p2 x36 m)) fun _ m=>
  ckB (again (pur (aLoad true 2 x38 m) m) x39 && (again (pur (aLoad false 1 x41 m) m) x42 && true))
  (bp (unt (aStore 2 p3 x39 m)) fun _ m=>
  ckB (again (pur (aLoad false 1 x41 m) m) x42 && true)
  (ob (ob (aLoad true 12 p2 m) fun v=>ob (ob (aLoad true 2 p3 m) fun v=>ob (some [x42]) fun l=>some (v :: l)) fun l=>some (v :: l)) fun l=>some (resVal l,m))))
  (bp (pur (aNilCheck p8) m) fun x43 m=>
  bp (pur (aFieldAddr 16 x43) m) fun x44 m=>
  bp (pur (aLoad false 1 x44 m) m) fun x45 m=>
  brb x45
  (bp (pur (aBuild Q1b [(0,1),(1,1),(2,1),(3,1),(4,1),(5,1),(6,1),(7,1),(8,1),(9,1),(10,1),(11,1)] []) m) fun x46 m=>
  bp (pur (aLoad true 2 p11 m) m) fun x47 m=>
  bp (unt (aStore 12 p2 x46 m)) fun _ m=>
  ckB (again (pur (aLoad true 2 p11 m) m) x47 && true)
  (bp (unt (aStore 2 p3 x47 m)) fun _ m=>
  ob (ob (aLoad true 12 p2 m) fun v=>ob (ob (aLoad true 2 p3 m) fun v=>ob (some [(.int .i64 7)]) fun l=>some (v :: l)) fun l=>some (v :: l)) fun l=>some (resVal l,m)))
  (bp (pur (aNilCheck p8) m) fun x48 m=>
  bp (pur (aFieldAddr 17 x48) m) fun x49 m=>
  bp (pur (aLoad false 1 x49 m) m) fun x50 m=>
  brb x50
  (bp (pur (aBuild Q1b [(0,1),(1,1),(2,1),(3,1),(4,1),(5,1),(6,1),(7,1),(8,1),(9,1),(10,1),(11,1)] []) m) fun x51 m=>
  bp (pur (aLoad true 2 p11 m) m) fun x52 m=>
  bp (unt (aStore 12 p2 x51 m)) fun _ m=>
  ckB (again (pur (aLoad true 2 p11 m) m) x52 && true)
  (bp (unt (aStore 2 p3 x52 m)) fun _ m=>
  ob (ob (aLoad true 12 p2 m) fun v=>ob (ob (aLoad true 2 p3 m) fun v=>ob (some [(.int .i64 120)]) fun l=>some (v :: l)) fun l=>some (v :: l)) fun l=>some (resVal l,m)))
  (bp (pur (bin .add true true .int p9 (.int .i64 1)) m) fun x53 m=>
  k0 x53 p5 p8 p2 p3 m)))
def Qjq (G:Gt)(k0:V → V → V → V → V → M → R)(p10 p2 p3 p8 p11 p9 p5:V)(m:M):R:=
  bp (G.tab Qsp [p10] m) fun x54 m=>
  brb x54
  (bp (G.tab Q3m [p10] m) fun x55 m=>
  bp (G.tab Q36 [p10,(.int .i64 130)] m) fun x56 m=>
  Qjp G k0 p10 p2 p3 p8 p11 p9 p5 m)
  (Qjp G k0 p10 p2 p3 p8 p11 p9 p5 m)
def Qw6 (G:Gt)(k0:V → V → V → V → V → M → R)(p5 p9 p8 p10 p2 p3 p11:V)(m:M):R:=
  bp (pur (aIndexAddrSl 2 p5 p9) m) fun x57 m=>
  bp (pur (aFieldAddr 0 x57) m) fun x58 m=>
  bp (pur (aLoad false 1 x58 m) m) fun x59 m=>
  bp (pur (bin .eql true true .int x59 (.int .i64 0)) m) fun x60 m=>
  brb x60
  (bp (pur (aNilCheck p8) m) fun x61 m=>
  bp (pur (aFieldAddr 12 x61) m) fun x62 m=>
  bp (unt (aStore 1 x62 (.string ⟨#[]⟩) m)) fun _ m=>
  bp (G.tab Qis [p8,p10] m) fun x63 m=>
  Qjq G k0 p10 p2 p3 p8 p11 p9 p5 m)
  (bp (G.tab Qo2 [p8,p10] m) fun x64 m=>
  Qjq G k0 p10 p2 p3 p8 p11 p9 p5 m)
def Qbz (G:Gt)(k0:V → V → V → V → V → M → R)(p68 p11 p2 p3 p5 p9 p8 p10:V)(m:M):R:=
  brb p68
  (bp (pur (aBuild Q1b [(0,1),(1,1),(2,1),(3,1),(4,1),(5,1),(6,1),(7,1),(8,1),(9,1),(10,1),(11,1)] []) m) fun x65 m=>
  bp (pur (aLoad true 2 p11 m) m) fun x66 m=>
  bp (unt (aStore 12 p2 x65 m)) fun _ m=>
  ckB (again (pur (aLoad true 2 p11 m) m) x66 && true)
  (bp (unt (aStore 2 p3 x66 m)) fun _ m=>
  ob (ob (aLoad true 12 p2 m) fun v=>ob (ob (aLoad true 2 p3 m) fun v=>ob (some [(.int .i64 70)]) fun l=>some (v :: l)) fun l=>some (v :: l)) fun l=>some (resVal l,m)))
  (Qw6 G k0 p5 p9 p8 p10 p2 p3 p11 m)
def Qw7 (G:Gt)(k0:V → V → V → V → V → M → R)(p5 p9 p8 p11 p2 p3 p10:V)(m:M):R:=
  bp (pur (aIndexAddrSl 2 p5 p9) m) fun x67 m=>
  bp (pur (aFieldAddr 0 x67) m) fun x68 m=>
  bp (pur (aLoad false 1 x68 m) m) fun x69 m=>
  bp (pur (bin .gtr true true .int x69 (.int .i64 1)) m) fun x70 m=>
  brb x70
  (Qbz G k0 (.bool true) p11 p2 p3 p5 p9 p8 p10 m)
  (bp (pur (aIndexAddrSl 2 p5 p9) m) fun x71 m=>
  bp (pur (aFieldAddr 0 x71) m) fun x72 m=>
  bp (pur (aLoad false 1 x72 m) m) fun x73 m=>
  bp (pur (bin .eql true true .int x73 (.int .i64 1)) m) fun x74 m=>
  brb x74
  (bp (pur (aNilCheck p8) m) fun x75 m=>
  bp (pur (aFieldAddr 12 x75) m) fun x76 m=>
  bp (pur (aLoad false 1 x76 m) m) fun x77 m=>
  bp (pur (bin .eql true true .str x77 (.string ⟨#[]⟩)) m) fun x78 m=>
  Qbz G k0 x78 p11 p2 p3 p5 p9 p8 p10 m)
  (Qbz G k0 (.bool false) p11 p2 p3 p5 p9 p8 p10 m))
def Qw8 (G:Gt)(k0:V → V → V → V → V → M → R)(p5 p9 p8 p2 p3 p10:V)(m:M):R:=
  bp (pur (aIndexAddrSl 2 p5 p9) m) fun x79 m=>
  bp (pur (aFieldAddr 1 x79) m) fun x80 m=>
  bp (pur (aLoad false 1 x80 m) m) fun x81 m=>
  bp (pur (aIndexAddrSl 3 x81 (.int .i64 0)) m) fun x82 m=>
  bp (pur (aFieldAddr 1 x82) m) fun x83 m=>
  bp (pur (aLoad true 2 x83 m) m) fun x84 m=>
  bp (some (aNew Qo0 Q65 m)) fun x85 m=>
  bp (unt (aStore 2 x85 x84 m)) fun _ m=>
  Qw7 G k0 p5 p9 p8 x85 p2 p3 p10 m
def Qw9 (G:Gt)(k0:V → V → V → V → V → M → R)(p5 p9 p8 p2 p3:V)(m:M):R:=
  bp (pur (aIndexAddrSl 2 p5 p9) m) fun x86 m=>
  bp (pur (aFieldAddr 1 x86) m) fun x87 m=>
  bp (pur (aLoad false 1 x87 m) m) fun x88 m=>
  bp (pur (aBuild Q1ir [(0,1),(1,1),(2,2),(4,1)] [(0,x88)]) m) fun x89 m=>
  bp (some (aNew Q1im (Value.cells x89).toList m)) fun x90 m=>
  Qw8 G k0 p5 p9 p8 p2 p3 x90 m
def Q1l (G:Gt):Nat → V → V → V → V → V → M → R
 | 0,_,_,_,_,_,_=>none
 | i + 1,p9,p5,p8,p2,p3,m=>
  bp (pur (lenK 1 p5 m) m) fun x91 m=>
  bp (pur (bin .lss false true .int p9 x91) m) fun x92 m=>
  brb x92
  (Qw9 G (Q1l G i) p5 p9 p8 p2 p3 m)
  (Qze G p8 p2 p3 m)
def Qzf (G:Gt)(p9 p5 p8 p2 p3:V)(m:M):R:=
  Q1l G G.rds p9 p5 p8 p2 p3 m
def Qzg (G:Gt)(p5 p8 p2 p3:V)(m:M):R:=
  Qzf G (.int .i64 0) p5 p8 p2 p3 m
def Qzh (G:Gt)(p5 p2 p3:V)(m:M):R:=
  bp (pur (aBuild Q1b [(0,1),(1,1),(2,1),(3,1),(4,1),(5,1),(6,1),(7,1),(8,1),(9,1),(10,1),(11,1)] [(1,(.int .u8 1))]) m) fun x93 m=>
  bp (pur (aBuild Q1gf [(0,12),(12,1),(13,1),(14,1),(15,1),(16,1),(17,1)] [(0,x93)]) m) fun x94 m=>
  bp (some (aNew Q1g9 (Value.cells x94).toList m)) fun x95 m=>
  Qzg G p5 x95 p2 p3 m
def Qzi (G:Gt)(p7 p6 p2 p3 p5:V)(m:M):R:=
  bp (pur (bin .neq true true .int p7 (.int .i64 0)) m) fun x96 m=>
  brb x96
  (bp (pur (aBuild Q1b [(0,1),(1,1),(2,1),(3,1),(4,1),(5,1),(6,1),(7,1),(8,1),(9,1),(10,1),(11,1)] []) m) fun x97 m=>
  bp (pur (aLoad true 2 p6 m) m) fun x98 m=>
  bp (unt (aStore 12 p2 x97 m)) fun _ m=>
  ckB (again (pur (aLoad true 2 p6 m) m) x98 && true)
  (bp (unt (aStore 2 p3 x98 m)) fun _ m=>
  ob (ob (aLoad true 12 p2 m) fun v=>ob (ob (aLoad true 2 p3 m) fun v=>ob (some [p7]) fun l=>some (v :: l)) fun l=>some (v :: l)) fun l=>some (resVal l,m)))
  (Qzh G p5 p2 p3 m)
def Qzj (G:Gt)(p0 p2 p3:V)(m:M):R:=
  bp (G.tab Q12s [p0] m) fun x99 m=>
  bp (pur (aExtract x99 0) m) fun x100 m=>
  bp (pur (aExtract x99 1) m) fun x101 m=>
  bp (pur (aExtract x99 2) m) fun x102 m=>
  bp (some (aNew Qo0 Q65 m)) fun x103 m=>
  bp (unt (aStore 2 x103 x101 m)) fun _ m=>
  Qzi G x102 x103 p2 p3 x100 m
def Qpv (G:Gt)(p0:V)(m:M):R:=
  bp (some (aNew Qx Q1b m)) fun x104 m=>
  bp (some (aNew Qo0 Q65 m)) fun x105 m=>
  Qzj G p0 x104 x105 m
theorem Q1gg (G:Gt)(a0:V)(m:M):ef G Tryz.f21 [a0] m = Qpv G a0 m:=
  evFn_of (r:=fun r m=>Qpv G (r 0) m) rfl rfl (tr (seqQ (f:=fun r m=>Qzj G (r 0) (r 2) (r 3) m) (tr (seqQ (f:=fun r m=>Qzi G (r 7) (r 6) (r 2) (r 3) (r 5) m) (tr (seqQ (f:=fun r m=>Qzh G (r 5) (r 2) (r 3) m) (tr (seqQ (f:=fun r m=>Qzg G (r 5) (r 8) (r 2) (r 3) m) (tr (tr (seqQ (f:=fun r m=>Qze G (r 8) (r 2) (r 3) m) (tr (seqQ (f:=fun r m=>Qzd G (r 8) (r 2) (r 3) m) (tr (tr (seqQ (f:=fun r m=>Qzb G (r 8) (r 2) (r 3) m) (fun r m=>by kernel_rfl)) (seqQ (f:=fun r m=>Qzc G (r 12) (r 8) (r 2) (r 3) m) (tr (blockQ (loopQ (fun i r m=>Ql2 G i (r 12) (r 8) (r 2) (r 3) m) (fun _ _=>rfl) (fun i0=>fun r m=>by kernel_rfl))) (fun r m=>by kernel_rfl)))) (fun r m=>by kernel_rfl))) (fun r m=>by kernel_rfl))) (seqQ (f:=fun r m=>Qzf G (r 9) (r 5) (r 8) (r 2) (r 3) m) (tr (blockQ (loopQ (fun i r m=>Q1l G i (r 9) (r 5) (r 8) (r 2) (r 3) m) (fun _ _=>rfl) (fun i0=>tr (seqQ (f:=fun r m=>Qw9 G (Q1l G i0) (r 5) (r 9) (r 8) (r 2) (r 3) m) (tr (tr seqD (blockQ (seqQ (f:=fun r m=>Qw8 G (Q1l G i0) (r 5) (r 9) (r 8) (r 2) (r 3) (r 10) m) (tr (seqQ (f:=fun r m=>Qw7 G (Q1l G i0) (r 5) (r 9) (r 8) (r 11) (r 2) (r 3) (r 10) m) (tr (tr (seqQ (f:=fun r m=>Qw6 G (Q1l G i0) (r 5) (r 9) (r 8) (r 10) (r 2) (r 3) (r 11) m) (tr (seqQ (f:=fun r m=>Qjq G (Q1l G i0) (r 10) (r 2) (r 3) (r 8) (r 11) (r 9) (r 5) m) (tr (seqQ (f:=fun r m=>Qjp G (Q1l G i0) (r 10) (r 2) (r 3) (r 8) (r 11) (r 9) (r 5) m) (fun r m=>by kernel_rfl)) (fun r m=>by kernel_rfl))) (fun r m=>by kernel_rfl))) (seqQ (f:=fun r m=>Qbz G (Q1l G i0) (r 68) (r 11) (r 2) (r 3) (r 5) (r 9) (r 8) (r 10) m) (fun r m=>by kernel_rfl))) (fun r m=>by kernel_rfl))) (fun r m=>by kernel_rfl))))) (fun r m=>by kernel_rfl))) (fun r m=>by kernel_rfl)))) (fun r m=>by kernel_rfl)))) (fun r m=>by kernel_rfl))) (fun r m=>by kernel_rfl))) (fun r m=>by kernel_rfl))) (fun r m=>by kernel_rfl))) (fun r m=>by kernel_rfl)) m
def Q1fd:En:=⟨Qpq,Tryz.f21,Tryz.func21,by kernel_rfl,arg1 Qpv,okarg1 Q1gg⟩
end
end Go.Ab.Sh

set_option linter.unusedVariables false
set_option maxRecDepth 100000
namespace Go.Ab.Sh
open Go Go.Ab Go.Proofs
noncomputable section
def Q1kk (G:Gt)(p7:V)(m:M):R:=
  bp (G.tab Q18k [p7] m) fun x0 m=>
  some (.tuple ⟨[p7,(.int .i64 0)]⟩,m)
def Q1hj (G:Gt)(k0:V → V → V → V → V → M → R)(p33 p32 p31 p7 p8:V)(m:M):R:=
  bp (pur (bin .add true true .int p33 (.int .i64 1)) m) fun x1 m=>
  k0 x1 p32 p31 p7 p8 m
def Qzn (G:Gt)(k1:V → V → V → V → V → V → V → V → V → M → R)(p41 p40 p39 p9 p7 p8 p33 p32 p31:V)(m:M):R:=
  bp (pur (bin .add true true .int p41 (.int .i64 1)) m) fun x2 m=>
  k1 x2 p40 p39 p9 p7 p8 p33 p32 p31 m
def Q1hk (G:Gt)(k1:V → V → V → V → V → V → V → V → V → M → R)(p8 p14 p13 p41 p40 p39 p9 p7 p33 p32 p31:V)(m:M):R:=
  bp (pur (aLoad true 2 p14 m) m) fun x3 m=>
  bp (pur (aLoad true 2 p13 m) m) fun x4 m=>
  bp (aBuildSlice Qw Q1x 2 1 [(0,x4)] m) fun x5 m=>
  bp (aMapEntry (.struct [(0,1,false,.int),(1,1,false,.int)]) (.slice none 0 0) p8 x3 m) fun x6 m=>
  bp (pur (aExtract x6 0) m) fun x7 m=>
  bp (apS Qw 2 16 x7 x5 m) fun x8 m=>
  bp (pur (aExtract x6 1) m) fun x9 m=>
  bp (unt (aEntryStore p8 x9 x8 m)) fun _ m=>
  Qzn G k1 p41 p40 p39 p9 p7 p8 p33 p32 p31 m
def Q18e (G:Gt)(k2:V → V → V → V → V → V → V → V → V → V → V → V → V → V → M → R)(p68 p67 p66 p9 p7 p13 p8 p14 p41 p40 p39 p33 p32 p31:V)(m:M):R:=
  bp (pur (bin .add true true .int p68 (.int .i64 1)) m) fun x10 m=>
  k2 x10 p67 p66 p9 p7 p13 p8 p14 p41 p40 p39 p33 p32 p31 m
def Q1hl (G:Gt)(k2:V → V → V → V → V → V → V → V → V → V → V → V → V → V → M → R)(p66 p68 p9 p7 p13 p67 p8 p14 p41 p40 p39 p33 p32 p31:V)(m:M):R:=
  bp (pur (aIndexAddrSl 2 p66 p68) m) fun x11 m=>
  bp (pur (aLoad true 2 x11 m) m) fun x12 m=>
  bp (some (aNew Qw Q1x m)) fun x13 m=>
  bp (unt (aStore 2 x13 x12 m)) fun _ m=>
  bp (pur (aFieldAddr 0 x13) m) fun x14 m=>
  bp (pur (aLoad false 1 x14 m) m) fun x15 m=>
  bp (pur (bin .neq false true .int x15 p9) m) fun x16 m=>
  brb x16
  (bp (pur (aNilCheck p7) m) fun x17 m=>
  bp (pur (aFieldAddr 1 x17) m) fun x18 m=>
  bp (pur (aLoad false 1 x18 m) m) fun x19 m=>
  bp (pur (aLoad true 2 p13 m) m) fun x20 m=>
  bp (pur (aNilCheck p7) m) fun x21 m=>
  bp (pur (aFieldAddr 1 x21) m) fun x22 m=>
  bp (pur (aLoad false 1 x22 m) m) fun x23 m=>
  bp (pur (aLoad true 2 x13 m) m) fun x24 m=>
  bp (pur (aNilCheck p7) m) fun x25 m=>
  bp (pur (aFieldAddr 1 x25) m) fun x26 m=>
  bp (pur (aLoad false 1 x26 m) m) fun x27 m=>
  bp (pur (aLoad true 2 p13 m) m) fun x28 m=>
  bp (pur (aLookup (.struct [(0,1,false,.int),(1,1,false,.int)]) (.slice none 0 0) false x27 x28 m) m) fun x29 m=>
  bp (pur (aLoad true 2 x13 m) m) fun x30 m=>
  bp (aBuildSlice Qw Q1x 2 1 [(0,x30)] m) fun x31 m=>
  bp (pur (aNilCheck p7) m) fun x32 m=>
  bp (pur (aFieldAddr 1 x32) m) fun x33 m=>
  bp (pur (aLoad false 1 x33 m) m) fun x34 m=>
  bp (pur (aLoad true 2 x13 m) m) fun x35 m=>
  bp (pur (aLookup (.struct [(0,1,false,.int),(1,1,false,.int)]) (.slice none 0 0) false x34 x35 m) m) fun x36 m=>
  bp (pur (aLoad true 2 p13 m) m) fun x37 m=>
  bp (aBuildSlice Qw Q1x 2 1 [(0,x37)] m) fun x38 m=>
  bp (apS Qw 2 16 x29 x31 m) fun x39 m=>
  ckB (again (pur (aLoad false 1 x18 m) m) x19 && (again (pur (aLoad true 2 p13 m) m) x20 && (again (pur (aLoad false 1 x22 m) m) x23 && (again (pur (aLoad true 2 x13 m) m) x24 && (again (pur (aLoad false 1 x33 m) m) x34 && (again (pur (aLoad true 2 x13 m) m) x35 && (again (pur (aLookup (.struct [(0,1,false,.int),(1,1,false,.int)]) (.slice none 0 0) false x34 x35 m) m) x36 && (again (pur (aLoad true 2 p13 m) m) x37 && true))))))))
  (bp (apS Qw 2 16 x36 x38 m) fun x40 m=>
  ckB (again (pur (aLoad false 1 x18 m) m) x19 && (again (pur (aLoad true 2 p13 m) m) x20 && (again (pur (aLoad false 1 x22 m) m) x23 && (again (pur (aLoad true 2 x13 m) m) x24 && true))))
  (bp (aMapEntry (.struct [(0,1,false,.int),(1,1,false,.int)]) (.slice none 0 0) x19 x20 m) fun x41 m=>
  ckB (again (pur (aLoad true 2 x13 m) m) x24 && true)
  (bp (pur (aExtract x41 1) m) fun x42 m=>
  bp (unt (aEntryStore x19 x42 x39 m)) fun _ m=>
  ckB (again (pur (aLoad true 2 x13 m) m) x24 && true)
  (bp (aMapEntry (.struct [(0,1,false,.int),(1,1,false,.int)]) (.slice none 0 0) x23 x24 m) fun x43 m=>
  bp (pur (aExtract x43 1) m) fun x44 m=>
  bp (unt (aEntryStore x23 x44 x40 m)) fun _ m=>
  Q18e G k2 p68 p67 p66 p9 p7 p13 p8 p14 p41 p40 p39 p33 p32 p31 m)))))
  (Q18e G k2 p68 p67 p66 p9 p7 p13 p8 p14 p41 p40 p39 p33 p32 p31 m)
def Q1hm (G:Gt)(k2:V → V → V → V → V → V → V → V → V → V → V → V → V → V → M → R)(k1:V → V → V → V → V → V → V → V → V → M → R)(p69 p66 p68 p9 p7 p13 p67 p8 p14 p41 p40 p39 p33 p32 p31:V)(m:M):R:=
  brb p69
  (Q1hl G k2 p66 p68 p9 p7 p13 p67 p8 p14 p41 p40 p39 p33 p32 p31 m)
  (Q1hk G k1 p8 p14 p13 p41 p40 p39 p9 p7 p33 p32 p31 m)
def Qjs (G:Gt)(k1:V → V → V → V → V → V → V → V → V → M → R):Nat → V → V → V → V → V → V → V → V → V → V → V → V → V → V → M → R
 | 0,_,_,_,_,_,_,_,_,_,_,_,_,_,_,_=>none
 | i + 1,p68,p67,p66,p9,p7,p13,p8,p14,p41,p40,p39,p33,p32,p31,m=>
  bp (pur (bin .lss false true .int p68 p67) m) fun x45 m=>
  Q1hm G (Qjs G k1 i) k1 x45 p66 p68 p9 p7 p13 p67 p8 p14 p41 p40 p39 p33 p32 p31 m
def Q1hn (G:Gt)(k1:V → V → V → V → V → V → V → V → V → M → R)(p68 p67 p66 p9 p7 p13 p8 p14 p41 p40 p39 p33 p32 p31:V)(m:M):R:=
  Qjs G k1 G.rds p68 p67 p66 p9 p7 p13 p8 p14 p41 p40 p39 p33 p32 p31 m
def Q1ho (G:Gt)(k1:V → V → V → V → V → V → V → V → V → M → R)(p8 p14 p9 p7 p13 p41 p40 p39 p33 p32 p31:V)(m:M):R:=
  bp (pur (aLoad true 2 p14 m) m) fun x46 m=>
  bp (pur (aLookup (.struct [(0,1,false,.int),(1,1,false,.int)]) (.slice none 0 0) false p8 x46 m) m) fun x47 m=>
  bp (pur (lenK 1 x47 m) m) fun x48 m=>
  Q1hn G k1 (.int .i64 0) x48 x47 p9 p7 p13 p8 p14 p41 p40 p39 p33 p32 p31 m
def Q1hp (G:Gt)(k1:V → V → V → V → V → V → V → V → V → M → R)(p14 p41 p40 p39 p9 p7 p8 p33 p32 p31 p13:V)(m:M):R:=
  bp (pur (aFieldAddr 1 p14) m) fun x49 m=>
  bp (pur (aLoad false 1 x49 m) m) fun x50 m=>
  bp (pur (bin .gtr true true .int x50 (.int .i64 31)) m) fun x51 m=>
  brb x51
  (Qzn G k1 p41 p40 p39 p9 p7 p8 p33 p32 p31 m)
  (Q1ho G k1 p8 p14 p9 p7 p13 p41 p40 p39 p33 p32 p31 m)
def Q1hq (G:Gt)(k1:V → V → V → V → V → V → V → V → V → M → R)(p7 p12 p13 p14 p41 p40 p39 p9 p8 p33 p32 p31:V)(m:M):R:=
  bp (pur (aNilCheck p7) m) fun x52 m=>
  bp (pur (aFieldAddr 2 x52) m) fun x53 m=>
  bp (pur (aLoad false 1 x53 m) m) fun x54 m=>
  bp (pur (aFieldAddr 2 p12) m) fun x55 m=>
  bp (pur (aLoad false 1 x55 m) m) fun x56 m=>
  bp (pur (aLoad true 2 p13 m) m) fun x57 m=>
  bp (unt (aMapUpdate .int x54 x56 x57 m)) fun _ m=>
  Q1hp G k1 p14 p41 p40 p39 p9 p7 p8 p33 p32 p31 p13 m
def Q1hr (G:Gt)(k1:V → V → V → V → V → V → V → V → V → M → R)(p9 p11 p12 p7 p41 p40 p39 p8 p33 p32 p31:V)(m:M):R:=
  bp (pur (aBuild Q1x [(0,1),(1,1)] [(0,p9),(1,p11)]) m) fun x58 m=>
  bp (pur (aLoad true 11 p12 m) m) fun x59 m=>
  bp (G.tab Q1gn [x59] m) fun x60 m=>
  bp (some (aNew Qw Q1x m)) fun x61 m=>
  bp (some (aNew Q66 Q2p m)) fun x62 m=>
  bp (unt (aStore 2 x61 x58 m)) fun _ m=>
  bp (unt (aStore 2 x62 x60 m)) fun _ m=>
  Q1hq G k1 p7 p12 x61 x62 p41 p40 p39 p9 p8 p33 p32 p31 m
def Q1hs (G:Gt)(k1:V → V → V → V → V → V → V → V → V → M → R)(p12 p41 p40 p39 p9 p7 p8 p33 p32 p31 p11:V)(m:M):R:=
  bp (pur (aLoad true 11 p12 m) m) fun x63 m=>
  bp (G.tab Qt7 [x63] m) fun x64 m=>
  bp (pur (un .not x64) m) fun x65 m=>
  brb x65
  (Qzn G k1 p41 p40 p39 p9 p7 p8 p33 p32 p31 m)
  (Q1hr G k1 p9 p11 p12 p7 p41 p40 p39 p8 p33 p32 p31 m)
def Q1ht (G:Gt)(k1:V → V → V → V → V → V → V → V → V → M → R)(p41 p39 p40 p9 p7 p8 p33 p32 p31:V)(m:M):R:=
  bp (pur (aIndexAddrSl 11 p39 p41) m) fun x66 m=>
  bp (pur (aLoad true 11 x66 m) m) fun x67 m=>
  bp (some (aNew Q1r Q7y m)) fun x68 m=>
  bp (unt (aStore 11 x68 x67 m)) fun _ m=>
  Q1hs G k1 x68 p41 p40 p39 p9 p7 p8 p33 p32 p31 p41 m
def Q1hu (G:Gt)(k1:V → V → V → V → V → V → V → V → V → M → R)(k0:V → V → V → V → V → M → R)(p42 p41 p39 p40 p9 p7 p8 p33 p32 p31:V)(m:M):R:=
  brb p42
  (Q1ht G k1 p41 p39 p40 p9 p7 p8 p33 p32 p31 m)
  (Q1hj G k0 p33 p32 p31 p7 p8 m)
def Q1q (G:Gt)(k0:V → V → V → V → V → M → R):Nat → V → V → V → V → V → V → V → V → V → M → R
 | 0,_,_,_,_,_,_,_,_,_,_=>none
 | i + 1,p41,p40,p39,p9,p7,p8,p33,p32,p31,m=>
  bp (pur (bin .lss false true .int p41 p40) m) fun x69 m=>
  Q1hu G (Q1q G k0 i) k0 x69 p41 p39 p40 p9 p7 p8 p33 p32 p31 m
def Q1hv (G:Gt)(k0:V → V → V → V → V → M → R)(p41 p40 p39 p9 p7 p8 p33 p32 p31:V)(m:M):R:=
  Q1q G k0 G.rds p41 p40 p39 p9 p7 p8 p33 p32 p31 m
def Q1hw (G:Gt)(k0:V → V → V → V → V → M → R)(p10 p9 p7 p8 p33 p32 p31:V)(m:M):R:=
  bp (pur (aFieldAddr 3 p10) m) fun x70 m=>
  bp (pur (aLoad false 1 x70 m) m) fun x71 m=>
  bp (pur (lenK 1 x71 m) m) fun x72 m=>
  Q1hv G k0 (.int .i64 0) x72 x71 p9 p7 p8 p33 p32 p31 m
def Q1kl (G:Gt)(k0:V → V → V → V → V → M → R)(p33 p31 p7 p8 p32:V)(m:M):R:=
  bp (pur (aIndexAddrSl 12 p31 p33) m) fun x73 m=>
  bp (pur (aLoad true 12 x73 m) m) fun x74 m=>
  bp (some (aNew Qx Q1b m)) fun x75 m=>
  bp (unt (aStore 12 x75 x74 m)) fun _ m=>
  Q1hw G k0 x75 p33 p7 p8 p33 p32 p31 m
def Q1km (G:Gt)(k0:V → V → V → V → V → M → R)(p34 p33 p31 p7 p8 p32:V)(m:M):R:=
  brb p34
  (Q1kl G k0 p33 p31 p7 p8 p32 m)
  (Q1kk G p7 m)
def Q16 (G:Gt):Nat → V → V → V → V → V → M → R
 | 0,_,_,_,_,_,_=>none
 | i + 1,p33,p32,p31,p7,p8,m=>
  bp (pur (bin .lss false true .int p33 p32) m) fun x76 m=>
  Q1km G (Q16 G i) x76 p33 p31 p7 p8 p32 m
def Q1kn (G:Gt)(p33 p32 p31 p7 p8:V)(m:M):R:=
  Q16 G G.rds p33 p32 p31 p7 p8 m
def Q1ko (G:Gt)(p4 p7 p8:V)(m:M):R:=
  bp (pur (lenK 1 p4 m) m) fun x77 m=>
  Q1kn G (.int .i64 0) x77 p4 p7 p8 m
def Q1kp (G:Gt)(p4 p7:V)(m:M):R:=
  bp (some (aMakeMap m)) fun x78 m=>
  Q1ko G p4 p7 x78 m
def Q1kq (G:Gt)(p4:V)(m:M):R:=
  bp (some (aMakeMap m)) fun x79 m=>
  bp (some (aMakeMap m)) fun x80 m=>
  bp (pur (aBuild Q1u7 [(0,1),(1,1),(2,1),(3,1)] [(0,p4),(1,x79),(2,x80)]) m) fun x81 m=>
  bp (some (aNew Q1u0 (Value.cells x81).toList m)) fun x82 m=>
  Q1kp G p4 x82 m
def Q1kr (G:Gt)(p6 p4:V)(m:M):R:=
  bp (pur (bin .neq true true .int p6 (.int .i64 0)) m) fun x83 m=>
  brb x83
  (some (.tuple ⟨[(.pointer none),(.int .i64 121)]⟩,m))
  (Q1kq G p4 m)
def Q1ks (G:Gt)(p0:V)(m:M):R:=
  bp (G.tab Q102 [p0] m) fun x84 m=>
  bp (pur (aExtract x84 0) m) fun x85 m=>
  bp (pur (aExtract x84 1) m) fun x86 m=>
  bp (pur (aExtract x84 2) m) fun x87 m=>
  Q1kr G x87 x85 m
def Q1gh (G:Gt)(p0:V)(m:M):R:=
  Q1ks G p0 m
theorem Q1vi (G:Gt)(a0:V)(m:M):ef G Tryz.f22 [a0] m = Q1gh G a0 m:=
  evFn_of (r:=fun r m=>Q1gh G (r 0) m) rfl rfl (tr (seqQ (f:=fun r m=>Q1ks G (r 0) m) (tr (seqQ (f:=fun r m=>Q1kr G (r 6) (r 4) m) (tr (seqQ (f:=fun r m=>Q1kq G (r 4) m) (tr (seqQ (f:=fun r m=>Q1kp G (r 4) (r 7) m) (tr (seqQ (f:=fun r m=>Q1ko G (r 4) (r 7) (r 8) m) (tr (tr (seqQ (f:=fun r m=>Q1kk G (r 7) m) (fun r m=>by kernel_rfl)) (seqQ (f:=fun r m=>Q1kn G (r 33) (r 32) (r 31) (r 7) (r 8) m) (tr (blockQ (loopQ (fun i r m=>Q16 G i (r 33) (r 32) (r 31) (r 7) (r 8) m) (fun _ _=>rfl) (fun i0=>tr (seqQ (f:=fun r m=>Q1km G (Q16 G i0) (r 34) (r 33) (r 31) (r 7) (r 8) (r 32) m) (tr (seqQ (f:=fun r m=>Q1kl G (Q16 G i0) (r 33) (r 31) (r 7) (r 8) (r 32) m) (tr (tr (seqQ (f:=fun r m=>Q1hj G (Q16 G i0) (r 33) (r 32) (r 31) (r 7) (r 8) m) (fun r m=>by kernel_rfl)) (blockQ (seqQ (f:=fun r m=>Q1hw G (Q16 G i0) (r 10) (r 9) (r 7) (r 8) (r 33) (r 32) (r 31) m) (tr (seqQ (f:=fun r m=>Q1hv G (Q16 G i0) (r 41) (r 40) (r 39) (r 9) (r 7) (r 8) (r 33) (r 32) (r 31) m) (tr (blockQ (loopQ (fun i r m=>Q1q G (Q16 G i0) i (r 41) (r 40) (r 39) (r 9) (r 7) (r 8) (r 33) (r 32) (r 31) m) (fun _ _=>rfl) (fun i1=>tr (seqQ (f:=fun r m=>Q1hu G (Q1q G (Q16 G i0) i1) (Q16 G i0) (r 42) (r 41) (r 39) (r 40) (r 9) (r 7) (r 8) (r 33) (r 32) (r 31) m) (tr (seqQ (f:=fun r m=>Q1ht G (Q1q G (Q16 G i0) i1) (r 41) (r 39) (r 40) (r 9) (r 7) (r 8) (r 33) (r 32) (r 31) m) (tr (tr (seqQ (f:=fun r m=>Qzn G (Q1q G (Q16 G i0) i1) (r 41) (r 40) (r 39) (r 9) (r 7) (r 8) (r 33) (r 32) (r 31) m) (fun r m=>by kernel_rfl)) (blockQ (seqQ (f:=fun r m=>Q1hs G (Q1q G (Q16 G i0) i1) (r 12) (r 41) (r 40) (r 39) (r 9) (r 7) (r 8) (r 33) (r 32) (r 31) (r 11) m) (tr (seqQ (f:=fun r m=>Q1hr G (Q1q G (Q16 G i0) i1) (r 9) (r 11) (r 12) (r 7) (r 41) (r 40) (r 39) (r 8) (r 33) (r 32) (r 31) m) (tr (seqQ (f:=fun r m=>Q1hq G (Q1q G (Q16 G i0) i1) (r 7) (r 12) (r 13) (r 14) (r 41) (r 40) (r 39) (r 9) (r 8) (r 33) (r 32) (r 31) m) (tr (seqQ (f:=fun r m=>Q1hp G (Q1q G (Q16 G i0) i1) (r 14) (r 41) (r 40) (r 39) (r 9) (r 7) (r 8) (r 33) (r 32) (r 31) (r 13) m) (tr (seqQ (f:=fun r m=>Q1ho G (Q1q G (Q16 G i0) i1) (r 8) (r 14) (r 9) (r 7) (r 13) (r 41) (r 40) (r 39) (r 33) (r 32) (r 31) m) (tr (tr (seqQ (f:=fun r m=>Q1hk G (Q1q G (Q16 G i0) i1) (r 8) (r 14) (r 13) (r 41) (r 40) (r 39) (r 9) (r 7) (r 33) (r 32) (r 31) m) (fun r m=>by kernel_rfl)) (seqQ (f:=fun r m=>Q1hn G (Q1q G (Q16 G i0) i1) (r 68) (r 67) (r 66) (r 9) (r 7) (r 13) (r 8) (r 14) (r 41) (r 40) (r 39) (r 33) (r 32) (r 31) m) (tr (blockQ (loopQ (fun i r m=>Qjs G (Q1q G (Q16 G i0) i1) i (r 68) (r 67) (r 66) (r 9) (r 7) (r 13) (r 8) (r 14) (r 41) (r 40) (r 39) (r 33) (r 32) (r 31) m) (fun _ _=>rfl) (fun i2=>tr (seqQ (f:=fun r m=>Q1hm G (Qjs G (Q1q G (Q16 G i0) i1) i2) (Q1q G (Q16 G i0) i1) (r 69) (r 66) (r 68) (r 9) (r 7) (r 13) (r 67) (r 8) (r 14) (r 41) (r 40) (r 39) (r 33) (r 32) (r 31) m) (tr (seqQ (f:=fun r m=>Q1hl G (Qjs G (Q1q G (Q16 G i0) i1) i2) (r 66) (r 68) (r 9) (r 7) (r 13) (r 67) (r 8) (r 14) (r 41) (r 40) (r 39) (r 33) (r 32) (r 31) m) (tr (seqQ (f:=fun r m=>Q18e G (Qjs G (Q1q G (Q16 G i0) i1) i2) (r 68) (r 67) (r 66) (r 9) (r 7) (r 13) (r 8) (r 14) (r 41) (r 40) (r 39) (r 33) (r 32) (r 31) m) (fun r m=>by kernel_rfl)) (fun r m=>by kernel_rfl))) (fun r m=>by kernel_rfl))) (fun r m=>by kernel_rfl)))) (fun r m=>by kernel_rfl)))) (fun r m=>by kernel_rfl))) (fun r m=>by kernel_rfl))) (fun r m=>by kernel_rfl))) (fun r m=>by kernel_rfl))) (fun r m=>by kernel_rfl))))) (fun r m=>by kernel_rfl))) (fun r m=>by kernel_rfl))) (fun r m=>by kernel_rfl)))) (fun r m=>by kernel_rfl))) (fun r m=>by kernel_rfl))))) (fun r m=>by kernel_rfl))) (fun r m=>by kernel_rfl))) (fun r m=>by kernel_rfl)))) (fun r m=>by kernel_rfl)))) (fun r m=>by kernel_rfl))) (fun r m=>by kernel_rfl))) (fun r m=>by kernel_rfl))) (fun r m=>by kernel_rfl))) (fun r m=>by kernel_rfl))) (fun r m=>by kernel_rfl)) m
def Q1uy:En:=⟨Q1oa,Tryz.f22,Tryz.func22,by kernel_rfl,arg1 Q1gh,okarg1 Q1vi⟩
def Q1kt (G:Gt)(p6:V)(m:M):R:=
  some (.tuple ⟨[p6,(.int .i64 0)]⟩,m)
def Q1bb (G:Gt)(k0:V → V → V → V → M → R)(p22 p21 p20 p6:V)(m:M):R:=
  bp (pur (bin .add true true .int p22 (.int .i64 1)) m) fun x0 m=>
  k0 x0 p21 p20 p6 m
def Q1ku (G:Gt)(k0:V → V → V → V → M → R)(p20 p22 p6 p21:V)(m:M):R:=
  bp (pur (aIndexAddrSl 3 p20 p22) m) fun x1 m=>
  bp (pur (aLoad true 3 x1 m) m) fun x2 m=>
  bp (some (aNew Q1mf Q161 m)) fun x3 m=>
  bp (unt (aStore 3 x3 x2 m)) fun _ m=>
  bp (pur (aFieldAddr 0 x3) m) fun x4 m=>
  bp (pur (aLoad false 1 x4 m) m) fun x5 m=>
  bp (pur (aFieldAddr 1 x3) m) fun x6 m=>
  bp (pur (aLoad false 1 x6 m) m) fun x7 m=>
  bp (G.tab Q12v [p6,x5,x7] m) fun x8 m=>
  bp (pur (un .not x8) m) fun x9 m=>
  brb x9
  (some (.tuple ⟨[(.pointer none),(.int .i64 1)]⟩,m))
  (bp (pur (aFieldAddr 0 x3) m) fun x10 m=>
  bp (pur (aLoad false 1 x10 m) m) fun x11 m=>
  bp (pur (aFieldAddr 1 x3) m) fun x12 m=>
  bp (pur (aLoad false 1 x12 m) m) fun x13 m=>
  bp (pur (aBuild Q1fr [(0,1),(1,1)] [(0,x11),(1,x13)]) m) fun x14 m=>
  bp (some (aNew Q1v6 Q1fr m)) fun x15 m=>
  bp (unt (aStore 2 x15 x14 m)) fun _ m=>
  bp (pur (aNilCheck p6) m) fun x16 m=>
  bp (pur (aFieldAddr 2 x16) m) fun x17 m=>
  bp (pur (aLoad false 1 x17 m) m) fun x18 m=>
  bp (pur (aLoad true 2 x15 m) m) fun x19 m=>
  bp (pur (aLookup (.struct [(0,1,false,.int),(1,1,false,.str)]) (.slice none 0 0) true x18 x19 m) m) fun x20 m=>
  bp (pur (aExtract x20 0) m) fun x21 m=>
  bp (pur (aExtract x20 1) m) fun x22 m=>
  bp (pur (un .not x22) m) fun x23 m=>
  brb x23
  (bp (pur (aNilCheck p6) m) fun x24 m=>
  bp (pur (aFieldAddr 2 x24) m) fun x25 m=>
  bp (pur (aLoad false 1 x25 m) m) fun x26 m=>
  bp (pur (aLoad true 2 x15 m) m) fun x27 m=>
  bp (pur (aFieldAddr 2 x3) m) fun x28 m=>
  bp (pur (aLoad false 1 x28 m) m) fun x29 m=>
  bp (G.tab Q1go [x29] m) fun x30 m=>
  ckB (again (pur (aLoad false 1 x25 m) m) x26 && (again (pur (aLoad true 2 x15 m) m) x27 && true))
  (bp (unt (aMapUpdate (.struct [(0,1,false,.int),(1,1,false,.str)]) x26 x27 x30 m)) fun _ m=>
  Q1bb G k0 p22 p21 p20 p6 m))
  (Q1bb G k0 p22 p21 p20 p6 m))
def Q1kv (G:Gt)(k0:V → V → V → V → M → R)(p23 p20 p22 p6 p21:V)(m:M):R:=
  brb p23
  (Q1ku G k0 p20 p22 p6 p21 m)
  (Q1kt G p6 m)
def Qnb (G:Gt):Nat → V → V → V → V → M → R
 | 0,_,_,_,_,_=>none
 | i + 1,p22,p21,p20,p6,m=>
  bp (pur (bin .lss false true .int p22 p21) m) fun x31 m=>
  Q1kv G (Qnb G i) x31 p20 p22 p6 p21 m
def Q1kw (G:Gt)(p22 p21 p20 p6:V)(m:M):R:=
  Qnb G G.rds p22 p21 p20 p6 m
def Q1kx (G:Gt)(p1 p6:V)(m:M):R:=
  bp (pur (lenK 1 p1 m) m) fun x32 m=>
  Q1kw G (.int .i64 0) x32 p1 p6 m
def Q1ky (G:Gt)(p0 p1:V)(m:M):R:=
  bp (G.tab Qpr [p0] m) fun x33 m=>
  bp (some (aMakeMap m)) fun x34 m=>
  bp (pur (aBuild Q1vh [(0,1),(1,1),(2,1)] [(0,p0),(1,x33),(2,x34)]) m) fun x35 m=>
  bp (some (aNew Q1v5 (Value.cells x35).toList m)) fun x36 m=>
  Q1kx G p1 x36 m
def Q1kz (G:Gt)(p0 p1:V)(m:M):R:=
  bp (pur (binP m .eql true true .ptr p0 (.pointer none)) m) fun x37 m=>
  brb x37
  (some (.tuple ⟨[(.pointer none),(.int .i64 2)]⟩,m))
  (Q1ky G p0 p1 m)
def Q1gi (G:Gt)(p0 p1:V)(m:M):R:=
  Q1kz G p0 p1 m
theorem Q1vj (G:Gt)(a0 a1:V)(m:M):ef G Tryz.f23 [a0,a1] m = Q1gi G a0 a1 m:=
  evFn_of (r:=fun r m=>Q1gi G (r 0) (r 1) m) rfl rfl (tr (seqQ (f:=fun r m=>Q1kz G (r 0) (r 1) m) (tr (seqQ (f:=fun r m=>Q1ky G (r 0) (r 1) m) (tr (seqQ (f:=fun r m=>Q1kx G (r 1) (r 6) m) (tr (tr (seqQ (f:=fun r m=>Q1kt G (r 6) m) (fun r m=>by kernel_rfl)) (seqQ (f:=fun r m=>Q1kw G (r 22) (r 21) (r 20) (r 6) m) (tr (blockQ (loopQ (fun i r m=>Qnb G i (r 22) (r 21) (r 20) (r 6) m) (fun _ _=>rfl) (fun i0=>tr (seqQ (f:=fun r m=>Q1kv G (Qnb G i0) (r 23) (r 20) (r 22) (r 6) (r 21) m) (tr (seqQ (f:=fun r m=>Q1ku G (Qnb G i0) (r 20) (r 22) (r 6) (r 21) m) (tr (seqQ (f:=fun r m=>Q1bb G (Qnb G i0) (r 22) (r 21) (r 20) (r 6) m) (fun r m=>by kernel_rfl)) (fun r m=>by kernel_rfl))) (fun r m=>by kernel_rfl))) (fun r m=>by kernel_rfl)))) (fun r m=>by kernel_rfl)))) (fun r m=>by kernel_rfl))) (fun r m=>by kernel_rfl))) (fun r m=>by kernel_rfl))) (fun r m=>by kernel_rfl)) m
def Q1uu:En:=⟨Q1ob,Tryz.f23,Tryz.func23,by kernel_rfl,arg2 Q1gi,okarg2 Q1vj⟩
def Q60 (G:Gt)(p0:V)(m:M):R:=
  bp (pur (bin .eql true true .slice p0 (.slice none 0 0)) m) fun x0 m=>
  brb x0
  (some ((.slice none 0 0),m))
  (bp (aBuildSlice Qw Q1x 2 0 [] m) fun x1 m=>
  bp (apS Qw 2 16 x1 p0 m) fun x2 m=>
  some (x2,m))
theorem Qt6 (G:Gt)(a0:V)(m:M):ef G Tryz.f24 [a0] m = Q60 G a0 m:=
  evFn_of (r:=fun r m=>Q60 G (r 0) m) rfl rfl (fun r m=>by kernel_rfl) m
def Qsx:En:=⟨Q5v,Tryz.f24,Tryz.func24,by kernel_rfl,arg1 Q60,okarg1 Qt6⟩
def Q10n (G:Gt)(p0:V)(m:M):R:=
  bp (pur (binP m .eql true true .ptr p0 (.pointer none)) m) fun x0 m=>
  brb x0
  (some ((.pointer none),m))
  (bp (pur (aNilCheck p0) m) fun x1 m=>
  bp (pur (aFieldAddr 0 x1) m) fun x2 m=>
  bp (pur (aLoad false 1 x2 m) m) fun x3 m=>
  some (x3,m))
theorem Q1nl (G:Gt)(a0:V)(m:M):ef G Tryz.f25 [a0] m = Q10n G a0 m:=
  evFn_of (r:=fun r m=>Q10n G (r 0) m) rfl rfl (fun r m=>by kernel_rfl) m
def Q1mr:En:=⟨Q10c,Tryz.f25,Tryz.func25,by kernel_rfl,arg1 Q10n,okarg1 Q1nl⟩
def Qpw (G:Gt)(p0:V)(m:M):R:=
  bp (pur (binP m .eql true true .ptr p0 (.pointer none)) m) fun x0 m=>
  brb x0
  (some ((.slice none 0 0),m))
  (bp (pur (aNilCheck p0) m) fun x1 m=>
  bp (pur (aFieldAddr 0 x1) m) fun x2 m=>
  bp (pur (aLoad false 1 x2 m) m) fun x3 m=>
  bp (G.tab Q102 [x3] m) fun x4 m=>
  bp (pur (aExtract x4 0) m) fun x5 m=>
  bp (pur (aExtract x4 1) m) fun x6 m=>
  bp (pur (aExtract x4 2) m) fun x7 m=>
  some (x5,m))
theorem Q1gj (G:Gt)(a0:V)(m:M):ef G Tryz.f26 [a0] m = Qpw G a0 m:=
  evFn_of (r:=fun r m=>Qpw G (r 0) m) rfl rfl (fun r m=>by kernel_rfl) m
def Q1fl:En:=⟨Qpr,Tryz.f26,Tryz.func26,by kernel_rfl,arg1 Qpw,okarg1 Q1gj⟩
def Qil (G:Gt)(p1:V)(m:M):R:=
  some (p1,m)
def Qux (G:Gt)(p0 p2 p1:V)(m:M):R:=
  bp (pur (aNilCheck p0) m) fun x0 m=>
  bp (pur (aFieldAddr 4 x0) m) fun x1 m=>
  bp (pur (aLoad false 1 x1 m) m) fun x2 m=>
  bp (pur (bin .eql true true .int x2 (.int .i64 0)) m) fun x3 m=>
  brb x3
  (bp (pur (aNilCheck p0) m) fun x4 m=>
  bp (pur (aFieldAddr 4 x4) m) fun x5 m=>
  bp (unt (aStore 1 x5 p2 m)) fun _ m=>
  Qil G p1 m)
  (Qil G p1 m)
def Ql3 (G:Gt)(p0 p2 p1:V)(m:M):R:=
  Qux G p0 p2 p1 m
theorem Q1di (G:Gt)(a0 a1 a2:V)(m:M):ef G Tryz.f27 [a0,a1,a2] m = Ql3 G a0 a2 a1 m:=
  evFn_of (r:=fun r m=>Ql3 G (r 0) (r 2) (r 1) m) rfl rfl (tr (seqQ (f:=fun r m=>Qux G (r 0) (r 2) (r 1) m) (tr (seqQ (f:=fun r m=>Qil G (r 1) m) (fun r m=>by kernel_rfl)) (fun r m=>by kernel_rfl))) (fun r m=>by kernel_rfl)) m
def Q1cq:En:=⟨Q1,Tryz.f27,Tryz.func27,by kernel_rfl,arg3 (fun G a0 a1 a2 m=>Ql3 G a0 a2 a1 m),okarg3 Q1di⟩
def Qx3 (G:Gt)(p0:V)(m:M):R:=
  bp (pur (binP m .eql true true .ptr p0 (.pointer none)) m) fun x0 m=>
  brb x0
  (some (.tuple ⟨[(.int .i64 0),(.int .i64 2)]⟩,m))
  (bp (pur (aBuild Qpt [(0,1),(1,1)] []) m) fun x1 m=>
  bp (G.tab Q18m [p0,x1] m) fun x2 m=>
  bp (pur (aExtract x2 0) m) fun x3 m=>
  bp (pur (aExtract x2 1) m) fun x4 m=>
  some (.tuple ⟨[x3,x4]⟩,m))
theorem Q1m6 (G:Gt)(a0:V)(m:M):ef G Tryz.f28 [a0] m = Qx3 G a0 m:=
  evFn_of (r:=fun r m=>Qx3 G (r 0) m) rfl rfl (fun r m=>by kernel_rfl) m
def Q1lb:En:=⟨Q18t,Tryz.f28,Tryz.func28,by kernel_rfl,arg1 Qx3,okarg1 Q1m6⟩
end
end Go.Ab.Sh
