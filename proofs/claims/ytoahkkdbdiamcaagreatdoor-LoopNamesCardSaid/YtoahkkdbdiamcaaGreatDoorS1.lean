/-
  Functions of the program as plain definitions. No conditions.
-/
import Derived.Test.YtoahkkdbdiamcaaGreatDoorAb5
import Derived.Test.YtoahkkdbdiamcaaGreatDoorZ
import Derived.KernelRfl
import Derived.Test.YtoahkkdbdiamcaaGreatDoorProg
set_option linter.unusedVariables false
set_option maxRecDepth 100000
namespace Go.Ab.Sh
open Go Go.Ab Go.Proofs
noncomputable section
def Q1sd (G:Gt)(p7:V)(m:M):R:=
  bp (G.tab Q1ff [p7] m) fun x0 m=>
  some (.tuple ⟨[p7,(.int .i64 0)]⟩,m)
def Q1oo (G:Gt)(k0:V → V → V → V → V → M → R)(p33 p32 p31 p7 p8:V)(m:M):R:=
  bp (pur (bin .add true true .int p33 (.int .i64 1)) m) fun x1 m=>
  k0 x1 p32 p31 p7 p8 m
def Q14n (G:Gt)(k1:V → V → V → V → V → V → V → V → V → M → R)(p41 p40 p39 p9 p7 p8 p33 p32 p31:V)(m:M):R:=
  bp (pur (bin .add true true .int p41 (.int .i64 1)) m) fun x2 m=>
  k1 x2 p40 p39 p9 p7 p8 p33 p32 p31 m
def Q1op (G:Gt)(k1:V → V → V → V → V → V → V → V → V → M → R)(p8 p14 p13 p41 p40 p39 p9 p7 p33 p32 p31:V)(m:M):R:=
  bp (pur (aLoad true 2 p14 m) m) fun x3 m=>
  bp (pur (aLoad true 2 p13 m) m) fun x4 m=>
  bp (aBuildSlice Q7 Qo 2 1 [(0,x4)] m) fun x5 m=>
  bp (aMapEntry (.struct [(0,1,false,.int),(1,1,false,.int)]) (.slice none 0 0) p8 x3 m) fun x6 m=>
  bp (pur (aExtract x6 0) m) fun x7 m=>
  bp (apS Q7 2 16 x7 x5 m) fun x8 m=>
  bp (pur (aExtract x6 1) m) fun x9 m=>
  bp (unt (aEntryStore p8 x9 x8 m)) fun _ m=>
  Q14n G k1 p41 p40 p39 p9 p7 p8 p33 p32 p31 m
def Q1eq (G:Gt)(k2:V → V → V → V → V → V → V → V → V → V → V → V → V → V → M → R)(p68 p67 p66 p9 p7 p13 p8 p14 p41 p40 p39 p33 p32 p31:V)(m:M):R:=
  bp (pur (bin .add true true .int p68 (.int .i64 1)) m) fun x10 m=>
  k2 x10 p67 p66 p9 p7 p13 p8 p14 p41 p40 p39 p33 p32 p31 m
def Q1oq (G:Gt)(k2:V → V → V → V → V → V → V → V → V → V → V → V → V → V → M → R)(p66 p68 p9 p7 p13 p67 p8 p14 p41 p40 p39 p33 p32 p31:V)(m:M):R:=
  bp (pur (aIndexAddrSl 2 p66 p68) m) fun x11 m=>
  bp (pur (aLoad true 2 x11 m) m) fun x12 m=>
  bp (some (aNew Q7 Qo m)) fun x13 m=>
  bp (unt (aStore 2 x13 x12 m)) fun _ m=>
  bp (pur (aFieldAddr 0 x13) m) fun x14 m=>
  bp (pur (aLoad false 1 x14 m) m) fun x15 m=>
  bp (pur (bin .neq false true .int x15 p9) m) fun x16 m=>
  brb x16
  (bp (pur (aNilCheck p7) m) fun x17 m=>
  bp (pur (aFieldAddr 1 x17) m) fun x18 m=>
  bp (pur (aLoad false 1 x18 m) m) fun x19 m=>
  bp (pur (aLoad true 2 p13 m) m) fun x20 m=>
  bp (pur (aNilCheck p7) m) fun x21 m=>
  bp (pur (aFieldAddr 1 x21) m) fun x22 m=>
  bp (pur (aLoad false 1 x22 m) m) fun x23 m=>
  bp (pur (aLoad true 2 x13 m) m) fun x24 m=>
  bp (pur (aNilCheck p7) m) fun x25 m=>
  bp (pur (aFieldAddr 1 x25) m) fun x26 m=>
  bp (pur (aLoad false 1 x26 m) m) fun x27 m=>
  bp (pur (aLoad true 2 p13 m) m) fun x28 m=>
  bp (pur (aLookup (.struct [(0,1,false,.int),(1,1,false,.int)]) (.slice none 0 0) false x27 x28 m) m) fun x29 m=>
  bp (pur (aLoad true 2 x13 m) m) fun x30 m=>
  bp (aBuildSlice Q7 Qo 2 1 [(0,x30)] m) fun x31 m=>
  bp (pur (aNilCheck p7) m) fun x32 m=>
  bp (pur (aFieldAddr 1 x32) m) fun x33 m=>
  bp (pur (aLoad false 1 x33 m) m) fun x34 m=>
  bp (pur (aLoad true 2 x13 m) m) fun x35 m=>
  bp (pur (aLookup (.struct [(0,1,false,.int),(1,1,false,.int)]) (.slice none 0 0) false x34 x35 m) m) fun x36 m=>
  bp (pur (aLoad true 2 p13 m) m) fun x37 m=>
  bp (aBuildSlice Q7 Qo 2 1 [(0,x37)] m) fun x38 m=>
  bp (apS Q7 2 16 x29 x31 m) fun x39 m=>
  ckB (again (pur (aLoad false 1 x18 m) m) x19 && (again (pur (aLoad true 2 p13 m) m) x20 && (again (pur (aLoad false 1 x22 m) m) x23 && (again (pur (aLoad true 2 x13 m) m) x24 && (again (pur (aLoad false 1 x33 m) m) x34 && (again (pur (aLoad true 2 x13 m) m) x35 && (again (pur (aLookup (.struct [(0,1,false,.int),(1,1,false,.int)]) (.slice none 0 0) false x34 x35 m) m) x36 && (again (pur (aLoad true 2 p13 m) m) x37 && true))))))))
  (bp (apS Q7 2 16 x36 x38 m) fun x40 m=>
  ckB (again (pur (aLoad false 1 x18 m) m) x19 && (again (pur (aLoad true 2 p13 m) m) x20 && (again (pur (aLoad false 1 x22 m) m) x23 && (again (pur (aLoad true 2 x13 m) m) x24 && true))))
  (bp (aMapEntry (.struct [(0,1,false,.int),(1,1,false,.int)]) (.slice none 0 0) x19 x20 m) fun x41 m=>
  ckB (again (pur (aLoad true 2 x13 m) m) x24 && true)
  (bp (pur (aExtract x41 1) m) fun x42 m=>
  bp (unt (aEntryStore x19 x42 x39 m)) fun _ m=>
  ckB (again (pur (aLoad true 2 x13 m) m) x24 && true)
  (bp (aMapEntry (.struct [(0,1,false,.int),(1,1,false,.int)]) (.slice none 0 0) x23 x24 m) fun x43 m=>
  bp (pur (aExtract x43 1) m) fun x44 m=>
  bp (unt (aEntryStore x23 x44 x40 m)) fun _ m=>
  Q1eq G k2 p68 p67 p66 p9 p7 p13 p8 p14 p41 p40 p39 p33 p32 p31 m)))))
  (Q1eq G k2 p68 p67 p66 p9 p7 p13 p8 p14 p41 p40 p39 p33 p32 p31 m)
def Q1or (G:Gt)(k2:V → V → V → V → V → V → V → V → V → V → V → V → V → V → M → R)(k1:V → V → V → V → V → V → V → V → V → M → R)(p69 p66 p68 p9 p7 p13 p67 p8 p14 p41 p40 p39 p33 p32 p31:V)(m:M):R:=
  brb p69
  (Q1oq G k2 p66 p68 p9 p7 p13 p67 p8 p14 p41 p40 p39 p33 p32 p31 m)
  (Q1op G k1 p8 p14 p13 p41 p40 p39 p9 p7 p33 p32 p31 m)
def Qnc (G:Gt)(k1:V → V → V → V → V → V → V → V → V → M → R):Nat → V → V → V → V → V → V → V → V → V → V → V → V → V → V → M → R
 | 0,_,_,_,_,_,_,_,_,_,_,_,_,_,_,_=>none
 | i + 1,p68,p67,p66,p9,p7,p13,p8,p14,p41,p40,p39,p33,p32,p31,m=>
  bp (pur (bin .lss false true .int p68 p67) m) fun x45 m=>
  Q1or G (Qnc G k1 i) k1 x45 p66 p68 p9 p7 p13 p67 p8 p14 p41 p40 p39 p33 p32 p31 m
def Q1os (G:Gt)(k1:V → V → V → V → V → V → V → V → V → M → R)(p68 p67 p66 p9 p7 p13 p8 p14 p41 p40 p39 p33 p32 p31:V)(m:M):R:=
  Qnc G k1 G.rds p68 p67 p66 p9 p7 p13 p8 p14 p41 p40 p39 p33 p32 p31 m
def Q1ot (G:Gt)(k1:V → V → V → V → V → V → V → V → V → M → R)(p8 p14 p9 p7 p13 p41 p40 p39 p33 p32 p31:V)(m:M):R:=
  bp (pur (aLoad true 2 p14 m) m) fun x46 m=>
  bp (pur (aLookup (.struct [(0,1,false,.int),(1,1,false,.int)]) (.slice none 0 0) false p8 x46 m) m) fun x47 m=>
  bp (pur (lenK 1 x47 m) m) fun x48 m=>
  Q1os G k1 (.int .i64 0) x48 x47 p9 p7 p13 p8 p14 p41 p40 p39 p33 p32 p31 m
def Q1ou (G:Gt)(k1:V → V → V → V → V → V → V → V → V → M → R)(p14 p41 p40 p39 p9 p7 p8 p33 p32 p31 p13:V)(m:M):R:=
  bp (pur (aFieldAddr 1 p14) m) fun x49 m=>
  bp (pur (aLoad false 1 x49 m) m) fun x50 m=>
  bp (pur (bin .gtr true true .int x50 (.int .i64 31)) m) fun x51 m=>
  brb x51
  (Q14n G k1 p41 p40 p39 p9 p7 p8 p33 p32 p31 m)
  (Q1ot G k1 p8 p14 p9 p7 p13 p41 p40 p39 p33 p32 p31 m)
def Q1ov (G:Gt)(k1:V → V → V → V → V → V → V → V → V → M → R)(p7 p12 p13 p14 p41 p40 p39 p9 p8 p33 p32 p31:V)(m:M):R:=
  bp (pur (aNilCheck p7) m) fun x52 m=>
  bp (pur (aFieldAddr 2 x52) m) fun x53 m=>
  bp (pur (aLoad false 1 x53 m) m) fun x54 m=>
  bp (pur (aFieldAddr 2 p12) m) fun x55 m=>
  bp (pur (aLoad false 1 x55 m) m) fun x56 m=>
  bp (pur (aLoad true 2 p13 m) m) fun x57 m=>
  bp (unt (aMapUpdate .int x54 x56 x57 m)) fun _ m=>
  Q1ou G k1 p14 p41 p40 p39 p9 p7 p8 p33 p32 p31 p13 m
def Q1ow (G:Gt)(k1:V → V → V → V → V → V → V → V → V → M → R)(p9 p11 p12 p7 p41 p40 p39 p8 p33 p32 p31:V)(m:M):R:=
  bp (pur (aBuild Qo [(0,1),(1,1)] [(0,p9),(1,p11)]) m) fun x58 m=>
  bp (pur (aLoad true 11 p12 m) m) fun x59 m=>
  bp (G.tab Q1ox [x59] m) fun x60 m=>
  bp (some (aNew Q7 Qo m)) fun x61 m=>
  bp (some (aNew Q1x Q2d m)) fun x62 m=>
  bp (unt (aStore 2 x61 x58 m)) fun _ m=>
  bp (unt (aStore 2 x62 x60 m)) fun _ m=>
  Q1ov G k1 p7 p12 x61 x62 p41 p40 p39 p9 p8 p33 p32 p31 m
def Q1oy (G:Gt)(k1:V → V → V → V → V → V → V → V → V → M → R)(p12 p41 p40 p39 p9 p7 p8 p33 p32 p31 p11:V)(m:M):R:=
  bp (pur (aLoad true 11 p12 m) m) fun x63 m=>
  bp (G.tab Ql6 [x63] m) fun x64 m=>
  bp (pur (un .not x64) m) fun x65 m=>
  brb x65
  (Q14n G k1 p41 p40 p39 p9 p7 p8 p33 p32 p31 m)
  (Q1ow G k1 p9 p11 p12 p7 p41 p40 p39 p8 p33 p32 p31 m)
def Q1oz (G:Gt)(k1:V → V → V → V → V → V → V → V → V → M → R)(p41 p39 p40 p9 p7 p8 p33 p32 p31:V)(m:M):R:=
  bp (pur (aIndexAddrSl 11 p39 p41) m) fun x66 m=>
  bp (pur (aLoad true 11 x66 m) m) fun x67 m=>
  bp (some (aNew Q1d Q47 m)) fun x68 m=>
  bp (unt (aStore 11 x68 x67 m)) fun _ m=>
  Q1oy G k1 x68 p41 p40 p39 p9 p7 p8 p33 p32 p31 p41 m
def Q1p0 (G:Gt)(k1:V → V → V → V → V → V → V → V → V → M → R)(k0:V → V → V → V → V → M → R)(p42 p41 p39 p40 p9 p7 p8 p33 p32 p31:V)(m:M):R:=
  brb p42
  (Q1oz G k1 p41 p39 p40 p9 p7 p8 p33 p32 p31 m)
  (Q1oo G k0 p33 p32 p31 p7 p8 m)
def Q23 (G:Gt)(k0:V → V → V → V → V → M → R):Nat → V → V → V → V → V → V → V → V → V → M → R
 | 0,_,_,_,_,_,_,_,_,_,_=>none
 | i + 1,p41,p40,p39,p9,p7,p8,p33,p32,p31,m=>
  bp (pur (bin .lss false true .int p41 p40) m) fun x69 m=>
  Q1p0 G (Q23 G k0 i) k0 x69 p41 p39 p40 p9 p7 p8 p33 p32 p31 m
def Q1p1 (G:Gt)(k0:V → V → V → V → V → M → R)(p41 p40 p39 p9 p7 p8 p33 p32 p31:V)(m:M):R:=
  Q23 G k0 G.rds p41 p40 p39 p9 p7 p8 p33 p32 p31 m
def Q1p2 (G:Gt)(k0:V → V → V → V → V → M → R)(p10 p9 p7 p8 p33 p32 p31:V)(m:M):R:=
  bp (pur (aFieldAddr 3 p10) m) fun x70 m=>
  bp (pur (aLoad false 1 x70 m) m) fun x71 m=>
  bp (pur (lenK 1 x71 m) m) fun x72 m=>
  Q1p1 G k0 (.int .i64 0) x72 x71 p9 p7 p8 p33 p32 p31 m
def Q1se (G:Gt)(k0:V → V → V → V → V → M → R)(p33 p31 p7 p8 p32:V)(m:M):R:=
  bp (pur (aIndexAddrSl 12 p31 p33) m) fun x73 m=>
  bp (pur (aLoad true 12 x73 m) m) fun x74 m=>
  bp (some (aNew Qx Q1e m)) fun x75 m=>
  bp (unt (aStore 12 x75 x74 m)) fun _ m=>
  Q1p2 G k0 x75 p33 p7 p8 p33 p32 p31 m
def Q1sf (G:Gt)(k0:V → V → V → V → V → M → R)(p34 p33 p31 p7 p8 p32:V)(m:M):R:=
  brb p34
  (Q1se G k0 p33 p31 p7 p8 p32 m)
  (Q1sd G p7 m)
def Q19 (G:Gt):Nat → V → V → V → V → V → M → R
 | 0,_,_,_,_,_,_=>none
 | i + 1,p33,p32,p31,p7,p8,m=>
  bp (pur (bin .lss false true .int p33 p32) m) fun x76 m=>
  Q1sf G (Q19 G i) x76 p33 p31 p7 p8 p32 m
def Q1sg (G:Gt)(p33 p32 p31 p7 p8:V)(m:M):R:=
  Q19 G G.rds p33 p32 p31 p7 p8 m
def Q1sh (G:Gt)(p4 p7 p8:V)(m:M):R:=
  bp (pur (lenK 1 p4 m) m) fun x77 m=>
  Q1sg G (.int .i64 0) x77 p4 p7 p8 m
def Q1si (G:Gt)(p4 p7:V)(m:M):R:=
  bp (some (aMakeMap m)) fun x78 m=>
  Q1sh G p4 p7 x78 m
def Q1sj (G:Gt)(p4:V)(m:M):R:=
  bp (some (aMakeMap m)) fun x79 m=>
  bp (some (aMakeMap m)) fun x80 m=>
  bp (pur (aBuild Q23p [(0,1),(1,1),(2,1),(3,1)] [(0,p4),(1,x79),(2,x80)]) m) fun x81 m=>
  bp (some (aNew Q23q (Value.cells x81).toList m)) fun x82 m=>
  Q1si G p4 x82 m
def Q1sk (G:Gt)(p6 p4:V)(m:M):R:=
  bp (pur (bin .neq true true .int p6 (.int .i64 0)) m) fun x83 m=>
  brb x83
  (some (.tuple ⟨[(.pointer none),(.int .i64 121)]⟩,m))
  (Q1sj G p4 m)
def Q1sl (G:Gt)(p0:V)(m:M):R:=
  bp (G.tab Q156 [p0] m) fun x84 m=>
  bp (pur (aExtract x84 0) m) fun x85 m=>
  bp (pur (aExtract x84 1) m) fun x86 m=>
  bp (pur (aExtract x84 2) m) fun x87 m=>
  Q1sk G x87 x85 m
def Q1nk (G:Gt)(p0:V)(m:M):R:=
  Q1sl G p0 m
theorem Q255 (G:Gt)(a0:V)(m:M):ef G Tryz.f10 [a0] m = Q1nk G a0 m:=
  evFn_of (r:=fun r m=>Q1nk G (r 0) m) rfl rfl (tr (seqQ (f:=fun r m=>Q1sl G (r 0) m) (tr (seqQ (f:=fun r m=>Q1sk G (r 6) (r 4) m) (tr (seqQ (f:=fun r m=>Q1sj G (r 4) m) (tr (seqQ (f:=fun r m=>Q1si G (r 4) (r 7) m) (tr (seqQ (f:=fun r m=>Q1sh G (r 4) (r 7) (r 8) m) (tr (tr (seqQ (f:=fun r m=>Q1sd G (r 7) m) (fun r m=>by kernel_rfl)) (seqQ (f:=fun r m=>Q1sg G (r 33) (r 32) (r 31) (r 7) (r 8) m) (tr (blockQ (loopQ (fun i r m=>Q19 G i (r 33) (r 32) (r 31) (r 7) (r 8) m) (fun _ _=>rfl) (fun i0=>tr (seqQ (f:=fun r m=>Q1sf G (Q19 G i0) (r 34) (r 33) (r 31) (r 7) (r 8) (r 32) m) (tr (seqQ (f:=fun r m=>Q1se G (Q19 G i0) (r 33) (r 31) (r 7) (r 8) (r 32) m) (tr (tr (seqQ (f:=fun r m=>Q1oo G (Q19 G i0) (r 33) (r 32) (r 31) (r 7) (r 8) m) (fun r m=>by kernel_rfl)) (blockQ (seqQ (f:=fun r m=>Q1p2 G (Q19 G i0) (r 10) (r 9) (r 7) (r 8) (r 33) (r 32) (r 31) m) (tr (seqQ (f:=fun r m=>Q1p1 G (Q19 G i0) (r 41) (r 40) (r 39) (r 9) (r 7) (r 8) (r 33) (r 32) (r 31) m) (tr (blockQ (loopQ (fun i r m=>Q23 G (Q19 G i0) i (r 41) (r 40) (r 39) (r 9) (r 7) (r 8) (r 33) (r 32) (r 31) m) (fun _ _=>rfl) (fun i1=>tr (seqQ (f:=fun r m=>Q1p0 G (Q23 G (Q19 G i0) i1) (Q19 G i0) (r 42) (r 41) (r 39) (r 40) (r 9) (r 7) (r 8) (r 33) (r 32) (r 31) m) (tr (seqQ (f:=fun r m=>Q1oz G (Q23 G (Q19 G i0) i1) (r 41) (r 39) (r 40) (r 9) (r 7) (r 8) (r 33) (r 32) (r 31) m) (tr (tr (seqQ (f:=fun r m=>Q14n G (Q23 G (Q19 G i0) i1) (r 41) (r 40) (r 39) (r 9) (r 7) (r 8) (r 33) (r 32) (r 31) m) (fun r m=>by kernel_rfl)) (blockQ (seqQ (f:=fun r m=>Q1oy G (Q23 G (Q19 G i0) i1) (r 12) (r 41) (r 40) (r 39) (r 9) (r 7) (r 8) (r 33) (r 32) (r 31) (r 11) m) (tr (seqQ (f:=fun r m=>Q1ow G (Q23 G (Q19 G i0) i1) (r 9) (r 11) (r 12) (r 7) (r 41) (r 40) (r 39) (r 8) (r 33) (r 32) (r 31) m) (tr (seqQ (f:=fun r m=>Q1ov G (Q23 G (Q19 G i0) i1) (r 7) (r 12) (r 13) (r 14) (r 41) (r 40) (r 39) (r 9) (r 8) (r 33) (r 32) (r 31) m) (tr (seqQ (f:=fun r m=>Q1ou G (Q23 G (Q19 G i0) i1) (r 14) (r 41) (r 40) (r 39) (r 9) (r 7) (r 8) (r 33) (r 32) (r 31) (r 13) m) (tr (seqQ (f:=fun r m=>Q1ot G (Q23 G (Q19 G i0) i1) (r 8) (r 14) (r 9) (r 7) (r 13) (r 41) (r 40) (r 39) (r 33) (r 32) (r 31) m) (tr (tr (seqQ (f:=fun r m=>Q1op G (Q23 G (Q19 G i0) i1) (r 8) (r 14) (r 13) (r 41) (r 40) (r 39) (r 9) (r 7) (r 33) (r 32) (r 31) m) (fun r m=>by kernel_rfl)) (seqQ (f:=fun r m=>Q1os G (Q23 G (Q19 G i0) i1) (r 68) (r 67) (r 66) (r 9) (r 7) (r 13) (r 8) (r 14) (r 41) (r 40) (r 39) (r 33) (r 32) (r 31) m) (tr (blockQ (loopQ (fun i r m=>Qnc G (Q23 G (Q19 G i0) i1) i (r 68) (r 67) (r 66) (r 9) (r 7) (r 13) (r 8) (r 14) (r 41) (r 40) (r 39) (r 33) (r 32) (r 31) m) (fun _ _=>rfl) (fun i2=>tr (seqQ (f:=fun r m=>Q1or G (Qnc G (Q23 G (Q19 G i0) i1) i2) (Q23 G (Q19 G i0) i1) (r 69) (r 66) (r 68) (r 9) (r 7) (r 13) (r 67) (r 8) (r 14) (r 41) (r 40) (r 39) (r 33) (r 32) (r 31) m) (tr (seqQ (f:=fun r m=>Q1oq G (Qnc G (Q23 G (Q19 G i0) i1) i2) (r 66) (r 68) (r 9) (r 7) (r 13) (r 67) (r 8) (r 14) (r 41) (r 40) (r 39) (r 33) (r 32) (r 31) m) (tr (seqQ (f:=fun r m=>Q1eq G (Qnc G (Q23 G (Q19 G i0) i1) i2) (r 68) (r 67) (r 66) (r 9) (r 7) (r 13) (r 8) (r 14) (r 41) (r 40) (r 39) (r 33) (r 32) (r 31) m) (fun r m=>by kernel_rfl)) (fun r m=>by kernel_rfl))) (fun r m=>by kernel_rfl))) (fun r m=>by kernel_rfl)))) (fun r m=>by kernel_rfl)))) (fun r m=>by kernel_rfl))) (fun r m=>by kernel_rfl))) (fun r m=>by kernel_rfl))) (fun r m=>by kernel_rfl))) (fun r m=>by kernel_rfl))))) (fun r m=>by kernel_rfl))) (fun r m=>by kernel_rfl))) (fun r m=>by kernel_rfl)))) (fun r m=>by kernel_rfl))) (fun r m=>by kernel_rfl))))) (fun r m=>by kernel_rfl))) (fun r m=>by kernel_rfl))) (fun r m=>by kernel_rfl)))) (fun r m=>by kernel_rfl)))) (fun r m=>by kernel_rfl))) (fun r m=>by kernel_rfl))) (fun r m=>by kernel_rfl))) (fun r m=>by kernel_rfl))) (fun r m=>by kernel_rfl))) (fun r m=>by kernel_rfl)) m
def Q252:En:=⟨Q1nl,Tryz.f10,Tryz.func10,by kernel_rfl,arg1 Q1nk,okarg1 Q255⟩
def Q1sm (G:Gt)(p6:V)(m:M):R:=
  some (.tuple ⟨[p6,(.int .i64 0)]⟩,m)
def Q1hu (G:Gt)(k0:V → V → V → V → M → R)(p22 p21 p20 p6:V)(m:M):R:=
  bp (pur (bin .add true true .int p22 (.int .i64 1)) m) fun x0 m=>
  k0 x0 p21 p20 p6 m
def Q1sn (G:Gt)(k0:V → V → V → V → M → R)(p20 p22 p6 p21:V)(m:M):R:=
  bp (pur (aIndexAddrSl 3 p20 p22) m) fun x1 m=>
  bp (pur (aLoad true 3 x1 m) m) fun x2 m=>
  bp (some (aNew Q1va Q1co m)) fun x3 m=>
  bp (unt (aStore 3 x3 x2 m)) fun _ m=>
  bp (pur (aFieldAddr 0 x3) m) fun x4 m=>
  bp (pur (aLoad false 1 x4 m) m) fun x5 m=>
  bp (pur (aFieldAddr 1 x3) m) fun x6 m=>
  bp (pur (aLoad false 1 x6 m) m) fun x7 m=>
  bp (G.tab Q18h [p6,x5,x7] m) fun x8 m=>
  bp (pur (un .not x8) m) fun x9 m=>
  brb x9
  (some (.tuple ⟨[(.pointer none),(.int .i64 1)]⟩,m))
  (bp (pur (aFieldAddr 0 x3) m) fun x10 m=>
  bp (pur (aLoad false 1 x10 m) m) fun x11 m=>
  bp (pur (aFieldAddr 1 x3) m) fun x12 m=>
  bp (pur (aLoad false 1 x12 m) m) fun x13 m=>
  bp (pur (aBuild Q1gk [(0,1),(1,1)] [(0,x11),(1,x13)]) m) fun x14 m=>
  bp (some (aNew Q1xm Q1gk m)) fun x15 m=>
  bp (unt (aStore 2 x15 x14 m)) fun _ m=>
  bp (pur (aNilCheck p6) m) fun x16 m=>
  bp (pur (aFieldAddr 2 x16) m) fun x17 m=>
  bp (pur (aLoad false 1 x17 m) m) fun x18 m=>
  bp (pur (aLoad true 2 x15 m) m) fun x19 m=>
  bp (pur (aLookup (.struct [(0,1,false,.int),(1,1,false,.str)]) (.slice none 0 0) true x18 x19 m) m) fun x20 m=>
  bp (pur (aExtract x20 0) m) fun x21 m=>
  bp (pur (aExtract x20 1) m) fun x22 m=>
  bp (pur (un .not x22) m) fun x23 m=>
  brb x23
  (bp (pur (aNilCheck p6) m) fun x24 m=>
  bp (pur (aFieldAddr 2 x24) m) fun x25 m=>
  bp (pur (aLoad false 1 x25 m) m) fun x26 m=>
  bp (pur (aLoad true 2 x15 m) m) fun x27 m=>
  bp (pur (aFieldAddr 2 x3) m) fun x28 m=>
  bp (pur (aLoad false 1 x28 m) m) fun x29 m=>
  bp (G.tab Q1p3 [x29] m) fun x30 m=>
  ckB (again (pur (aLoad false 1 x25 m) m) x26 && (again (pur (aLoad true 2 x15 m) m) x27 && true))
  (bp (unt (aMapUpdate (.struct [(0,1,false,.int),(1,1,false,.str)]) x26 x27 x30 m)) fun _ m=>
  Q1hu G k0 p22 p21 p20 p6 m))
  (Q1hu G k0 p22 p21 p20 p6 m))
def Q1so (G:Gt)(k0:V → V → V → V → M → R)(p23 p20 p22 p6 p21:V)(m:M):R:=
  brb p23
  (Q1sn G k0 p20 p22 p6 p21 m)
  (Q1sm G p6 m)
def Qpo (G:Gt):Nat → V → V → V → V → M → R
 | 0,_,_,_,_,_=>none
 | i + 1,p22,p21,p20,p6,m=>
  bp (pur (bin .lss false true .int p22 p21) m) fun x31 m=>
  Q1so G (Qpo G i) x31 p20 p22 p6 p21 m
def Q1sp (G:Gt)(p22 p21 p20 p6:V)(m:M):R:=
  Qpo G G.rds p22 p21 p20 p6 m
def Q1sq (G:Gt)(p1 p6:V)(m:M):R:=
  bp (pur (lenK 1 p1 m) m) fun x32 m=>
  Q1sp G (.int .i64 0) x32 p1 p6 m
def Q1sr (G:Gt)(p0 p1:V)(m:M):R:=
  bp (G.tab Qsf [p0] m) fun x33 m=>
  bp (some (aMakeMap m)) fun x34 m=>
  bp (pur (aBuild Q256 [(0,1),(1,1),(2,1)] [(0,p0),(1,x33),(2,x34)]) m) fun x35 m=>
  bp (some (aNew Q257 (Value.cells x35).toList m)) fun x36 m=>
  Q1sq G p1 x36 m
def Q1ss (G:Gt)(p0 p1:V)(m:M):R:=
  bp (pur (binP m .eql true true .ptr p0 (.pointer none)) m) fun x37 m=>
  brb x37
  (some (.tuple ⟨[(.pointer none),(.int .i64 2)]⟩,m))
  (Q1sr G p0 p1 m)
def Q1nm (G:Gt)(p0 p1:V)(m:M):R:=
  Q1ss G p0 p1 m
theorem Q258 (G:Gt)(a0 a1:V)(m:M):ef G Tryz.f11 [a0,a1] m = Q1nm G a0 a1 m:=
  evFn_of (r:=fun r m=>Q1nm G (r 0) (r 1) m) rfl rfl (tr (seqQ (f:=fun r m=>Q1ss G (r 0) (r 1) m) (tr (seqQ (f:=fun r m=>Q1sr G (r 0) (r 1) m) (tr (seqQ (f:=fun r m=>Q1sq G (r 1) (r 6) m) (tr (tr (seqQ (f:=fun r m=>Q1sm G (r 6) m) (fun r m=>by kernel_rfl)) (seqQ (f:=fun r m=>Q1sp G (r 22) (r 21) (r 20) (r 6) m) (tr (blockQ (loopQ (fun i r m=>Qpo G i (r 22) (r 21) (r 20) (r 6) m) (fun _ _=>rfl) (fun i0=>tr (seqQ (f:=fun r m=>Q1so G (Qpo G i0) (r 23) (r 20) (r 22) (r 6) (r 21) m) (tr (seqQ (f:=fun r m=>Q1sn G (Qpo G i0) (r 20) (r 22) (r 6) (r 21) m) (tr (seqQ (f:=fun r m=>Q1hu G (Qpo G i0) (r 22) (r 21) (r 20) (r 6) m) (fun r m=>by kernel_rfl)) (fun r m=>by kernel_rfl))) (fun r m=>by kernel_rfl))) (fun r m=>by kernel_rfl)))) (fun r m=>by kernel_rfl)))) (fun r m=>by kernel_rfl))) (fun r m=>by kernel_rfl))) (fun r m=>by kernel_rfl))) (fun r m=>by kernel_rfl)) m
def Q24z:En:=⟨Q1nn,Tryz.f11,Tryz.func11,by kernel_rfl,arg2 Q1nm,okarg2 Q258⟩
def Qy1 (G:Gt)(p0:V)(m:M):R:=
  bp (pur (binP m .eql true true .ptr p0 (.pointer none)) m) fun x0 m=>
  brb x0
  (some ((.pointer none),m))
  (bp (pur (aNilCheck p0) m) fun x1 m=>
  bp (pur (aFieldAddr 0 x1) m) fun x2 m=>
  bp (pur (aLoad false 1 x2 m) m) fun x3 m=>
  some (x3,m))
theorem Q1st (G:Gt)(a0:V)(m:M):ef G Tryz.f12 [a0] m = Qy1 G a0 m:=
  evFn_of (r:=fun r m=>Qy1 G (r 0) m) rfl rfl (fun r m=>by kernel_rfl) m
def Q1ro:En:=⟨Qy2,Tryz.f12,Tryz.func12,by kernel_rfl,arg1 Qy1,okarg1 Q1st⟩
def Q16a (G:Gt)(p3:V)(m:M):R:=
  some (p3,m)
def Qpp (G:Gt)(k0:V → V → V → V → V → M → R)(p13 p12 p11 p0 p3:V)(m:M):R:=
  bp (pur (bin .add true true .int p13 (.int .i64 1)) m) fun x0 m=>
  k0 x0 p12 p11 p0 p3 m
def Q16b (G:Gt)(k0:V → V → V → V → V → M → R)(p11 p13 p0 p3 p12:V)(m:M):R:=
  bp (pur (aIndexAddrSl 2 p11 p13) m) fun x1 m=>
  bp (pur (aLoad true 2 x1 m) m) fun x2 m=>
  bp (some (aNew Q7 Qo m)) fun x3 m=>
  bp (unt (aStore 2 x3 x2 m)) fun _ m=>
  bp (pur (aNilCheck p0) m) fun x4 m=>
  bp (pur (aFieldAddr 2 x4) m) fun x5 m=>
  bp (pur (aLoad false 1 x5 m) m) fun x6 m=>
  bp (pur (aLoad true 2 x3 m) m) fun x7 m=>
  bp (pur (aLookup (.struct [(0,1,false,.int),(1,1,false,.int)]) (.int .i64 0) false x6 x7 m) m) fun x8 m=>
  bp (pur (bin .neq true true .int x8 (.int .i64 0)) m) fun x9 m=>
  brb x9
  (bp (pur (aLoad true 2 x3 m) m) fun x10 m=>
  bp (aBuildSlice Q7 Qo 2 1 [(0,x10)] m) fun x11 m=>
  bp (apS Q7 2 16 p3 x11 m) fun x12 m=>
  Qpp G k0 p13 p12 p11 p0 x12 m)
  (Qpp G k0 p13 p12 p11 p0 p3 m)
def Q16c (G:Gt)(k0:V → V → V → V → V → M → R)(p14 p11 p13 p0 p3 p12:V)(m:M):R:=
  brb p14
  (Q16b G k0 p11 p13 p0 p3 p12 m)
  (Q16a G p3 m)
def Q7f (G:Gt):Nat → V → V → V → V → V → M → R
 | 0,_,_,_,_,_,_=>none
 | i + 1,p13,p12,p11,p0,p3,m=>
  bp (pur (bin .lss false true .int p13 p12) m) fun x13 m=>
  Q16c G (Q7f G i) x13 p11 p13 p0 p3 p12 m
def Q16d (G:Gt)(p13 p12 p11 p0 p3:V)(m:M):R:=
  Q7f G G.rds p13 p12 p11 p0 p3 m
def Q16e (G:Gt)(p0 p3:V)(m:M):R:=
  bp (pur (aNilCheck p0) m) fun x14 m=>
  bp (pur (aFieldAddr 1 x14) m) fun x15 m=>
  bp (pur (aLoad false 1 x15 m) m) fun x16 m=>
  bp (pur (lenK 1 x16 m) m) fun x17 m=>
  Q16d G (.int .i64 0) x17 x16 p0 p3 m
def Q16f (G:Gt)(p0:V)(m:M):R:=
  Q16e G p0 (.slice none 0 0) m
def Q16g (G:Gt)(p0:V)(m:M):R:=
  bp (pur (binP m .eql true true .ptr p0 (.pointer none)) m) fun x18 m=>
  brb x18
  (some ((.slice none 0 0),m))
  (Q16f G p0 m)
def Qus (G:Gt)(p0:V)(m:M):R:=
  Q16g G p0 m
theorem Q1qr (G:Gt)(a0:V)(m:M):ef G Tryz.f13 [a0] m = Qus G a0 m:=
  evFn_of (r:=fun r m=>Qus G (r 0) m) rfl rfl (tr (seqQ (f:=fun r m=>Q16g G (r 0) m) (tr (seqQ (f:=fun r m=>Q16f G (r 0) m) (tr (seqQ (f:=fun r m=>Q16e G (r 0) (r 3) m) (tr (tr (seqQ (f:=fun r m=>Q16a G (r 3) m) (fun r m=>by kernel_rfl)) (seqQ (f:=fun r m=>Q16d G (r 13) (r 12) (r 11) (r 0) (r 3) m) (tr (blockQ (loopQ (fun i r m=>Q7f G i (r 13) (r 12) (r 11) (r 0) (r 3) m) (fun _ _=>rfl) (fun i0=>tr (seqQ (f:=fun r m=>Q16c G (Q7f G i0) (r 14) (r 11) (r 13) (r 0) (r 3) (r 12) m) (tr (seqQ (f:=fun r m=>Q16b G (Q7f G i0) (r 11) (r 13) (r 0) (r 3) (r 12) m) (tr (seqQ (f:=fun r m=>Qpp G (Q7f G i0) (r 13) (r 12) (r 11) (r 0) (r 3) m) (fun r m=>by kernel_rfl)) (fun r m=>by kernel_rfl))) (fun r m=>by kernel_rfl))) (fun r m=>by kernel_rfl)))) (fun r m=>by kernel_rfl)))) (fun r m=>by kernel_rfl))) (fun r m=>by kernel_rfl))) (fun r m=>by kernel_rfl))) (fun r m=>by kernel_rfl)) m
def Q1qc:En:=⟨Qm0,Tryz.f13,Tryz.func13,by kernel_rfl,arg1 Qus,okarg1 Q1qr⟩
end
end Go.Ab.Sh

set_option linter.unusedVariables false
set_option maxRecDepth 100000
namespace Go.Ab.Sh
open Go Go.Ab Go.Proofs
noncomputable section
def Qy3 (G:Gt)(p0 p1:V)(m:M):R:=
  bp (some (aNew Qg0 Q3g m)) fun x0 m=>
  bp (aBuildSlice Qcu [(.int .i64 0)] 1 1 [(0,p1)] m) fun x1 m=>
  bp (G.tab Qjk [p0,x1,(.slice none 0 0)] m) fun x2 m=>
  bp (pur (bin .neq true true .int x2 (.int .i64 0)) m) fun x3 m=>
  brb x3
  (bp (pur (aBuild Q3g [(0,1),(1,1)] []) m) fun x4 m=>
  bp (unt (aStore 2 x0 x4 m)) fun _ m=>
  ob (ob (aLoad true 2 x0 m) fun v=>ob (some [x2]) fun l=>some (v :: l)) fun l=>some (resVal l,m))
  (bp (pur (aNilCheck p0) m) fun x5 m=>
  bp (pur (aFieldAddr 0 x5) m) fun x6 m=>
  bp (pur (aLoad false 1 x6 m) m) fun x7 m=>
  bp (G.tab Q1zo [(.func (.func Q1jv) #[] #[])] m) fun x8 m=>
  ckB (again (pur (aLoad false 1 x6 m) m) x7 && true)
  (bp (G.tab Q1de [x7,p1,x8] m) fun x9 m=>
  bp (pur (aExtract x9 0) m) fun x10 m=>
  bp (pur (aExtract x9 1) m) fun x11 m=>
  bp (unt (aStore 2 x0 x10 m)) fun _ m=>
  ob (ob (aLoad true 2 x0 m) fun v=>ob (some [x11]) fun l=>some (v :: l)) fun l=>some (resVal l,m)))
theorem Q1su (G:Gt)(a0 a1:V)(m:M):ef G Tryz.f14 [a0,a1] m = Qy3 G a0 a1 m:=
  evFn_of (r:=fun r m=>Qy3 G (r 0) (r 1) m) rfl rfl (fun r m=>by kernel_rfl) m
def Q1ru:En:=⟨Q1df,Tryz.f14,Tryz.func14,by kernel_rfl,arg2 Qy3,okarg2 Q1su⟩
def Qo9 (G:Gt)(p0:V)(m:M):R:=
  bp (pur (binP m .eql true true .ptr p0 (.pointer none)) m) fun x0 m=>
  brb x0
  (some ((.pointer none),m))
  (bp (pur (aNilCheck p0) m) fun x1 m=>
  bp (pur (aFieldAddr 0 x1) m) fun x2 m=>
  bp (pur (aLoad false 1 x2 m) m) fun x3 m=>
  some (x3,m))
theorem Q1kn (G:Gt)(a0:V)(m:M):ef G Tryz.f15 [a0] m = Qo9 G a0 m:=
  evFn_of (r:=fun r m=>Qo9 G (r 0) m) rfl rfl (fun r m=>by kernel_rfl) m
def Q1ka:En:=⟨Q12l,Tryz.f15,Tryz.func15,by kernel_rfl,arg1 Qo9,okarg1 Q1kn⟩
def Qml (G:Gt)(p0:V)(m:M):R:=
  bp (pur (binP m .eql true true .ptr p0 (.pointer none)) m) fun x0 m=>
  brb x0
  (some ((.slice none 0 0),m))
  (bp (pur (aNilCheck p0) m) fun x1 m=>
  bp (pur (aFieldAddr 2 x1) m) fun x2 m=>
  bp (pur (aLoad false 1 x2 m) m) fun x3 m=>
  bp (G.tab Q71 [x3] m) fun x4 m=>
  some (x4,m))
theorem Q1j4 (G:Gt)(a0:V)(m:M):ef G Tryz.f16 [a0] m = Qml G a0 m:=
  evFn_of (r:=fun r m=>Qml G (r 0) m) rfl rfl (fun r m=>by kernel_rfl) m
def Q1j0:En:=⟨Qzv,Tryz.f16,Tryz.func16,by kernel_rfl,arg1 Qml,okarg1 Q1j4⟩
def Q1ab (G:Gt)(p8:V)(m:M):R:=
  some (.tuple ⟨[p8,(.int .i64 0)]⟩,m)
def Qut (G:Gt):Nat → V → V → V → V → V → V → V → M → R
 | 0,_,_,_,_,_,_,_,_=>none
 | i + 1,p26,p25,p24,p1,p5,p0,p8,m=>
  bp (pur (bin .lss false true .int p26 p25) m) fun x0 m=>
  brb x0
  (bp (pur (aIndexAddrSl 2 p24 p26) m) fun x1 m=>
  bp (pur (aLoad true 2 x1 m) m) fun x2 m=>
  bp (some (aNew Q7 Qo m)) fun x3 m=>
  bp (unt (aStore 2 x3 x2 m)) fun _ m=>
  bp (pur (aLoad true 2 p5 m) m) fun x4 m=>
  bp (pur (aNilCheck p0) m) fun x5 m=>
  bp (pur (aFieldAddr 2 x5) m) fun x6 m=>
  bp (pur (aLoad false 1 x6 m) m) fun x7 m=>
  bp (pur (aLoad true 2 x3 m) m) fun x8 m=>
  bp (pur (aLookup (.struct [(0,1,false,.int),(1,1,false,.int)]) (.int .i64 0) false x7 x8 m) m) fun x9 m=>
  bp (G.tab Q16h [p1,x4,p26,x9] m) fun x10 m=>
  bp (pur (aExtract x10 0) m) fun x11 m=>
  bp (pur (aExtract x10 1) m) fun x12 m=>
  bp (pur (bin .neq true true .int x12 (.int .i64 0)) m) fun x13 m=>
  brb x13
  (some (.tuple ⟨[(.int .i64 0),x12]⟩,m))
  (bp (pur (aNilCheck p0) m) fun x14 m=>
  bp (pur (aFieldAddr 0 x14) m) fun x15 m=>
  bp (pur (aLoad false 1 x15 m) m) fun x16 m=>
  bp (G.tab Qnh [x16,p8,x11] m) fun x17 m=>
  bp (pur (aExtract x17 0) m) fun x18 m=>
  bp (pur (aExtract x17 1) m) fun x19 m=>
  bp (pur (bin .neq true true .int x19 (.int .i64 0)) m) fun x20 m=>
  brb x20
  (some (.tuple ⟨[(.int .i64 0),x19]⟩,m))
  (bp (pur (bin .add true true .int p26 (.int .i64 1)) m) fun x21 m=>
  (Qut G i) x21 p25 p24 p1 p5 p0 x18 m)))
  (Q1ab G p8 m)
def Q1ac (G:Gt)(p26 p25 p24 p1 p5 p0 p8:V)(m:M):R:=
  Qut G G.rds p26 p25 p24 p1 p5 p0 p8 m
def Q1ad (G:Gt)(p9 p1 p5 p0 p8:V)(m:M):R:=
  bp (pur (lenK 1 p9 m) m) fun x22 m=>
  Q1ac G (.int .i64 0) x22 p9 p1 p5 p0 p8 m
def Q1ae (G:Gt)(p10 p9 p1 p5 p0 p8:V)(m:M):R:=
  bp (pur (bin .neq true true .int p10 (.int .i64 0)) m) fun x23 m=>
  brb x23
  (some (.tuple ⟨[(.int .i64 0),p10]⟩,m))
  (Q1ad G p9 p1 p5 p0 p8 m)
def Q1af (G:Gt)(p1 p5 p0 p8:V)(m:M):R:=
  bp (pur (aLoad true 2 p5 m) m) fun x24 m=>
  bp (G.tab Q12m [p1,x24] m) fun x25 m=>
  bp (pur (aExtract x25 0) m) fun x26 m=>
  bp (pur (aExtract x25 1) m) fun x27 m=>
  Q1ae G x27 x26 p1 p5 p0 p8 m
def Q1ag (G:Gt)(p1 p5 p0:V)(m:M):R:=
  Q1af G p1 p5 p0 (.int .i64 0) m
def Q11f (G:Gt)(p2 p1 p0:V)(m:M):R:=
  bp (some (aNew Q7 (Value.cells p2).toList m)) fun x28 m=>
  Q1ag G p1 x28 p0 m
theorem Q1ue (G:Gt)(a0 a1 a2:V)(m:M):ef G Tryz.f17 [a0,a1,a2] m = Q11f G a2 a1 a0 m:=
  evFn_of (r:=fun r m=>Q11f G (r 2) (r 1) (r 0) m) rfl rfl (tr (seqQ (f:=fun r m=>Q1ag G (r 1) (r 5) (r 0) m) (tr (seqQ (f:=fun r m=>Q1af G (r 1) (r 5) (r 0) (r 8) m) (tr (seqQ (f:=fun r m=>Q1ae G (r 10) (r 9) (r 1) (r 5) (r 0) (r 8) m) (tr (seqQ (f:=fun r m=>Q1ad G (r 9) (r 1) (r 5) (r 0) (r 8) m) (tr (tr (seqQ (f:=fun r m=>Q1ab G (r 8) m) (fun r m=>by kernel_rfl)) (seqQ (f:=fun r m=>Q1ac G (r 26) (r 25) (r 24) (r 1) (r 5) (r 0) (r 8) m) (tr (blockQ (loopQ (fun i r m=>Qut G i (r 26) (r 25) (r 24) (r 1) (r 5) (r 0) (r 8) m) (fun _ _=>rfl) (fun i0=>fun r m=>by kernel_rfl))) (fun r m=>by kernel_rfl)))) (fun r m=>by kernel_rfl))) (fun r m=>by kernel_rfl))) (fun r m=>by kernel_rfl))) (fun r m=>by kernel_rfl))) (fun r m=>by kernel_rfl)) m
def Q1u6:En:=⟨Q1fg,Tryz.f17,Tryz.func17,by kernel_rfl,arg3 (fun G a0 a1 a2 m=>Q11f G a2 a1 a0 m),okarg3 Q1ue⟩
def Q1ah (G:Gt)(m:M):R:=
  some ((.int .i64 0),m)
def Qsg (G:Gt)(k1:V → V → V → V → V → V → M → R)(p67 p66 p65 p0 p6 p5:V)(m:M):R:=
  bp (pur (bin .add true true .int p67 (.int .i64 1)) m) fun x0 m=>
  k1 x0 p66 p65 p0 p6 p5 m
def Q18i (G:Gt)(k1:V → V → V → V → V → V → M → R)(p65 p67 p0 p6 p5 p66:V)(m:M):R:=
  bp (pur (aIndexAddrSl 8 p65 p67) m) fun x1 m=>
  bp (pur (aLoad true 8 x1 m) m) fun x2 m=>
  bp (some (aNew Qpl Q4x m)) fun x3 m=>
  bp (unt (aStore 8 x3 x2 m)) fun _ m=>
  bp (pur (aFieldAddr 0 x3) m) fun x4 m=>
  bp (pur (aLoad false 1 x4 m) m) fun x5 m=>
  bp (pur (bin .eql true true .int x5 (.int .u8 0)) m) fun x6 m=>
  brb x6
  (bp (pur (aFieldAddr 1 x3) m) fun x7 m=>
  bp (pur (aLoad true 2 x7 m) m) fun x8 m=>
  bp (pur (aFieldAddr 3 x3) m) fun x9 m=>
  bp (pur (aLoad true 5 x9 m) m) fun x10 m=>
  bp (pur (aBuild Q3t [(0,2),(2,5)] [(0,x8),(1,x10)]) m) fun x11 m=>
  bp (some (aNew Q1k Q3t m)) fun x12 m=>
  bp (unt (aStore 7 x12 x11 m)) fun _ m=>
  bp (pur (aNilCheck p0) m) fun x13 m=>
  bp (pur (aFieldAddr 1 x13) m) fun x14 m=>
  bp (pur (aLoad false 1 x14 m) m) fun x15 m=>
  bp (pur (aLoad true 7 p6 m) m) fun x16 m=>
  bp (pur (aLoad true 7 x12 m) m) fun x17 m=>
  bp (aBuildSlice Q1k Q3t 7 1 [(0,x17)] m) fun x18 m=>
  bp (aMapEntry (.struct [(0,2,true,(.struct [(0,1,false,.int),(1,1,false,.int)])),(2,5,true,(.struct [(0,1,false,.int),(1,1,false,.int),(2,1,false,.int),(3,1,false,.int),(4,1,false,.int)]))]) (.slice none 0 0) x15 x16 m) fun x19 m=>
  bp (pur (aExtract x19 0) m) fun x20 m=>
  bp (pur (aExtract x19 1) m) fun x21 m=>
  bp (apS Q1k 7 32 x20 x18 m) fun x22 m=>
  bp (unt (aEntryStore x15 x21 x22 m)) fun _ m=>
  bp (pur (aLoad true 7 x12 m) m) fun x23 m=>
  bp (aBuildSlice Q1k Q3t 7 1 [(0,x23)] m) fun x24 m=>
  bp (apS Q1k 7 32 p5 x24 m) fun x25 m=>
  Qsg G k1 p67 p66 p65 p0 p6 x25 m)
  (Qsg G k1 p67 p66 p65 p0 p6 p5 m)
def Q18j (G:Gt)(k1:V → V → V → V → V → V → M → R)(k0:V → V → M → R)(p68 p65 p67 p0 p6 p5 p66:V)(m:M):R:=
  brb p68
  (Q18i G k1 p65 p67 p0 p6 p5 p66 m)
  (k0 p5 p0 m)
def Q8t (G:Gt)(k0:V → V → M → R):Nat → V → V → V → V → V → V → M → R
 | 0,_,_,_,_,_,_,_=>none
 | i + 1,p67,p66,p65,p0,p6,p5,m=>
  bp (pur (bin .lss false true .int p67 p66) m) fun x26 m=>
  Q18j G (Q8t G k0 i) k0 x26 p65 p67 p0 p6 p5 p66 m
def Q18k (G:Gt)(k0:V → V → M → R)(p67 p66 p65 p0 p6 p5:V)(m:M):R:=
  Q8t G k0 G.rds p67 p66 p65 p0 p6 p5 m
def Q18l (G:Gt)(k0:V → V → M → R)(p9 p0 p6 p5:V)(m:M):R:=
  bp (pur (lenK 1 p9 m) m) fun x27 m=>
  Q18k G k0 (.int .i64 0) x27 p9 p0 p6 p5 m
def Q18m (G:Gt)(k0:V → V → M → R)(p0 p6 p9 p5:V)(m:M):R:=
  bp (pur (aNilCheck p0) m) fun x28 m=>
  bp (pur (aFieldAddr 2 x28) m) fun x29 m=>
  bp (pur (aLoad false 1 x29 m) m) fun x30 m=>
  bp (pur (aLoad true 7 p6 m) m) fun x31 m=>
  bp (aBuildSlice Q1k Q3t 7 1 [(0,x31)] m) fun x32 m=>
  bp (apS Q1k 7 32 x30 x32 m) fun x33 m=>
  bp (pur (aNilCheck p0) m) fun x34 m=>
  bp (pur (aFieldAddr 2 x34) m) fun x35 m=>
  bp (unt (aStore 1 x35 x33 m)) fun _ m=>
  Q18l G k0 p9 p0 p6 p5 m
def Q1ai (G:Gt)(k0:V → V → M → R)(p0 p6 p9 p5:V)(m:M):R:=
  bp (pur (aNilCheck p0) m) fun x36 m=>
  bp (pur (aFieldAddr 1 x36) m) fun x37 m=>
  bp (pur (aLoad false 1 x37 m) m) fun x38 m=>
  bp (pur (aLoad true 7 p6 m) m) fun x39 m=>
  bp (aBuildSlice Q1k Q3t 7 0 [] m) fun x40 m=>
  bp (unt (aMapUpdate (.struct [(0,2,true,(.struct [(0,1,false,.int),(1,1,false,.int)])),(2,5,true,(.struct [(0,1,false,.int),(1,1,false,.int),(2,1,false,.int),(3,1,false,.int),(4,1,false,.int)]))]) x38 x39 x40 m)) fun _ m=>
  Q18m G k0 p0 p6 p9 p5 m
def Q1aj (G:Gt)(k0:V → V → M → R)(p10 p0 p6 p9 p5:V)(m:M):R:=
  bp (pur (bin .neq true true .int p10 (.int .i64 0)) m) fun x41 m=>
  brb x41
  (some (p10,m))
  (Q1ai G k0 p0 p6 p9 p5 m)
def Q1ak (G:Gt)(k0:V → V → M → R)(p0 p6 p5:V)(m:M):R:=
  bp (pur (aNilCheck p0) m) fun x42 m=>
  bp (pur (aFieldAddr 0 x42) m) fun x43 m=>
  bp (pur (aLoad false 1 x43 m) m) fun x44 m=>
  bp (pur (aFieldAddr 0 p6) m) fun x45 m=>
  bp (pur (aLoad true 2 x45 m) m) fun x46 m=>
  bp (pur (aFieldAddr 2 p6) m) fun x47 m=>
  bp (pur (aLoad true 5 x47 m) m) fun x48 m=>
  bp (G.tab Q1lw [x44,x46,x48] m) fun x49 m=>
  bp (pur (aExtract x49 0) m) fun x50 m=>
  bp (pur (aExtract x49 1) m) fun x51 m=>
  Q1aj G k0 x51 p0 p6 x50 p5 m
def Q1al (G:Gt)(k0:V → V → M → R)(p0 p6 p5:V)(m:M):R:=
  bp (pur (aNilCheck p0) m) fun x52 m=>
  bp (pur (aFieldAddr 1 x52) m) fun x53 m=>
  bp (pur (aLoad false 1 x53 m) m) fun x54 m=>
  bp (pur (aLoad true 7 p6 m) m) fun x55 m=>
  bp (pur (aLookup (.struct [(0,2,true,(.struct [(0,1,false,.int),(1,1,false,.int)])),(2,5,true,(.struct [(0,1,false,.int),(1,1,false,.int),(2,1,false,.int),(3,1,false,.int),(4,1,false,.int)]))]) (.slice none 0 0) true x54 x55 m) m) fun x56 m=>
  bp (pur (aExtract x56 0) m) fun x57 m=>
  bp (pur (aExtract x56 1) m) fun x58 m=>
  brb x58
  (k0 p5 p0 m)
  (Q1ak G k0 p0 p6 p5 m)
def Q1am (G:Gt)(k0:V → V → M → R)(p5 p0 p6:V)(m:M):R:=
  bp (pur (aSliceSl 7 p5 (some (.int .i64 1)) none) m) fun x59 m=>
  Q1al G k0 p0 p6 x59 m
def Q1an (G:Gt)(k0:V → V → M → R)(p5 p0:V)(m:M):R:=
  bp (pur (aIndexAddrSl 7 p5 (.int .i64 0)) m) fun x60 m=>
  bp (pur (aLoad true 7 x60 m) m) fun x61 m=>
  bp (some (aNew Q1k Q3t m)) fun x62 m=>
  bp (unt (aStore 7 x62 x61 m)) fun _ m=>
  Q1am G k0 p5 p0 x62 m
def Q11 (G:Gt):Nat → V → V → M → R
 | 0,_,_,_=>none
 | i + 1,p5,p0,m=>
  bp (pur (lenK 1 p5 m) m) fun x63 m=>
  bp (pur (bin .gtr true true .int x63 (.int .i64 0)) m) fun x64 m=>
  brb x64
  (Q1an G (Q11 G i) p5 p0 m)
  (Q1ah G m)
def Q1ao (G:Gt)(p5 p0:V)(m:M):R:=
  Q11 G G.rds p5 p0 m
def Q1ap (G:Gt)(p3 p0:V)(m:M):R:=
  bp (pur (aLoad true 7 p3 m) m) fun x65 m=>
  bp (aBuildSlice Q1k Q3t 7 1 [(0,x65)] m) fun x66 m=>
  Q1ao G x66 p0 m
def Q11g (G:Gt)(p1 p0:V)(m:M):R:=
  bp (some (aNew Q1k (Value.cells p1).toList m)) fun x67 m=>
  Q1ap G x67 p0 m
theorem Q1uf (G:Gt)(a0 a1:V)(m:M):ef G Tryz.f18 [a0,a1] m = Q11g G a1 a0 m:=
  evFn_of (r:=fun r m=>Q11g G (r 1) (r 0) m) rfl rfl (tr (seqQ (f:=fun r m=>Q1ap G (r 3) (r 0) m) (tr (seqQ (f:=fun r m=>Q1ao G (r 5) (r 0) m) (tr (tr (seqQ (f:=fun r m=>Q1ah G m) (fun r m=>by kernel_rfl)) (blockQ (loopQ (fun i r m=>Q11 G i (r 5) (r 0) m) (fun _ _=>rfl) (fun i0=>tr (seqQ (f:=fun r m=>Q1an G (Q11 G i0) (r 5) (r 0) m) (tr (blockQ (seqQ (f:=fun r m=>Q1am G (Q11 G i0) (r 5) (r 0) (r 6) m) (tr (seqQ (f:=fun r m=>Q1al G (Q11 G i0) (r 0) (r 6) (r 5) m) (tr (seqQ (f:=fun r m=>Q1ak G (Q11 G i0) (r 0) (r 6) (r 5) m) (tr (seqQ (f:=fun r m=>Q1aj G (Q11 G i0) (r 10) (r 0) (r 6) (r 9) (r 5) m) (tr (seqQ (f:=fun r m=>Q1ai G (Q11 G i0) (r 0) (r 6) (r 9) (r 5) m) (tr (seqQ (f:=fun r m=>Q18m G (Q11 G i0) (r 0) (r 6) (r 9) (r 5) m) (tr (seqQ (f:=fun r m=>Q18l G (Q11 G i0) (r 9) (r 0) (r 6) (r 5) m) (tr (seqQ (f:=fun r m=>Q18k G (Q11 G i0) (r 67) (r 66) (r 65) (r 0) (r 6) (r 5) m) (tr (blockQ (loopQ (fun i r m=>Q8t G (Q11 G i0) i (r 67) (r 66) (r 65) (r 0) (r 6) (r 5) m) (fun _ _=>rfl) (fun i1=>tr (seqQ (f:=fun r m=>Q18j G (Q8t G (Q11 G i0) i1) (Q11 G i0) (r 68) (r 65) (r 67) (r 0) (r 6) (r 5) (r 66) m) (tr (seqQ (f:=fun r m=>Q18i G (Q8t G (Q11 G i0) i1) (r 65) (r 67) (r 0) (r 6) (r 5) (r 66) m) (tr (seqQ (f:=fun r m=>Qsg G (Q8t G (Q11 G i0) i1) (r 67) (r 66) (r 65) (r 0) (r 6) (r 5) m) (fun r m=>by kernel_rfl)) (fun r m=>by kernel_rfl))) (fun r m=>by kernel_rfl))) (fun r m=>by kernel_rfl)))) (fun r m=>by kernel_rfl))) (fun r m=>by kernel_rfl))) (fun r m=>by kernel_rfl))) (fun r m=>by kernel_rfl))) (fun r m=>by kernel_rfl))) (fun r m=>by kernel_rfl))) (fun r m=>by kernel_rfl))) (fun r m=>by kernel_rfl)))) (fun r m=>by kernel_rfl))) (fun r m=>by kernel_rfl))))) (fun r m=>by kernel_rfl))) (fun r m=>by kernel_rfl))) (fun r m=>by kernel_rfl)) m
def Q1ua:En:=⟨Q1fh,Tryz.f18,Tryz.func18,by kernel_rfl,arg2 (fun G a0 a1 m=>Q11g G a1 a0 m),okarg2 Q1uf⟩
def Qzw (G:Gt)(p3:V)(m:M):R:=
  bp (pur (aLoad false 1 p3 m) m) fun x0 m=>
  some (x0,m)
def Ql7 (G:Gt)(k1:V → V → V → V → V → V → M → R)(p28 p27 p26 p3 p0 p6:V)(m:M):R:=
  bp (pur (bin .add true true .int p28 (.int .i64 1)) m) fun x1 m=>
  k1 x1 p27 p26 p3 p0 p6 m
def Ql8 (G:Gt)(k1:V → V → V → V → V → V → M → R)(p45 p3 p8 p28 p27 p26 p0 p6:V)(m:M):R:=
  brb p45
  (bp (pur (aLoad false 1 p3 m) m) fun x2 m=>
  bp (pur (aLoad true 7 p8 m) m) fun x3 m=>
  bp (unt (aDelete (.struct [(0,2,true,(.struct [(0,1,false,.int),(1,1,false,.int)])),(2,5,true,(.struct [(0,1,false,.int),(1,1,false,.int),(2,1,false,.int),(3,1,false,.int),(4,1,false,.int)]))]) x2 x3 m)) fun _ m=>
  Ql7 G k1 p28 p27 p26 p3 p0 (.bool true) m)
  (Ql7 G k1 p28 p27 p26 p3 p0 p6 m)
def Qy4 (G:Gt)(k1:V → V → V → V → V → V → M → R)(p3 p8 p0 p28 p27 p26 p6:V)(m:M):R:=
  bp (pur (aLoad false 1 p3 m) m) fun x4 m=>
  bp (pur (aLoad true 7 p8 m) m) fun x5 m=>
  bp (pur (aLookup (.struct [(0,2,true,(.struct [(0,1,false,.int),(1,1,false,.int)])),(2,5,true,(.struct [(0,1,false,.int),(1,1,false,.int),(2,1,false,.int),(3,1,false,.int),(4,1,false,.int)]))]) (.bool false) false x4 x5 m) m) fun x6 m=>
  brt x6
  (bp (pur (aNilCheck p0) m) fun x7 m=>
  bp (pur (aFieldAddr 1 x7) m) fun x8 m=>
  bp (pur (aLoad false 1 x8 m) m) fun x9 m=>
  bp (pur (aLoad true 7 p8 m) m) fun x10 m=>
  bp (pur (aLookup (.struct [(0,2,true,(.struct [(0,1,false,.int),(1,1,false,.int)])),(2,5,true,(.struct [(0,1,false,.int),(1,1,false,.int),(2,1,false,.int),(3,1,false,.int),(4,1,false,.int)]))]) (.slice none 0 0) false x9 x10 m) m) fun x11 m=>
  bp (G.tab Q91 [x11,(.func (.func Qzx) ⟨[]⟩ ⟨[p3]⟩)] m) fun x12 m=>
  bp (pur (un .not x12) m) fun x13 m=>
  Ql8 G k1 x13 p3 p8 p28 p27 p26 p0 p6 m)
  (Ql8 G k1 (.bool false) p3 p8 p28 p27 p26 p0 p6 m)
  (none)
def Qy5 (G:Gt)(k1:V → V → V → V → V → V → M → R)(p26 p28 p3 p0 p27 p6:V)(m:M):R:=
  bp (pur (aIndexAddrSl 7 p26 p28) m) fun x14 m=>
  bp (pur (aLoad true 7 x14 m) m) fun x15 m=>
  bp (some (aNew Q1k Q3t m)) fun x16 m=>
  bp (unt (aStore 7 x16 x15 m)) fun _ m=>
  Qy4 G k1 p3 x16 p0 p28 p27 p26 p6 m
def Qy6 (G:Gt)(k1:V → V → V → V → V → V → M → R)(k0:V → V → V → M → R)(p29 p26 p28 p3 p0 p27 p6:V)(m:M):R:=
  brb p29
  (Qy5 G k1 p26 p28 p3 p0 p27 p6 m)
  (k0 p6 p0 p3 m)
def Q2p (G:Gt)(k0:V → V → V → M → R):Nat → V → V → V → V → V → V → M → R
 | 0,_,_,_,_,_,_,_=>none
 | i + 1,p28,p27,p26,p3,p0,p6,m=>
  bp (pur (bin .lss false true .int p28 p27) m) fun x17 m=>
  Qy6 G (Q2p G k0 i) k0 x17 p26 p28 p3 p0 p27 p6 m
def Qzy (G:Gt)(k0:V → V → V → M → R)(p28 p27 p26 p3 p0 p6:V)(m:M):R:=
  Q2p G k0 G.rds p28 p27 p26 p3 p0 p6 m
def Qzz (G:Gt)(k0:V → V → V → M → R)(p0 p3 p6:V)(m:M):R:=
  bp (pur (aNilCheck p0) m) fun x18 m=>
  bp (pur (aFieldAddr 2 x18) m) fun x19 m=>
  bp (pur (aLoad false 1 x19 m) m) fun x20 m=>
  bp (pur (lenK 1 x20 m) m) fun x21 m=>
  Qzy G k0 (.int .i64 0) x21 x20 p3 p0 p6 m
def Q100 (G:Gt)(k0:V → V → V → M → R)(p0 p3:V)(m:M):R:=
  Qzz G k0 p0 p3 (.bool false) m
def Q16 (G:Gt):Nat → V → V → V → M → R
 | 0,_,_,_,_=>none
 | i + 1,p6,p0,p3,m=>
  brb p6
  (Q100 G (Q16 G i) p0 p3 m)
  (Qzw G p3 m)
def Q101 (G:Gt)(p6 p0 p3:V)(m:M):R:=
  Q16 G G.rds p6 p0 p3 m
def Q102 (G:Gt)(p0 p3:V)(m:M):R:=
  Q101 G (.bool true) p0 p3 m
def Ql9 (G:Gt):Nat → V → V → V → V → V → M → R
 | 0,_,_,_,_,_,_=>none
 | i + 1,p15,p14,p13,p3,p0,m=>
  bp (pur (bin .lss false true .int p15 p14) m) fun x22 m=>
  brb x22
  (bp (pur (aIndexAddrSl 7 p13 p15) m) fun x23 m=>
  bp (pur (aLoad true 7 x23 m) m) fun x24 m=>
  bp (some (aNew Q1k Q3t m)) fun x25 m=>
  bp (unt (aStore 7 x25 x24 m)) fun _ m=>
  bp (pur (aLoad false 1 p3 m) m) fun x26 m=>
  bp (pur (aLoad true 7 x25 m) m) fun x27 m=>
  bp (unt (aMapUpdate (.struct [(0,2,true,(.struct [(0,1,false,.int),(1,1,false,.int)])),(2,5,true,(.struct [(0,1,false,.int),(1,1,false,.int),(2,1,false,.int),(3,1,false,.int),(4,1,false,.int)]))]) x26 x27 (.bool true) m)) fun _ m=>
  bp (pur (bin .add true true .int p15 (.int .i64 1)) m) fun x28 m=>
  (Ql9 G i) x28 p14 p13 p3 p0 m)
  (Q102 G p0 p3 m)
def Qy7 (G:Gt)(p15 p14 p13 p3 p0:V)(m:M):R:=
  Ql9 G G.rds p15 p14 p13 p3 p0 m
def Q103 (G:Gt)(p0 p3:V)(m:M):R:=
  bp (pur (aNilCheck p0) m) fun x29 m=>
  bp (pur (aFieldAddr 2 x29) m) fun x30 m=>
  bp (pur (aLoad false 1 x30 m) m) fun x31 m=>
  bp (pur (lenK 1 x31 m) m) fun x32 m=>
  Qy7 G (.int .i64 0) x32 x31 p3 p0 m
def Q104 (G:Gt)(p0:V)(m:M):R:=
  bp (some (aMakeMap m)) fun x33 m=>
  bp (some (aNew Q16i [(.map none)] m)) fun x34 m=>
  bp (unt (aStore 1 x34 x33 m)) fun _ m=>
  Q103 G p0 x34 m
def Qpq (G:Gt)(p0:V)(m:M):R:=
  Q104 G p0 m
theorem Q1lx (G:Gt)(a0:V)(m:M):ef G Tryz.f19 [a0] m = Qpq G a0 m:=
  evFn_of (r:=fun r m=>Qpq G (r 0) m) rfl rfl (tr (seqQ (f:=fun r m=>Q104 G (r 0) m) (tr (seqQ (f:=fun r m=>Q103 G (r 0) (r 3) m) (tr (tr (seqQ (f:=fun r m=>Q102 G (r 0) (r 3) m) (tr (tr (seqQ (f:=fun r m=>Qzw G (r 3) m) (fun r m=>by kernel_rfl)) (seqQ (f:=fun r m=>Q101 G (r 6) (r 0) (r 3) m) (tr (blockQ (loopQ (fun i r m=>Q16 G i (r 6) (r 0) (r 3) m) (fun _ _=>rfl) (fun i0=>tr (seqQ (f:=fun r m=>Q100 G (Q16 G i0) (r 0) (r 3) m) (tr (blockQ (seqQ (f:=fun r m=>Qzz G (Q16 G i0) (r 0) (r 3) (r 6) m) (tr (seqQ (f:=fun r m=>Qzy G (Q16 G i0) (r 28) (r 27) (r 26) (r 3) (r 0) (r 6) m) (tr (blockQ (loopQ (fun i r m=>Q2p G (Q16 G i0) i (r 28) (r 27) (r 26) (r 3) (r 0) (r 6) m) (fun _ _=>rfl) (fun i1=>tr (seqQ (f:=fun r m=>Qy6 G (Q2p G (Q16 G i0) i1) (Q16 G i0) (r 29) (r 26) (r 28) (r 3) (r 0) (r 27) (r 6) m) (tr (seqQ (f:=fun r m=>Qy5 G (Q2p G (Q16 G i0) i1) (r 26) (r 28) (r 3) (r 0) (r 27) (r 6) m) (tr (tr (seqQ (f:=fun r m=>Ql7 G (Q2p G (Q16 G i0) i1) (r 28) (r 27) (r 26) (r 3) (r 0) (r 6) m) (fun r m=>by kernel_rfl)) (blockQ (seqQ (f:=fun r m=>Qy4 G (Q2p G (Q16 G i0) i1) (r 3) (r 8) (r 0) (r 28) (r 27) (r 26) (r 6) m) (tr (seqQ (f:=fun r m=>Ql8 G (Q2p G (Q16 G i0) i1) (r 45) (r 3) (r 8) (r 28) (r 27) (r 26) (r 0) (r 6) m) (fun r m=>by kernel_rfl)) (fun r m=>by kernel_rfl))))) (fun r m=>by kernel_rfl))) (fun r m=>by kernel_rfl))) (fun r m=>by kernel_rfl)))) (fun r m=>by kernel_rfl))) (fun r m=>by kernel_rfl)))) (fun r m=>by kernel_rfl))) (fun r m=>by kernel_rfl)))) (fun r m=>by kernel_rfl)))) (fun r m=>by kernel_rfl))) (seqQ (f:=fun r m=>Qy7 G (r 15) (r 14) (r 13) (r 3) (r 0) m) (tr (blockQ (loopQ (fun i r m=>Ql9 G i (r 15) (r 14) (r 13) (r 3) (r 0) m) (fun _ _=>rfl) (fun i0=>fun r m=>by kernel_rfl))) (fun r m=>by kernel_rfl)))) (fun r m=>by kernel_rfl))) (fun r m=>by kernel_rfl))) (fun r m=>by kernel_rfl)) m
def Q1ln:En:=⟨Q16j,Tryz.f19,Tryz.func19,by kernel_rfl,arg1 Qpq,okarg1 Q1lx⟩
def Q4y (G:Gt)(p1 p0:V)(m:M):R:=
  bp (some (aNew Q1k (Value.cells p1).toList m)) fun x0 m=>
  bp (pur (aLoad true 7 x0 m) m) fun x1 m=>
  bp (G.tab Q68 [p0,x1] m) fun x2 m=>
  bp (pur (bin .geq true true .int x2 (.int .i64 0)) m) fun x3 m=>
  some (x3,m)
theorem Qpr (G:Gt)(a0 a1:V)(m:M):ef G Tryz.f20 [a0,a1] m = Q4y G a1 a0 m:=
  evFn_of (r:=fun r m=>Q4y G (r 1) (r 0) m) rfl rfl (fun r m=>by kernel_rfl) m
def Qpi:En:=⟨Qch,Tryz.f20,Tryz.func20,by kernel_rfl,arg2 (fun G a0 a1 m=>Q4y G a1 a0 m),okarg2 Qpr⟩
end
end Go.Ab.Sh
