/-
  Functions of the program as plain definitions. No conditions.
-/
import Derived.Test.YtoahkkdbdiamcaaGreatDoorAb5
import Derived.Test.YtoahkkdbdiamcaaGreatDoorZ
import Derived.KernelRfl
import Derived.Test.YtoahkkdbdiamcaaGreatDoorProg
set_option linter.unusedVariables false
set_option maxRecDepth 100000
namespace Go.Ab.Sh
open Go Go.Ab Go.Proofs
noncomputable section
def Q9t (G:Gt)(m:M):R:=
  some ((.int .i64 (-1)),m)
def Q3z (G:Gt):Nat → V → V → V → V → M → R
 | 0,_,_,_,_,_=>none
 | i + 1,p8,p7,p1,p0,m=>
  bp (pur (bin .lss false true .int p8 p7) m) fun x0 m=>
  brb x0
  (bp (pur (aIndexAddrSl 7 p0 p8) m) fun x1 m=>
  bp (pur (aLoad true 7 x1 m) m) fun x2 m=>
  bp (evCall G.tab p1 [x2] m) fun x3 m=>
  brb x3
  (some (p8,m))
  (bp (pur (bin .add true true .int p8 (.int .i64 1)) m) fun x4 m=>
  (Q3z G i) x4 p7 p1 p0 m))
  (Q9t G m)
def Q9u (G:Gt)(p8 p7 p1 p0:V)(m:M):R:=
  Q3z G G.rds p8 p7 p1 p0 m
def Q9v (G:Gt)(p0 p1:V)(m:M):R:=
  bp (pur (lenK 1 p0 m) m) fun x5 m=>
  Q9u G (.int .i64 0) x5 p1 p0 m
def Q4q (G:Gt)(p0 p1:V)(m:M):R:=
  Q9v G p0 p1 m
theorem Qp6 (G:Gt)(a0 a1:V)(m:M):ef G Tryz.f21 [a0,a1] m = Q4q G a0 a1 m:=
  evFn_of (r:=fun r m=>Q4q G (r 0) (r 1) m) rfl rfl (tr (seqQ (f:=fun r m=>Q9v G (r 0) (r 1) m) (tr (tr (seqQ (f:=fun r m=>Q9t G m) (fun r m=>by kernel_rfl)) (seqQ (f:=fun r m=>Q9u G (r 8) (r 7) (r 1) (r 0) m) (tr (blockQ (loopQ (fun i r m=>Q3z G i (r 8) (r 7) (r 1) (r 0) m) (fun _ _=>rfl) (fun i0=>fun r m=>by kernel_rfl))) (fun r m=>by kernel_rfl)))) (fun r m=>by kernel_rfl))) (fun r m=>by kernel_rfl)) m
def Qp1:En:=⟨Q4l,Tryz.f21,Tryz.func21,by kernel_rfl,arg2 Q4q,okarg2 Qp6⟩
def Q1f8 (G:Gt)(p0 p1:V)(m:M):R:=
  bp (some (aNew Q1k (Value.cells p0).toList m)) fun x0 m=>
  bp (pur (aLoad false 1 p1 m) m) fun x1 m=>
  bp (pur (aLoad true 7 x0 m) m) fun x2 m=>
  bp (pur (aLookup (.struct [(0,2,true,(.struct [(0,1,false,.int),(1,1,false,.int)])),(2,5,true,(.struct [(0,1,false,.int),(1,1,false,.int),(2,1,false,.int),(3,1,false,.int),(4,1,false,.int)]))]) (.bool false) false x1 x2 m) m) fun x3 m=>
  some (x3,m)
theorem Q21p (G:Gt)(a0 a1:V)(m:M):ef G Tryz.f22 [a0,a1] m = Q1f8 G a0 a1 m:=
  evFn_of (r:=fun r m=>Q1f8 G (r 0) (r 1) m) rfl rfl (fun r m=>by kernel_rfl) m
def Q20o:En:=⟨Q1pg,Tryz.f22,Tryz.func22,by kernel_rfl,arg2 Q1f8,okarg2 Q21p⟩
def Qdj (G:Gt)(m:M):R:=
  some ((.int .i64 (-1)),m)
def Q5o (G:Gt):Nat → V → V → V → V → M → R
 | 0,_,_,_,_,_=>none
 | i + 1,p8,p7,p3,p0,m=>
  bp (pur (bin .lss false true .int p8 p7) m) fun x0 m=>
  brb x0
  (bp (pur (aLoad true 7 p3 m) m) fun x1 m=>
  bp (pur (aIndexAddrSl 7 p0 p8) m) fun x2 m=>
  bp (pur (aLoad true 7 x2 m) m) fun x3 m=>
  bp (pur (bin .eql false true (.struct [(0,2,true,(.struct [(0,1,false,.int),(1,1,false,.int)])),(2,5,true,(.struct [(0,1,false,.int),(1,1,false,.int),(2,1,false,.int),(3,1,false,.int),(4,1,false,.int)]))]) x1 x3) m) fun x4 m=>
  brb x4
  (some (p8,m))
  (bp (pur (bin .add true true .int p8 (.int .i64 1)) m) fun x5 m=>
  (Q5o G i) x5 p7 p3 p0 m))
  (Qdj G m)
def Qdk (G:Gt)(p8 p7 p3 p0:V)(m:M):R:=
  Q5o G G.rds p8 p7 p3 p0 m
def Qdl (G:Gt)(p0 p3:V)(m:M):R:=
  bp (pur (lenK 1 p0 m) m) fun x6 m=>
  Qdk G (.int .i64 0) x6 p3 p0 m
def Q6h (G:Gt)(p1 p0:V)(m:M):R:=
  bp (some (aNew Q1k (Value.cells p1).toList m)) fun x7 m=>
  Qdl G p0 x7 m
theorem Quf (G:Gt)(a0 a1:V)(m:M):ef G Tryz.f23 [a0,a1] m = Q6h G a1 a0 m:=
  evFn_of (r:=fun r m=>Q6h G (r 1) (r 0) m) rfl rfl (tr (seqQ (f:=fun r m=>Qdl G (r 0) (r 3) m) (tr (tr (seqQ (f:=fun r m=>Qdj G m) (fun r m=>by kernel_rfl)) (seqQ (f:=fun r m=>Qdk G (r 8) (r 7) (r 3) (r 0) m) (tr (blockQ (loopQ (fun i r m=>Q5o G i (r 8) (r 7) (r 3) (r 0) m) (fun _ _=>rfl) (fun i0=>fun r m=>by kernel_rfl))) (fun r m=>by kernel_rfl)))) (fun r m=>by kernel_rfl))) (fun r m=>by kernel_rfl)) m
def Qt9:En:=⟨Q68,Tryz.f23,Tryz.func23,by kernel_rfl,arg2 (fun G a0 a1 m=>Q6h G a1 a0 m),okarg2 Quf⟩
def Q6i (G:Gt)(p0:V)(m:M):R:=
  bp (pur (bin .eql true true .slice p0 (.slice none 0 0)) m) fun x0 m=>
  brb x0
  (some ((.slice none 0 0),m))
  (bp (aBuildSlice Q1k Q3t 7 0 [] m) fun x1 m=>
  bp (apS Q1k 7 32 x1 p0 m) fun x2 m=>
  some (x2,m))
theorem Qug (G:Gt)(a0:V)(m:M):ef G Tryz.f24 [a0] m = Q6i G a0 m:=
  evFn_of (r:=fun r m=>Q6i G (r 0) m) rfl rfl (fun r m=>by kernel_rfl) m
def Qtb:En:=⟨Q6d,Tryz.f24,Tryz.func24,by kernel_rfl,arg1 Q6i,okarg1 Qug⟩
def Q14b (G:Gt)(p8 p2 p3:V)(m:M):R:=
  bp (pur (aNilCheck p8) m) fun x0 m=>
  bp (pur (aFieldAddr 0 x0) m) fun x1 m=>
  bp (pur (aLoad true 12 x1 m) m) fun x2 m=>
  bp (pur (aBuild Q87 [(0,1),(1,1)] []) m) fun x3 m=>
  bp (unt (aStore 12 p2 x2 m)) fun _ m=>
  bp (unt (aStore 2 p3 x3 m)) fun _ m=>
  ob (ob (aLoad true 12 p2 m) fun v=>ob (ob (aLoad true 2 p3 m) fun v=>ob (some [(.int .i64 0)]) fun l=>some (v :: l)) fun l=>some (v :: l)) fun l=>some (resVal l,m)
def Qon (G:Gt):Nat → V → V → V → V → M → R
 | 0,_,_,_,_,_=>none
 | i + 1,p12,p8,p2,p3,m=>
  bp (pur (aNilCheck p8) m) fun x4 m=>
  bp (pur (aFieldAddr 0 x4) m) fun x5 m=>
  bp (pur (aFieldAddr 9 x5) m) fun x6 m=>
  bp (pur (aLoad false 1 x6 m) m) fun x7 m=>
  bp (pur (lenK 1 x7 m) m) fun x8 m=>
  bp (pur (bin .lss false true .int p12 x8) m) fun x9 m=>
  brb x9
  (bp (pur (aNilCheck p8) m) fun x10 m=>
  bp (pur (aFieldAddr 0 x10) m) fun x11 m=>
  bp (pur (aFieldAddr 9 x11) m) fun x12 m=>
  bp (pur (aLoad false 1 x12 m) m) fun x13 m=>
  bp (pur (aNilCheck p8) m) fun x14 m=>
  bp (pur (aFieldAddr 0 x14) m) fun x15 m=>
  bp (pur (aFieldAddr 9 x15) m) fun x16 m=>
  bp (pur (aLoad false 1 x16 m) m) fun x17 m=>
  bp (pur (aIndexAddrSl 3 x17 p12) m) fun x18 m=>
  bp (pur (aFieldAddr 1 x18) m) fun x19 m=>
  bp (pur (aLoad false 1 x19 m) m) fun x20 m=>
  bp (G.tab Q1m0 [x20] m) fun x21 m=>
  ckB (again (pur (aLoad false 1 x12 m) m) x13 && true)
  (bp (pur (aIndexAddrSl 3 x13 p12) m) fun x22 m=>
  bp (pur (aFieldAddr 1 x22) m) fun x23 m=>
  bp (unt (aStore 1 x23 x21 m)) fun _ m=>
  bp (pur (bin .add true true .int p12 (.int .i64 1)) m) fun x24 m=>
  (Qon G i) x24 p8 p2 p3 m))
  (Q14b G p8 p2 p3 m)
def Q14c (G:Gt)(p12 p8 p2 p3:V)(m:M):R:=
  Qon G G.rds p12 p8 p2 p3 m
def Q14d (G:Gt)(p8 p2 p3:V)(m:M):R:=
  Q14c G (.int .i64 0) p8 p2 p3 m
def Q14e (G:Gt)(p8 p2 p3:V)(m:M):R:=
  bp (pur (aNilCheck p8) m) fun x25 m=>
  bp (pur (aFieldAddr 0 x25) m) fun x26 m=>
  bp (pur (aFieldAddr 0 x26) m) fun x27 m=>
  bp (pur (aLoad false 1 x27 m) m) fun x28 m=>
  bp (pur (bin .eql true true .str x28 (.string ⟨#[]⟩)) m) fun x29 m=>
  brb x29
  (bp (pur (aBuild Q1e [(0,1),(1,1),(2,1),(3,1),(4,1),(5,1),(6,1),(7,1),(8,1),(9,1),(10,1),(11,1)] []) m) fun x30 m=>
  bp (pur (aBuild Q87 [(0,1),(1,1)] []) m) fun x31 m=>
  bp (unt (aStore 12 p2 x30 m)) fun _ m=>
  bp (unt (aStore 2 p3 x31 m)) fun _ m=>
  ob (ob (aLoad true 12 p2 m) fun v=>ob (ob (aLoad true 2 p3 m) fun v=>ob (some [(.int .i64 5)]) fun l=>some (v :: l)) fun l=>some (v :: l)) fun l=>some (resVal l,m))
  (Q14d G p8 p2 p3 m)
def Qn8 (G:Gt)(k0:V → V → V → V → V → M → R)(p10 p2 p3 p8 p11 p9 p5:V)(m:M):R:=
  bp (pur (aNilCheck p10) m) fun x32 m=>
  bp (pur (aFieldAddr 4 x32) m) fun x33 m=>
  bp (pur (aLoad false 1 x33 m) m) fun x34 m=>
  bp (pur (bin .neq true true .int x34 (.int .i64 0)) m) fun x35 m=>
  brb x35
  (bp (pur (aBuild Q1e [(0,1),(1,1),(2,1),(3,1),(4,1),(5,1),(6,1),(7,1),(8,1),(9,1),(10,1),(11,1)] []) m) fun x36 m=>
  bp (pur (aNilCheck p10) m) fun x37 m=>
  bp (pur (aFieldAddr 2 x37) m) fun x38 m=>
  bp (pur (aLoad true 2 x38 m) m) fun x39 m=>
  bp (pur (aNilCheck p10) m) fun x40 m=>
  bp (pur (aFieldAddr 4 x40) m) fun x41 m=>
  bp (pur (aLoad false 1 x41 m) m) fun x42 m=>
  bp (unt (aStore 12 p2 x36 m)) fun _ m=>
  ckB (again (pur (aLoad true 2 x38 m) m) x39 && (again (pur (aLoad false 1 x41 m) m) x42 && true))
  (bp (unt (aStore 2 p3 x39 m)) fun _ m=>
  ckB (again (pur (aLoad false 1 x41 m) m) x42 && true)
  (ob (ob (aLoad true 12 p2 m) fun v=>ob (ob (aLoad true 2 p3 m) fun v=>ob (some [x42]) fun l=>some (v :: l)) fun l=>some (v :: l)) fun l=>some (resVal l,m))))
  (bp (pur (aNilCheck p8) m) fun x43 m=>
  bp (pur (aFieldAddr 16 x43) m) fun x44 m=>
  bp (pur (aLoad false 1 x44 m) m) fun x45 m=>
  brb x45
  (bp (pur (aBuild Q1e [(0,1),(1,1),(2,1),(3,1),(4,1),(5,1),(6,1),(7,1),(8,1),(9,1),(10,1),(11,1)] []) m) fun x46 m=>
  bp (pur (aLoad true 2 p11 m) m) fun x47 m=>
  bp (unt (aStore 12 p2 x46 m)) fun _ m=>
  ckB (again (pur (aLoad true 2 p11 m) m) x47 && true)
  (bp (unt (aStore 2 p3 x47 m)) fun _ m=>
  ob (ob (aLoad true 12 p2 m) fun v=>ob (ob (aLoad true 2 p3 m) fun v=>ob (some [(.int .i64 7)]) fun l=>some (v :: l)) fun l=>some (v :: l)) fun l=>some (resVal l,m)))
  (bp (pur (aNilCheck p8) m) fun x48 m=>
  bp (pur (aFieldAddr 17 x48) m) fun x49 m=>
  bp (pur (aLoad false 1 x49 m) m) fun x50 m=>
  brb x50
  (bp (pur (aBuild Q1e [(0,1),(1,1),(2,1),(3,1),(4,1),(5,1),(6,1),(7,1),(8,1),(9,1),(10,1),(11,1)] []) m) fun x51 m=>
  bp (pur (aLoad true 2 p11 m) m) fun x52 m=>
  bp (unt (aStore 12 p2 x51 m)) fun _ m=>
  ckB (again (pur (aLoad true 2 p11 m) m) x52 && true)
  (bp (unt (aStore 2 p3 x52 m)) fun _ m=>
  ob (ob (aLoad true 12 p2 m) fun v=>ob (ob (aLoad true 2 p3 m) fun v=>ob (some [(.int .i64 120)]) fun l=>some (v :: l)) fun l=>some (v :: l)) fun l=>some (resVal l,m)))
  (bp (pur (bin .add true true .int p9 (.int .i64 1)) m) fun x53 m=>
  k0 x53 p5 p8 p2 p3 m)))
def Qn9 (G:Gt)(k0:V → V → V → V → V → M → R)(p10 p2 p3 p8 p11 p9 p5:V)(m:M):R:=
  bp (G.tab Qwu [p10] m) fun x54 m=>
  brb x54
  (bp (G.tab Q4d [p10] m) fun x55 m=>
  bp (G.tab Q3o [p10,(.int .i64 130)] m) fun x56 m=>
  Qn8 G k0 p10 p2 p3 p8 p11 p9 p5 m)
  (Qn8 G k0 p10 p2 p3 p8 p11 p9 p5 m)
def Q10z (G:Gt)(k0:V → V → V → V → V → M → R)(p5 p9 p8 p10 p2 p3 p11:V)(m:M):R:=
  bp (pur (aIndexAddrSl 2 p5 p9) m) fun x57 m=>
  bp (pur (aFieldAddr 0 x57) m) fun x58 m=>
  bp (pur (aLoad false 1 x58 m) m) fun x59 m=>
  bp (pur (bin .eql true true .int x59 (.int .i64 0)) m) fun x60 m=>
  brb x60
  (bp (pur (aNilCheck p8) m) fun x61 m=>
  bp (pur (aFieldAddr 12 x61) m) fun x62 m=>
  bp (unt (aStore 1 x62 (.string ⟨#[]⟩) m)) fun _ m=>
  bp (G.tab Qmb [p8,p10] m) fun x63 m=>
  Qn9 G k0 p10 p2 p3 p8 p11 p9 p5 m)
  (bp (G.tab Qrx [p8,p10] m) fun x64 m=>
  Qn9 G k0 p10 p2 p3 p8 p11 p9 p5 m)
def Qev (G:Gt)(k0:V → V → V → V → V → M → R)(p68 p11 p2 p3 p5 p9 p8 p10:V)(m:M):R:=
  brb p68
  (bp (pur (aBuild Q1e [(0,1),(1,1),(2,1),(3,1),(4,1),(5,1),(6,1),(7,1),(8,1),(9,1),(10,1),(11,1)] []) m) fun x65 m=>
  bp (pur (aLoad true 2 p11 m) m) fun x66 m=>
  bp (unt (aStore 12 p2 x65 m)) fun _ m=>
  ckB (again (pur (aLoad true 2 p11 m) m) x66 && true)
  (bp (unt (aStore 2 p3 x66 m)) fun _ m=>
  ob (ob (aLoad true 12 p2 m) fun v=>ob (ob (aLoad true 2 p3 m) fun v=>ob (some [(.int .i64 70)]) fun l=>some (v :: l)) fun l=>some (v :: l)) fun l=>some (resVal l,m)))
  (Q10z G k0 p5 p9 p8 p10 p2 p3 p11 m)
def Q110 (G:Gt)(k0:V → V → V → V → V → M → R)(p5 p9 p8 p11 p2 p3 p10:V)(m:M):R:=
  bp (pur (aIndexAddrSl 2 p5 p9) m) fun x67 m=>
  bp (pur (aFieldAddr 0 x67) m) fun x68 m=>
  bp (pur (aLoad false 1 x68 m) m) fun x69 m=>
  bp (pur (bin .gtr true true .int x69 (.int .i64 1)) m) fun x70 m=>
  brb x70
  (Qev G k0 (.bool true) p11 p2 p3 p5 p9 p8 p10 m)
  (bp (pur (aIndexAddrSl 2 p5 p9) m) fun x71 m=>
  bp (pur (aFieldAddr 0 x71) m) fun x72 m=>
  bp (pur (aLoad false 1 x72 m) m) fun x73 m=>
  bp (pur (bin .eql true true .int x73 (.int .i64 1)) m) fun x74 m=>
  brb x74
  (bp (pur (aNilCheck p8) m) fun x75 m=>
  bp (pur (aFieldAddr 12 x75) m) fun x76 m=>
  bp (pur (aLoad false 1 x76 m) m) fun x77 m=>
  bp (pur (bin .eql true true .str x77 (.string ⟨#[]⟩)) m) fun x78 m=>
  Qev G k0 x78 p11 p2 p3 p5 p9 p8 p10 m)
  (Qev G k0 (.bool false) p11 p2 p3 p5 p9 p8 p10 m))
def Q111 (G:Gt)(k0:V → V → V → V → V → M → R)(p5 p9 p8 p2 p3 p10:V)(m:M):R:=
  bp (pur (aIndexAddrSl 2 p5 p9) m) fun x79 m=>
  bp (pur (aFieldAddr 1 x79) m) fun x80 m=>
  bp (pur (aLoad false 1 x80 m) m) fun x81 m=>
  bp (pur (aIndexAddrSl 3 x81 (.int .i64 0)) m) fun x82 m=>
  bp (pur (aFieldAddr 1 x82) m) fun x83 m=>
  bp (pur (aLoad true 2 x83 m) m) fun x84 m=>
  bp (some (aNew Qrn Q87 m)) fun x85 m=>
  bp (unt (aStore 2 x85 x84 m)) fun _ m=>
  Q110 G k0 p5 p9 p8 x85 p2 p3 p10 m
def Q112 (G:Gt)(k0:V → V → V → V → V → M → R)(p5 p9 p8 p2 p3:V)(m:M):R:=
  bp (pur (aIndexAddrSl 2 p5 p9) m) fun x86 m=>
  bp (pur (aFieldAddr 1 x86) m) fun x87 m=>
  bp (pur (aLoad false 1 x87 m) m) fun x88 m=>
  bp (pur (aBuild Q1r5 [(0,1),(1,1),(2,2),(4,1)] [(0,x88)]) m) fun x89 m=>
  bp (some (aNew Q1qy (Value.cells x89).toList m)) fun x90 m=>
  Q111 G k0 p5 p9 p8 p2 p3 x90 m
def Q1v (G:Gt):Nat → V → V → V → V → V → M → R
 | 0,_,_,_,_,_,_=>none
 | i + 1,p9,p5,p8,p2,p3,m=>
  bp (pur (lenK 1 p5 m) m) fun x91 m=>
  bp (pur (bin .lss false true .int p9 x91) m) fun x92 m=>
  brb x92
  (Q112 G (Q1v G i) p5 p9 p8 p2 p3 m)
  (Q14e G p8 p2 p3 m)
def Q14f (G:Gt)(p9 p5 p8 p2 p3:V)(m:M):R:=
  Q1v G G.rds p9 p5 p8 p2 p3 m
def Q14g (G:Gt)(p5 p8 p2 p3:V)(m:M):R:=
  Q14f G (.int .i64 0) p5 p8 p2 p3 m
def Q14h (G:Gt)(p5 p2 p3:V)(m:M):R:=
  bp (pur (aBuild Q1e [(0,1),(1,1),(2,1),(3,1),(4,1),(5,1),(6,1),(7,1),(8,1),(9,1),(10,1),(11,1)] [(1,(.int .u8 1))]) m) fun x93 m=>
  bp (pur (aBuild Q1o4 [(0,12),(12,1),(13,1),(14,1),(15,1),(16,1),(17,1)] [(0,x93)]) m) fun x94 m=>
  bp (some (aNew Q1nx (Value.cells x94).toList m)) fun x95 m=>
  Q14g G p5 x95 p2 p3 m
def Q14i (G:Gt)(p7 p6 p2 p3 p5:V)(m:M):R:=
  bp (pur (bin .neq true true .int p7 (.int .i64 0)) m) fun x96 m=>
  brb x96
  (bp (pur (aBuild Q1e [(0,1),(1,1),(2,1),(3,1),(4,1),(5,1),(6,1),(7,1),(8,1),(9,1),(10,1),(11,1)] []) m) fun x97 m=>
  bp (pur (aLoad true 2 p6 m) m) fun x98 m=>
  bp (unt (aStore 12 p2 x97 m)) fun _ m=>
  ckB (again (pur (aLoad true 2 p6 m) m) x98 && true)
  (bp (unt (aStore 2 p3 x98 m)) fun _ m=>
  ob (ob (aLoad true 12 p2 m) fun v=>ob (ob (aLoad true 2 p3 m) fun v=>ob (some [p7]) fun l=>some (v :: l)) fun l=>some (v :: l)) fun l=>some (resVal l,m)))
  (Q14h G p5 p2 p3 m)
def Q14j (G:Gt)(p0 p2 p3:V)(m:M):R:=
  bp (G.tab Q190 [p0] m) fun x99 m=>
  bp (pur (aExtract x99 0) m) fun x100 m=>
  bp (pur (aExtract x99 1) m) fun x101 m=>
  bp (pur (aExtract x99 2) m) fun x102 m=>
  bp (some (aNew Qrn Q87 m)) fun x103 m=>
  bp (unt (aStore 2 x103 x101 m)) fun _ m=>
  Q14i G x102 x103 p2 p3 x100 m
def Qt7 (G:Gt)(p0:V)(m:M):R:=
  bp (some (aNew Qx Q1e m)) fun x104 m=>
  bp (some (aNew Qrn Q87 m)) fun x105 m=>
  Q14j G p0 x104 x105 m
theorem Q1ob (G:Gt)(a0:V)(m:M):ef G Tryz.f25 [a0] m = Qt7 G a0 m:=
  evFn_of (r:=fun r m=>Qt7 G (r 0) m) rfl rfl (tr (seqQ (f:=fun r m=>Q14j G (r 0) (r 2) (r 3) m) (tr (seqQ (f:=fun r m=>Q14i G (r 7) (r 6) (r 2) (r 3) (r 5) m) (tr (seqQ (f:=fun r m=>Q14h G (r 5) (r 2) (r 3) m) (tr (seqQ (f:=fun r m=>Q14g G (r 5) (r 8) (r 2) (r 3) m) (tr (tr (seqQ (f:=fun r m=>Q14e G (r 8) (r 2) (r 3) m) (tr (seqQ (f:=fun r m=>Q14d G (r 8) (r 2) (r 3) m) (tr (tr (seqQ (f:=fun r m=>Q14b G (r 8) (r 2) (r 3) m) (fun r m=>by kernel_rfl)) (seqQ (f:=fun r m=>Q14c G (r 12) (r 8) (r 2) (r 3) m) (tr (blockQ (loopQ (fun i r m=>Qon G i (r 12) (r 8) (r 2) (r 3) m) (fun _ _=>rfl) (fun i0=>fun r m=>by kernel_rfl))) (fun r m=>by kernel_rfl)))) (fun r m=>by kernel_rfl))) (fun r m=>by kernel_rfl))) (seqQ (f:=fun r m=>Q14f G (r 9) (r 5) (r 8) (r 2) (r 3) m) (tr (blockQ (loopQ (fun i r m=>Q1v G i (r 9) (r 5) (r 8) (r 2) (r 3) m) (fun _ _=>rfl) (fun i0=>tr (seqQ (f:=fun r m=>Q112 G (Q1v G i0) (r 5) (r 9) (r 8) (r 2) (r 3) m) (tr (tr seqD (blockQ (seqQ (f:=fun r m=>Q111 G (Q1v G i0) (r 5) (r 9) (r 8) (r 2) (r 3) (r 10) m) (tr (seqQ (f:=fun r m=>Q110 G (Q1v G i0) (r 5) (r 9) (r 8) (r 11) (r 2) (r 3) (r 10) m) (tr (tr (seqQ (f:=fun r m=>Q10z G (Q1v G i0) (r 5) (r 9) (r 8) (r 10) (r 2) (r 3) (r 11) m) (tr (seqQ (f:=fun r m=>Qn9 G (Q1v G i0) (r 10) (r 2) (r 3) (r 8) (r 11) (r 9) (r 5) m) (tr (seqQ (f:=fun r m=>Qn8 G (Q1v G i0) (r 10) (r 2) (r 3) (r 8) (r 11) (r 9) (r 5) m) (fun r m=>by kernel_rfl)) (fun r m=>by kernel_rfl))) (fun r m=>by kernel_rfl))) (seqQ (f:=fun r m=>Qev G (Q1v G i0) (r 68) (r 11) (r 2) (r 3) (r 5) (r 9) (r 8) (r 10) m) (fun r m=>by kernel_rfl))) (fun r m=>by kernel_rfl))) (fun r m=>by kernel_rfl))))) (fun r m=>by kernel_rfl))) (fun r m=>by kernel_rfl)))) (fun r m=>by kernel_rfl)))) (fun r m=>by kernel_rfl))) (fun r m=>by kernel_rfl))) (fun r m=>by kernel_rfl))) (fun r m=>by kernel_rfl))) (fun r m=>by kernel_rfl)) m
def Q1n7:En:=⟨Qst,Tryz.f25,Tryz.func25,by kernel_rfl,arg1 Qt7,okarg1 Q1ob⟩
def Q1l6 (G:Gt)(p11 p0:V)(m:M):R:=
  brb p11
  (some (.tuple ⟨[(.pointer none),(.int .i64 1)]⟩,m))
  (bp (G.tab Q1zr [(.int .i64 208),p0] m) fun x0 m=>
  bp (pur (aExtract x0 0) m) fun x1 m=>
  bp (pur (aExtract x0 1) m) fun x2 m=>
  bp (pur (bin .neq true true .int x2 (.int .i64 0)) m) fun x3 m=>
  brb x3
  (some (.tuple ⟨[(.pointer none),x2]⟩,m))
  (bp (some (aMakeMap m)) fun x4 m=>
  bp (pur (aBuild Q248 [(0,1),(1,1)] [(0,x1),(1,x4)]) m) fun x5 m=>
  bp (some (aNew Q23z (Value.cells x5).toList m)) fun x6 m=>
  some (.tuple ⟨[x6,(.int .i64 0)]⟩,m)))
def Q1vq (G:Gt)(p0:V)(m:M):R:=
  bp (pur (bin .lss true true .int p0 (.int .i64 0)) m) fun x7 m=>
  brb x7
  (Q1l6 G (.bool true) p0 m)
  (bp (pur (bin .gtr true true .int p0 (.int .i64 4194304)) m) fun x8 m=>
  Q1l6 G x8 p0 m)
def Q1ts (G:Gt)(p0:V)(m:M):R:=
  Q1vq G p0 m
theorem Q26v (G:Gt)(a0:V)(m:M):ef G Tryz.f26 [a0] m = Q1ts G a0 m:=
  evFn_of (r:=fun r m=>Q1ts G (r 0) m) rfl rfl (tr (seqQ (f:=fun r m=>Q1vq G (r 0) m) (tr (tr seqD (seqQ (f:=fun r m=>Q1l6 G (r 11) (r 0) m) (fun r m=>by kernel_rfl))) (fun r m=>by kernel_rfl))) (fun r m=>by kernel_rfl)) m
def Q26c:En:=⟨Q1zq,Tryz.f26,Tryz.func26,by kernel_rfl,arg1 Q1ts,okarg1 Q26v⟩
end
end Go.Ab.Sh

set_option linter.unusedVariables false
set_option maxRecDepth 100000
namespace Go.Ab.Sh
open Go Go.Ab Go.Proofs
noncomputable section
def Q1q0 (G:Gt)(p7:V)(m:M):R:=
  some (.tuple ⟨[p7,(.int .i64 0)]⟩,m)
def Q1f9 (G:Gt):Nat → V → V → V → V → V → M → R
 | 0,_,_,_,_,_,_=>none
 | i + 1,p52,p51,p50,p7,p6,m=>
  bp (pur (bin .lss false true .int p52 p51) m) fun x0 m=>
  brb x0
  (bp (pur (aIndexAddrSl 2 p50 p52) m) fun x1 m=>
  bp (pur (aLoad true 2 x1 m) m) fun x2 m=>
  bp (some (aNew Q7 Qo m)) fun x3 m=>
  bp (unt (aStore 2 x3 x2 m)) fun _ m=>
  bp (pur (aNilCheck p7) m) fun x4 m=>
  bp (pur (aFieldAddr 3 x4) m) fun x5 m=>
  bp (pur (aLoad false 1 x5 m) m) fun x6 m=>
  bp (pur (aLoad true 2 x3 m) m) fun x7 m=>
  bp (pur (aLoad true 2 x3 m) m) fun x8 m=>
  bp (G.tab Q12h [p6,x8] m) fun x9 m=>
  ckB (again (pur (aLoad false 1 x5 m) m) x6 && (again (pur (aLoad true 2 x3 m) m) x7 && true))
  (bp (unt (aMapUpdate (.struct [(0,1,false,.int),(1,1,false,.int)]) x6 x7 x9 m)) fun _ m=>
  bp (pur (aNilCheck p6) m) fun x10 m=>
  bp (pur (aFieldAddr 4 x10) m) fun x11 m=>
  bp (pur (aLoad false 1 x11 m) m) fun x12 m=>
  bp (pur (bin .neq true true .int x12 (.int .i64 0)) m) fun x13 m=>
  brb x13
  (some (.tuple ⟨[(.pointer none),(.int .i64 3)]⟩,m))
  (bp (pur (bin .add true true .int p52 (.int .i64 1)) m) fun x14 m=>
  (Q1f9 G i) x14 p51 p50 p7 p6 m)))
  (Q1q0 G p7 m)
def Q1q1 (G:Gt)(p52 p51 p50 p7 p6:V)(m:M):R:=
  Q1f9 G G.rds p52 p51 p50 p7 p6 m
def Q1q2 (G:Gt)(p7 p6:V)(m:M):R:=
  bp (pur (aNilCheck p7) m) fun x15 m=>
  bp (pur (aFieldAddr 2 x15) m) fun x16 m=>
  bp (pur (aLoad false 1 x16 m) m) fun x17 m=>
  bp (pur (lenK 1 x17 m) m) fun x18 m=>
  Q1q1 G (.int .i64 0) x18 x17 p7 p6 m
def Q1q3 (G:Gt)(p0 p6 p1:V)(m:M):R:=
  bp (pur (aNilCheck p6) m) fun x19 m=>
  bp (pur (aFieldAddr 3 x19) m) fun x20 m=>
  bp (pur (aLoad false 1 x20 m) m) fun x21 m=>
  bp (some (aMakeMap m)) fun x22 m=>
  bp (G.tab Q1dk [p1] m) fun x23 m=>
  ckB (again (pur (aLoad false 1 x20 m) m) x21 && true)
  (bp (pur (aBuild Q1y9 [(0,1),(1,1),(2,1),(3,1)] [(0,p0),(1,x21),(2,x23),(3,x22)]) m) fun x24 m=>
  bp (some (aNew Q1xv (Value.cells x24).toList m)) fun x25 m=>
  Q1q2 G x25 p6 m)
def Q1q4 (G:Gt)(p6 p0 p1:V)(m:M):R:=
  bp (pur (aNilCheck p6) m) fun x26 m=>
  bp (pur (aFieldAddr 4 x26) m) fun x27 m=>
  bp (pur (aLoad false 1 x27 m) m) fun x28 m=>
  bp (pur (bin .neq true true .int x28 (.int .i64 0)) m) fun x29 m=>
  brb x29
  (some (.tuple ⟨[(.pointer none),(.int .i64 3)]⟩,m))
  (Q1q3 G p0 p6 p1 m)
def Q1q5 (G:Gt)(p6 p0 p1:V)(m:M):R:=
  bp (G.tab Q1fv [p0] m) fun x30 m=>
  bp (pur (aExtract x30 0) m) fun x31 m=>
  bp (pur (aExtract x30 1) m) fun x32 m=>
  bp (G.tab Qb [p6,x31,x32] m) fun x33 m=>
  bp (pur (aNilCheck p6) m) fun x34 m=>
  bp (pur (aFieldAddr 3 x34) m) fun x35 m=>
  bp (unt (aStore 1 x35 x33 m)) fun _ m=>
  Q1q4 G p6 p0 p1 m
def Q1q6 (G:Gt)(p0 p1:V)(m:M):R:=
  bp (G.tab Q15g [p1] m) fun x36 m=>
  bp (G.tab Qsf [x36] m) fun x37 m=>
  bp (pur (aBuild Q1hj [(0,1),(1,1),(2,1),(3,1),(4,1)] [(0,p0),(1,p1),(2,x37)]) m) fun x38 m=>
  bp (some (aNew Q1hk (Value.cells x38).toList m)) fun x39 m=>
  Q1q5 G x39 p0 p1 m
def Q1fa (G:Gt)(p15 p0 p1:V)(m:M):R:=
  brb p15
  (some (.tuple ⟨[(.pointer none),(.int .i64 2)]⟩,m))
  (Q1q6 G p0 p1 m)
def Q1q7 (G:Gt)(p0 p1:V)(m:M):R:=
  bp (pur (binP m .eql true true .ptr p0 (.pointer none)) m) fun x40 m=>
  brb x40
  (Q1fa G (.bool true) p0 p1 m)
  (bp (pur (binP m .eql true true .ptr p1 (.pointer none)) m) fun x41 m=>
  Q1fa G x41 p0 p1 m)
def Q1l7 (G:Gt)(p0 p1:V)(m:M):R:=
  Q1q7 G p0 p1 m
theorem Q24a (G:Gt)(a0 a1:V)(m:M):ef G Tryz.f27 [a0,a1] m = Q1l7 G a0 a1 m:=
  evFn_of (r:=fun r m=>Q1l7 G (r 0) (r 1) m) rfl rfl (tr (seqQ (f:=fun r m=>Q1q7 G (r 0) (r 1) m) (tr (tr (seqQ (f:=fun r m=>Q1q6 G (r 0) (r 1) m) (tr (seqQ (f:=fun r m=>Q1q5 G (r 6) (r 0) (r 1) m) (tr (seqQ (f:=fun r m=>Q1q4 G (r 6) (r 0) (r 1) m) (tr (seqQ (f:=fun r m=>Q1q3 G (r 0) (r 6) (r 1) m) (tr (seqQ (f:=fun r m=>Q1q2 G (r 7) (r 6) m) (tr (tr (seqQ (f:=fun r m=>Q1q0 G (r 7) m) (fun r m=>by kernel_rfl)) (seqQ (f:=fun r m=>Q1q1 G (r 52) (r 51) (r 50) (r 7) (r 6) m) (tr (blockQ (loopQ (fun i r m=>Q1f9 G i (r 52) (r 51) (r 50) (r 7) (r 6) m) (fun _ _=>rfl) (fun i0=>fun r m=>by kernel_rfl))) (fun r m=>by kernel_rfl)))) (fun r m=>by kernel_rfl))) (fun r m=>by kernel_rfl))) (fun r m=>by kernel_rfl))) (fun r m=>by kernel_rfl))) (fun r m=>by kernel_rfl))) (seqQ (f:=fun r m=>Q1fa G (r 15) (r 0) (r 1) m) (fun r m=>by kernel_rfl))) (fun r m=>by kernel_rfl))) (fun r m=>by kernel_rfl)) m
def Q23k:En:=⟨Q1vd,Tryz.f27,Tryz.func27,by kernel_rfl,arg2 Q1l7,okarg2 Q24a⟩
def Q1dz (G:Gt)(p13:V)(m:M):R:=
  bp (G.tab Qto [p13,(.func (.func Q1dd) #[] #[])] m) fun x0 m=>
  some (.tuple ⟨[p13,(.int .i64 0),(.int .i64 0)]⟩,m)
def Q1bd (G:Gt)(k0:V → V → V → V → V → V → V → V → M → R)(p16 p14 p13 p15 p49 p48 p47 p9 p10 p11 p12:V)(m:M):R:=
  brb p16
  (some (.tuple ⟨[(.slice none 0 0),p14,(.int .i64 121)]⟩,m))
  (bp (pur (aLoad true 12 p15 m) m) fun x1 m=>
  bp (G.tab Q1sb [x1] m) fun x2 m=>
  bp (aBuildSlice Qx Q1e 12 1 [(0,x2)] m) fun x3 m=>
  bp (apS Qx 12 264 p13 x3 m) fun x4 m=>
  bp (pur (bin .add true true .int p49 (.int .i64 1)) m) fun x5 m=>
  k0 x5 p48 p47 p9 p10 p11 p12 x4 m)
def Qvs (G:Gt)(k1:V → V → V → V → V → V → V → V → V → V → V → V → V → V → M → R)(p111 p110 p109 p12 p16 p14 p13 p15 p49 p48 p47 p9 p10 p11:V)(m:M):R:=
  bp (pur (bin .add true true .int p111 (.int .i64 1)) m) fun x6 m=>
  k1 x6 p110 p109 p12 p16 p14 p13 p15 p49 p48 p47 p9 p10 p11 m
def Q1be (G:Gt)(k1:V → V → V → V → V → V → V → V → V → V → V → V → V → V → M → R)(p109 p111 p12 p16 p110 p14 p13 p15 p49 p48 p47 p9 p10 p11:V)(m:M):R:=
  bp (pur (aIndexAddrSl 6 p109 p111) m) fun x7 m=>
  bp (pur (aLoad true 6 x7 m) m) fun x8 m=>
  bp (some (aNew Qy0 Q163 m)) fun x9 m=>
  bp (unt (aStore 6 x9 x8 m)) fun _ m=>
  bp (pur (aFieldAddr 2 x9) m) fun x10 m=>
  bp (pur (aLoad false 1 x10 m) m) fun x11 m=>
  bp (pur (aLookup .int (.int .i64 0) false p12 x11 m) m) fun x12 m=>
  bp (pur (bin .add true true .int x12 (.int .i64 1)) m) fun x13 m=>
  bp (unt (aMapUpdate .int p12 x11 x13 m)) fun _ m=>
  brb p16
  (Qvs G k1 p111 p110 p109 p12 (.bool true) p14 p13 p15 p49 p48 p47 p9 p10 p11 m)
  (bp (pur (aFieldAddr 2 x9) m) fun x14 m=>
  bp (pur (aLoad false 1 x14 m) m) fun x15 m=>
  bp (pur (aLookup .int (.int .i64 0) false p12 x15 m) m) fun x16 m=>
  bp (pur (bin .gtr true true .int x16 (.int .i64 1)) m) fun x17 m=>
  Qvs G k1 p111 p110 p109 p12 x17 p14 p13 p15 p49 p48 p47 p9 p10 p11 m)
def Q1bf (G:Gt)(k1:V → V → V → V → V → V → V → V → V → V → V → V → V → V → M → R)(k0:V → V → V → V → V → V → V → V → M → R)(p112 p109 p111 p12 p16 p110 p14 p13 p15 p49 p48 p47 p9 p10 p11:V)(m:M):R:=
  brb p112
  (Q1be G k1 p109 p111 p12 p16 p110 p14 p13 p15 p49 p48 p47 p9 p10 p11 m)
  (Q1bd G k0 p16 p14 p13 p15 p49 p48 p47 p9 p10 p11 p12 m)
def Q9y (G:Gt)(k0:V → V → V → V → V → V → V → V → M → R):Nat → V → V → V → V → V → V → V → V → V → V → V → V → V → V → M → R
 | 0,_,_,_,_,_,_,_,_,_,_,_,_,_,_,_=>none
 | i + 1,p111,p110,p109,p12,p16,p14,p13,p15,p49,p48,p47,p9,p10,p11,m=>
  bp (pur (bin .lss false true .int p111 p110) m) fun x18 m=>
  Q1bf G (Q9y G k0 i) k0 x18 p109 p111 p12 p16 p110 p14 p13 p15 p49 p48 p47 p9 p10 p11 m
def Q1bg (G:Gt)(k0:V → V → V → V → V → V → V → V → M → R)(p111 p110 p109 p12 p16 p14 p13 p15 p49 p48 p47 p9 p10 p11:V)(m:M):R:=
  Q9y G k0 G.rds p111 p110 p109 p12 p16 p14 p13 p15 p49 p48 p47 p9 p10 p11 m
def Q1bh (G:Gt)(k0:V → V → V → V → V → V → V → V → M → R)(p15 p12 p16 p14 p13 p49 p48 p47 p9 p10 p11:V)(m:M):R:=
  bp (pur (aFieldAddr 11 p15) m) fun x19 m=>
  bp (pur (aLoad false 1 x19 m) m) fun x20 m=>
  bp (pur (lenK 1 x20 m) m) fun x21 m=>
  Q1bg G k0 (.int .i64 0) x21 x20 p12 p16 p14 p13 p15 p49 p48 p47 p9 p10 p11 m
def Qvt (G:Gt)(k1:V → V → V → V → V → V → V → V → V → V → V → V → V → V → M → R)(p90 p89 p88 p11 p16 p15 p12 p14 p13 p49 p48 p47 p9 p10:V)(m:M):R:=
  bp (pur (bin .add true true .int p90 (.int .i64 1)) m) fun x22 m=>
  k1 x22 p89 p88 p11 p16 p15 p12 p14 p13 p49 p48 p47 p9 p10 m
def Q1bi (G:Gt)(k1:V → V → V → V → V → V → V → V → V → V → V → V → V → V → M → R)(p88 p90 p11 p16 p89 p15 p12 p14 p13 p49 p48 p47 p9 p10:V)(m:M):R:=
  bp (pur (aIndexAddrSl 3 p88 p90) m) fun x23 m=>
  bp (pur (aLoad true 3 x23 m) m) fun x24 m=>
  bp (some (aNew Qzq Q197 m)) fun x25 m=>
  bp (unt (aStore 3 x25 x24 m)) fun _ m=>
  bp (pur (aFieldAddr 1 x25) m) fun x26 m=>
  bp (pur (aLoad false 1 x26 m) m) fun x27 m=>
  bp (pur (aLookup .int (.int .i64 0) false p11 x27 m) m) fun x28 m=>
  bp (pur (bin .add true true .int x28 (.int .i64 1)) m) fun x29 m=>
  bp (unt (aMapUpdate .int p11 x27 x29 m)) fun _ m=>
  brb p16
  (Qvt G k1 p90 p89 p88 p11 (.bool true) p15 p12 p14 p13 p49 p48 p47 p9 p10 m)
  (bp (pur (aFieldAddr 1 x25) m) fun x30 m=>
  bp (pur (aLoad false 1 x30 m) m) fun x31 m=>
  bp (pur (aLookup .int (.int .i64 0) false p11 x31 m) m) fun x32 m=>
  bp (pur (bin .gtr true true .int x32 (.int .i64 1)) m) fun x33 m=>
  Qvt G k1 p90 p89 p88 p11 x33 p15 p12 p14 p13 p49 p48 p47 p9 p10 m)
def Q1bj (G:Gt)(k1:V → V → V → V → V → V → V → V → V → V → V → V → V → V → M → R)(k0:V → V → V → V → V → V → V → V → M → R)(p91 p88 p90 p11 p16 p89 p15 p12 p14 p13 p49 p48 p47 p9 p10:V)(m:M):R:=
  brb p91
  (Q1bi G k1 p88 p90 p11 p16 p89 p15 p12 p14 p13 p49 p48 p47 p9 p10 m)
  (Q1bh G k0 p15 p12 p16 p14 p13 p49 p48 p47 p9 p10 p11 m)
def Q9z (G:Gt)(k0:V → V → V → V → V → V → V → V → M → R):Nat → V → V → V → V → V → V → V → V → V → V → V → V → V → V → M → R
 | 0,_,_,_,_,_,_,_,_,_,_,_,_,_,_,_=>none
 | i + 1,p90,p89,p88,p11,p16,p15,p12,p14,p13,p49,p48,p47,p9,p10,m=>
  bp (pur (bin .lss false true .int p90 p89) m) fun x34 m=>
  Q1bj G (Q9z G k0 i) k0 x34 p88 p90 p11 p16 p89 p15 p12 p14 p13 p49 p48 p47 p9 p10 m
def Q1bk (G:Gt)(k0:V → V → V → V → V → V → V → V → M → R)(p90 p89 p88 p11 p16 p15 p12 p14 p13 p49 p48 p47 p9 p10:V)(m:M):R:=
  Q9z G k0 G.rds p90 p89 p88 p11 p16 p15 p12 p14 p13 p49 p48 p47 p9 p10 m
def Q1bl (G:Gt)(k0:V → V → V → V → V → V → V → V → M → R)(p15 p11 p16 p12 p14 p13 p49 p48 p47 p9 p10:V)(m:M):R:=
  bp (pur (aFieldAddr 10 p15) m) fun x35 m=>
  bp (pur (aLoad false 1 x35 m) m) fun x36 m=>
  bp (pur (lenK 1 x36 m) m) fun x37 m=>
  Q1bk G k0 (.int .i64 0) x37 x36 p11 p16 p15 p12 p14 p13 p49 p48 p47 p9 p10 m
def Qm3 (G:Gt)(k1:V → V → V → V → V → V → V → V → V → V → V → V → V → V → M → R)(p67 p66 p65 p10 p16 p15 p11 p12 p14 p13 p49 p48 p47 p9:V)(m:M):R:=
  bp (pur (bin .add true true .int p67 (.int .i64 1)) m) fun x38 m=>
  k1 x38 p66 p65 p10 p16 p15 p11 p12 p14 p13 p49 p48 p47 p9 m
def Q1bm (G:Gt)(k1:V → V → V → V → V → V → V → V → V → V → V → V → V → V → M → R)(p65 p67 p10 p16 p66 p15 p11 p12 p14 p13 p49 p48 p47 p9:V)(m:M):R:=
  bp (pur (aIndexAddrSl 11 p65 p67) m) fun x39 m=>
  bp (pur (aLoad true 11 x39 m) m) fun x40 m=>
  bp (some (aNew Q1d Q47 m)) fun x41 m=>
  bp (unt (aStore 11 x41 x40 m)) fun _ m=>
  bp (pur (aLoad true 11 x41 m) m) fun x42 m=>
  bp (G.tab Q1on [x42] m) fun x43 m=>
  brb x43
  (bp (pur (aFieldAddr 2 x41) m) fun x44 m=>
  bp (pur (aLoad false 1 x44 m) m) fun x45 m=>
  bp (pur (aLookup .int (.int .i64 0) false p10 x45 m) m) fun x46 m=>
  bp (pur (bin .add true true .int x46 (.int .i64 1)) m) fun x47 m=>
  bp (unt (aMapUpdate .int p10 x45 x47 m)) fun _ m=>
  brb p16
  (Qm3 G k1 p67 p66 p65 p10 (.bool true) p15 p11 p12 p14 p13 p49 p48 p47 p9 m)
  (bp (pur (aFieldAddr 2 x41) m) fun x48 m=>
  bp (pur (aLoad false 1 x48 m) m) fun x49 m=>
  bp (pur (aLookup .int (.int .i64 0) false p10 x49 m) m) fun x50 m=>
  bp (pur (bin .gtr true true .int x50 (.int .i64 1)) m) fun x51 m=>
  Qm3 G k1 p67 p66 p65 p10 x51 p15 p11 p12 p14 p13 p49 p48 p47 p9 m))
  (Qm3 G k1 p67 p66 p65 p10 p16 p15 p11 p12 p14 p13 p49 p48 p47 p9 m)
def Q1bn (G:Gt)(k1:V → V → V → V → V → V → V → V → V → V → V → V → V → V → M → R)(k0:V → V → V → V → V → V → V → V → M → R)(p68 p65 p67 p10 p16 p66 p15 p11 p12 p14 p13 p49 p48 p47 p9:V)(m:M):R:=
  brb p68
  (Q1bm G k1 p65 p67 p10 p16 p66 p15 p11 p12 p14 p13 p49 p48 p47 p9 m)
  (Q1bl G k0 p15 p11 p16 p12 p14 p13 p49 p48 p47 p9 p10 m)
def Qa0 (G:Gt)(k0:V → V → V → V → V → V → V → V → M → R):Nat → V → V → V → V → V → V → V → V → V → V → V → V → V → V → M → R
 | 0,_,_,_,_,_,_,_,_,_,_,_,_,_,_,_=>none
 | i + 1,p67,p66,p65,p10,p16,p15,p11,p12,p14,p13,p49,p48,p47,p9,m=>
  bp (pur (bin .lss false true .int p67 p66) m) fun x52 m=>
  Q1bn G (Qa0 G k0 i) k0 x52 p65 p67 p10 p16 p66 p15 p11 p12 p14 p13 p49 p48 p47 p9 m
def Q1bo (G:Gt)(k0:V → V → V → V → V → V → V → V → M → R)(p67 p66 p65 p10 p16 p15 p11 p12 p14 p13 p49 p48 p47 p9:V)(m:M):R:=
  Qa0 G k0 G.rds p67 p66 p65 p10 p16 p15 p11 p12 p14 p13 p49 p48 p47 p9 m
def Q1bp (G:Gt)(k0:V → V → V → V → V → V → V → V → M → R)(p15 p10 p16 p11 p12 p14 p13 p49 p48 p47 p9:V)(m:M):R:=
  bp (pur (aFieldAddr 3 p15) m) fun x53 m=>
  bp (pur (aLoad false 1 x53 m) m) fun x54 m=>
  bp (pur (lenK 1 x54 m) m) fun x55 m=>
  Q1bo G k0 (.int .i64 0) x55 x54 p10 p16 p15 p11 p12 p14 p13 p49 p48 p47 p9 m
def Q1bq (G:Gt)(k0:V → V → V → V → V → V → V → V → M → R)(p9 p15 p10 p11 p12 p14 p13 p49 p48 p47:V)(m:M):R:=
  bp (pur (aFieldAddr 0 p15) m) fun x56 m=>
  bp (pur (aLoad false 1 x56 m) m) fun x57 m=>
  bp (pur (aLookup .str (.int .i64 0) false p9 x57 m) m) fun x58 m=>
  bp (pur (bin .gtr true true .int x58 (.int .i64 1)) m) fun x59 m=>
  Q1bp G k0 p15 p10 x59 p11 p12 p14 p13 p49 p48 p47 p9 m
def Q1br (G:Gt)(k0:V → V → V → V → V → V → V → V → M → R)(p9 p15 p10 p11 p12 p14 p13 p49 p48 p47:V)(m:M):R:=
  bp (pur (aFieldAddr 0 p15) m) fun x60 m=>
  bp (pur (aLoad false 1 x60 m) m) fun x61 m=>
  bp (pur (aLookup .str (.int .i64 0) false p9 x61 m) m) fun x62 m=>
  bp (pur (bin .add true true .int x62 (.int .i64 1)) m) fun x63 m=>
  bp (unt (aMapUpdate .str p9 x61 x63 m)) fun _ m=>
  Q1bq G k0 p9 p15 p10 p11 p12 p14 p13 p49 p48 p47 m
def Q1e0 (G:Gt)(k0:V → V → V → V → V → V → V → V → M → R)(p49 p47 p9 p10 p11 p12 p13 p48:V)(m:M):R:=
  bp (pur (aIndexAddrSl 12 p47 p49) m) fun x64 m=>
  bp (pur (aLoad true 12 x64 m) m) fun x65 m=>
  bp (some (aNew Qx Q1e m)) fun x66 m=>
  bp (unt (aStore 12 x66 x65 m)) fun _ m=>
  Q1br G k0 p9 x66 p10 p11 p12 p49 p13 p49 p48 p47 m
def Q1e1 (G:Gt)(k0:V → V → V → V → V → V → V → V → M → R)(p50 p49 p47 p9 p10 p11 p12 p13 p48:V)(m:M):R:=
  brb p50
  (Q1e0 G k0 p49 p47 p9 p10 p11 p12 p13 p48 m)
  (Q1dz G p13 m)
def Q1 (G:Gt):Nat → V → V → V → V → V → V → V → V → M → R
 | 0,_,_,_,_,_,_,_,_,_=>none
 | i + 1,p49,p48,p47,p9,p10,p11,p12,p13,m=>
  bp (pur (bin .lss false true .int p49 p48) m) fun x67 m=>
  Q1e1 G (Q1 G i) x67 p49 p47 p9 p10 p11 p12 p13 p48 m
def Q1e2 (G:Gt)(p49 p48 p47 p9 p10 p11 p12 p13:V)(m:M):R:=
  Q1 G G.rds p49 p48 p47 p9 p10 p11 p12 p13 m
def Q1e3 (G:Gt)(p0 p9 p10 p11 p12 p13:V)(m:M):R:=
  bp (pur (lenK 1 p0 m) m) fun x68 m=>
  Q1e2 G (.int .i64 0) x68 p0 p9 p10 p11 p12 p13 m
def Q1e4 (G:Gt)(p0 p9 p10 p11 p12:V)(m:M):R:=
  Q1e3 G p0 p9 p10 p11 p12 (.slice none 0 0) m
def Q1e5 (G:Gt)(p0:V)(m:M):R:=
  bp (some (aMakeMap m)) fun x69 m=>
  bp (some (aMakeMap m)) fun x70 m=>
  bp (some (aMakeMap m)) fun x71 m=>
  bp (some (aMakeMap m)) fun x72 m=>
  Q1e4 G p0 x69 x70 x71 x72 m
def Qvu (G:Gt):Nat → V → V → V → V → M → R
 | 0,_,_,_,_,_=>none
 | i + 1,p28,p27,p26,p0,m=>
  bp (pur (bin .lss false true .int p28 p27) m) fun x73 m=>
  brb x73
  (bp (pur (aIndexAddrSl 12 p26 p28) m) fun x74 m=>
  bp (pur (aLoad true 12 x74 m) m) fun x75 m=>
  bp (some (aNew Qx Q1e m)) fun x76 m=>
  bp (unt (aStore 12 x76 x75 m)) fun _ m=>
  bp (pur (aLoad true 12 x76 m) m) fun x77 m=>
  bp (G.tab Q1om [x77] m) fun x78 m=>
  bp (pur (aExtract x78 0) m) fun x79 m=>
  bp (pur (aExtract x78 1) m) fun x80 m=>
  bp (pur (bin .neq true true .int x80 (.int .i64 0)) m) fun x81 m=>
  brb x81
  (some (.tuple ⟨[(.slice none 0 0),p28,x80]⟩,m))
  (bp (pur (bin .add true true .int p28 (.int .i64 1)) m) fun x82 m=>
  (Qvu G i) x82 p27 p26 p0 m))
  (Q1e5 G p0 m)
def Q1bs (G:Gt)(p28 p27 p26 p0:V)(m:M):R:=
  Qvu G G.rds p28 p27 p26 p0 m
def Q1e6 (G:Gt)(p0:V)(m:M):R:=
  bp (pur (lenK 1 p0 m) m) fun x83 m=>
  Q1bs G (.int .i64 0) x83 p0 p0 m
def Q1e7 (G:Gt)(p0:V)(m:M):R:=
  bp (pur (lenK 1 p0 m) m) fun x84 m=>
  bp (pur (bin .gtr true true .int x84 (.int .i64 32)) m) fun x85 m=>
  brb x85
  (some (.tuple ⟨[(.slice none 0 0),(.int .i64 32),(.int .i64 121)]⟩,m))
  (Q1e6 G p0 m)
def Q15t (G:Gt)(p0:V)(m:M):R:=
  Q1e7 G p0 m
theorem Q1wv (G:Gt)(a0:V)(m:M):ef G Tryz.f28 [a0] m = Q15t G a0 m:=
  evFn_of (r:=fun r m=>Q15t G (r 0) m) rfl rfl (tr (seqQ (f:=fun r m=>Q1e7 G (r 0) m) (tr (seqQ (f:=fun r m=>Q1e6 G (r 0) m) (tr (tr (seqQ (f:=fun r m=>Q1e5 G (r 0) m) (tr (seqQ (f:=fun r m=>Q1e4 G (r 0) (r 9) (r 10) (r 11) (r 12) m) (tr (seqQ (f:=fun r m=>Q1e3 G (r 0) (r 9) (r 10) (r 11) (r 12) (r 13) m) (tr (tr (seqQ (f:=fun r m=>Q1dz G (r 13) m) (fun r m=>by kernel_rfl)) (seqQ (f:=fun r m=>Q1e2 G (r 49) (r 48) (r 47) (r 9) (r 10) (r 11) (r 12) (r 13) m) (tr (blockQ (loopQ (fun i r m=>Q1 G i (r 49) (r 48) (r 47) (r 9) (r 10) (r 11) (r 12) (r 13) m) (fun _ _=>rfl) (fun i0=>tr (seqQ (f:=fun r m=>Q1e1 G (Q1 G i0) (r 50) (r 49) (r 47) (r 9) (r 10) (r 11) (r 12) (r 13) (r 48) m) (tr (seqQ (f:=fun r m=>Q1e0 G (Q1 G i0) (r 49) (r 47) (r 9) (r 10) (r 11) (r 12) (r 13) (r 48) m) (tr (tr seqD (blockQ (seqQ (f:=fun r m=>Q1br G (Q1 G i0) (r 9) (r 15) (r 10) (r 11) (r 12) (r 14) (r 13) (r 49) (r 48) (r 47) m) (tr (seqQ (f:=fun r m=>Q1bq G (Q1 G i0) (r 9) (r 15) (r 10) (r 11) (r 12) (r 14) (r 13) (r 49) (r 48) (r 47) m) (tr (seqQ (f:=fun r m=>Q1bp G (Q1 G i0) (r 15) (r 10) (r 16) (r 11) (r 12) (r 14) (r 13) (r 49) (r 48) (r 47) (r 9) m) (tr (tr (seqQ (f:=fun r m=>Q1bl G (Q1 G i0) (r 15) (r 11) (r 16) (r 12) (r 14) (r 13) (r 49) (r 48) (r 47) (r 9) (r 10) m) (tr (tr (seqQ (f:=fun r m=>Q1bh G (Q1 G i0) (r 15) (r 12) (r 16) (r 14) (r 13) (r 49) (r 48) (r 47) (r 9) (r 10) (r 11) m) (tr (tr (seqQ (f:=fun r m=>Q1bd G (Q1 G i0) (r 16) (r 14) (r 13) (r 15) (r 49) (r 48) (r 47) (r 9) (r 10) (r 11) (r 12) m) (fun r m=>by kernel_rfl)) (seqQ (f:=fun r m=>Q1bg G (Q1 G i0) (r 111) (r 110) (r 109) (r 12) (r 16) (r 14) (r 13) (r 15) (r 49) (r 48) (r 47) (r 9) (r 10) (r 11) m) (tr (blockQ (loopQ (fun i r m=>Q9y G (Q1 G i0) i (r 111) (r 110) (r 109) (r 12) (r 16) (r 14) (r 13) (r 15) (r 49) (r 48) (r 47) (r 9) (r 10) (r 11) m) (fun _ _=>rfl) (fun i1=>tr (seqQ (f:=fun r m=>Q1bf G (Q9y G (Q1 G i0) i1) (Q1 G i0) (r 112) (r 109) (r 111) (r 12) (r 16) (r 110) (r 14) (r 13) (r 15) (r 49) (r 48) (r 47) (r 9) (r 10) (r 11) m) (tr (seqQ (f:=fun r m=>Q1be G (Q9y G (Q1 G i0) i1) (r 109) (r 111) (r 12) (r 16) (r 110) (r 14) (r 13) (r 15) (r 49) (r 48) (r 47) (r 9) (r 10) (r 11) m) (tr (seqQ (f:=fun r m=>Qvs G (Q9y G (Q1 G i0) i1) (r 111) (r 110) (r 109) (r 12) (r 16) (r 14) (r 13) (r 15) (r 49) (r 48) (r 47) (r 9) (r 10) (r 11) m) (fun r m=>by kernel_rfl)) (fun r m=>by kernel_rfl))) (fun r m=>by kernel_rfl))) (fun r m=>by kernel_rfl)))) (fun r m=>by kernel_rfl)))) (fun r m=>by kernel_rfl))) (seqQ (f:=fun r m=>Q1bk G (Q1 G i0) (r 90) (r 89) (r 88) (r 11) (r 16) (r 15) (r 12) (r 14) (r 13) (r 49) (r 48) (r 47) (r 9) (r 10) m) (tr (blockQ (loopQ (fun i r m=>Q9z G (Q1 G i0) i (r 90) (r 89) (r 88) (r 11) (r 16) (r 15) (r 12) (r 14) (r 13) (r 49) (r 48) (r 47) (r 9) (r 10) m) (fun _ _=>rfl) (fun i1=>tr (seqQ (f:=fun r m=>Q1bj G (Q9z G (Q1 G i0) i1) (Q1 G i0) (r 91) (r 88) (r 90) (r 11) (r 16) (r 89) (r 15) (r 12) (r 14) (r 13) (r 49) (r 48) (r 47) (r 9) (r 10) m) (tr (seqQ (f:=fun r m=>Q1bi G (Q9z G (Q1 G i0) i1) (r 88) (r 90) (r 11) (r 16) (r 89) (r 15) (r 12) (r 14) (r 13) (r 49) (r 48) (r 47) (r 9) (r 10) m) (tr (seqQ (f:=fun r m=>Qvt G (Q9z G (Q1 G i0) i1) (r 90) (r 89) (r 88) (r 11) (r 16) (r 15) (r 12) (r 14) (r 13) (r 49) (r 48) (r 47) (r 9) (r 10) m) (fun r m=>by kernel_rfl)) (fun r m=>by kernel_rfl))) (fun r m=>by kernel_rfl))) (fun r m=>by kernel_rfl)))) (fun r m=>by kernel_rfl)))) (fun r m=>by kernel_rfl))) (seqQ (f:=fun r m=>Q1bo G (Q1 G i0) (r 67) (r 66) (r 65) (r 10) (r 16) (r 15) (r 11) (r 12) (r 14) (r 13) (r 49) (r 48) (r 47) (r 9) m) (tr (blockQ (loopQ (fun i r m=>Qa0 G (Q1 G i0) i (r 67) (r 66) (r 65) (r 10) (r 16) (r 15) (r 11) (r 12) (r 14) (r 13) (r 49) (r 48) (r 47) (r 9) m) (fun _ _=>rfl) (fun i1=>tr (seqQ (f:=fun r m=>Q1bn G (Qa0 G (Q1 G i0) i1) (Q1 G i0) (r 68) (r 65) (r 67) (r 10) (r 16) (r 66) (r 15) (r 11) (r 12) (r 14) (r 13) (r 49) (r 48) (r 47) (r 9) m) (tr (seqQ (f:=fun r m=>Q1bm G (Qa0 G (Q1 G i0) i1) (r 65) (r 67) (r 10) (r 16) (r 66) (r 15) (r 11) (r 12) (r 14) (r 13) (r 49) (r 48) (r 47) (r 9) m) (tr (seqQ (f:=fun r m=>Qm3 G (Qa0 G (Q1 G i0) i1) (r 67) (r 66) (r 65) (r 10) (r 16) (r 15) (r 11) (r 12) (r 14) (r 13) (r 49) (r 48) (r 47) (r 9) m) (fun r m=>by kernel_rfl)) (fun r m=>by kernel_rfl))) (fun r m=>by kernel_rfl))) (fun r m=>by kernel_rfl)))) (fun r m=>by kernel_rfl)))) (fun r m=>by kernel_rfl))) (fun r m=>by kernel_rfl))) (fun r m=>by kernel_rfl))))) (fun r m=>by kernel_rfl))) (fun r m=>by kernel_rfl))) (fun r m=>by kernel_rfl)))) (fun r m=>by kernel_rfl)))) (fun r m=>by kernel_rfl))) (fun r m=>by kernel_rfl))) (fun r m=>by kernel_rfl))) (seqQ (f:=fun r m=>Q1bs G (r 28) (r 27) (r 26) (r 0) m) (tr (blockQ (loopQ (fun i r m=>Qvu G i (r 28) (r 27) (r 26) (r 0) m) (fun _ _=>rfl) (fun i0=>fun r m=>by kernel_rfl))) (fun r m=>by kernel_rfl)))) (fun r m=>by kernel_rfl))) (fun r m=>by kernel_rfl))) (fun r m=>by kernel_rfl)) m
def Q1vx:En:=⟨Q156,Tryz.f28,Tryz.func28,by kernel_rfl,arg1 Q15t,okarg1 Q1wv⟩
end
end Go.Ab.Sh
