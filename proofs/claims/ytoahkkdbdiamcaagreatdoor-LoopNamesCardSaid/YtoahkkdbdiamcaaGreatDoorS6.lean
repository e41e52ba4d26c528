/-
  Functions of the program as plain definitions. No conditions.
-/
import Derived.Test.YtoahkkdbdiamcaaGreatDoorAb5
import Derived.Test.YtoahkkdbdiamcaaGreatDoorZ
import Derived.KernelRfl
import Derived.Test.YtoahkkdbdiamcaaGreatDoorProg
set_option linter.unusedVariables false
set_option maxRecDepth 100000
namespace Go.Ab.Sh
open Go Go.Ab Go.Proofs
noncomputable section
def Q1eh (G:Gt)(k0:V → V → V → V → V → V → M → R)(p1 p10 p44 p43 p42 p4 p0:V)(m:M):R:=
  bp (pur (aLoad true 4 p10 m) m) fun x0 m=>
  bp (evCall G.tab p1 [x0] m) fun x1 m=>
  bp (pur (bin .add true true .int p44 (.int .i64 1)) m) fun x2 m=>
  k0 x2 p43 p42 p4 p0 p1 m
def Q1oc (G:Gt)(k0:V → V → V → V → V → V → M → R)(p10 p1 p44 p43 p42 p4 p0:V)(m:M):R:=
  bp (pur (aFieldAddr 2 p10) m) fun x3 m=>
  bp (pur (aLoad false 1 x3 m) m) fun x4 m=>
  brb x4
  (bp (pur (aFieldAddr 3 p10) m) fun x5 m=>
  bp (unt (aStore 1 x5 (.slice none 0 0) m)) fun _ m=>
  Q1eh G k0 p1 p10 p44 p43 p42 p4 p0 m)
  (Q1eh G k0 p1 p10 p44 p43 p42 p4 p0 m)
def Q1od (G:Gt)(k0:V → V → V → V → V → V → M → R)(p10 p1 p44 p43 p42 p4 p0:V)(m:M):R:=
  bp (pur (aFieldAddr 3 p10) m) fun x6 m=>
  bp (pur (aLoad false 1 x6 m) m) fun x7 m=>
  bp (G.tab Q1hi [x7] m) fun x8 m=>
  bp (pur (aFieldAddr 3 p10) m) fun x9 m=>
  bp (unt (aStore 1 x9 x8 m)) fun _ m=>
  Q1oc G k0 p10 p1 p44 p43 p42 p4 p0 m
def Q1ei (G:Gt)(k1:V → V → V → V → V → V → V → V → V → V → M → R)(p10 p0 p12 p54 p53 p52 p1 p44 p43 p42 p4:V)(m:M):R:=
  bp (pur (aFieldAddr 3 p10) m) fun x10 m=>
  bp (pur (aLoad false 1 x10 m) m) fun x11 m=>
  bp (pur (aLoad true 9 p12 m) m) fun x12 m=>
  bp (G.tab Q1zn [p0,x12] m) fun x13 m=>
  ckB (again (pur (aLoad false 1 x10 m) m) x11 && true)
  (bp (apS Qeh 2 24 x11 x13 m) fun x14 m=>
  bp (pur (aFieldAddr 3 p10) m) fun x15 m=>
  bp (unt (aStore 1 x15 x14 m)) fun _ m=>
  bp (pur (bin .add true true .int p54 (.int .i64 1)) m) fun x16 m=>
  k1 x16 p53 p52 p10 p0 p1 p44 p43 p42 p4 m)
def Q1oe (G:Gt)(k1:V → V → V → V → V → V → V → V → V → V → M → R)(p10 p12 p0 p54 p53 p52 p1 p44 p43 p42 p4:V)(m:M):R:=
  bp (pur (aFieldAddr 2 p10) m) fun x17 m=>
  bp (pur (aLoad false 1 x17 m) m) fun x18 m=>
  brb x18
  (bp (pur (aFieldAddr 2 p10) m) fun x19 m=>
  bp (unt (aStore 1 x19 (.bool true) m)) fun _ m=>
  Q1ei G k1 p10 p0 p12 p54 p53 p52 p1 p44 p43 p42 p4 m)
  (bp (pur (aFieldAddr 8 p12) m) fun x20 m=>
  bp (pur (aLoad false 1 x20 m) m) fun x21 m=>
  bp (pur (aFieldAddr 2 p10) m) fun x22 m=>
  bp (unt (aStore 1 x22 x21 m)) fun _ m=>
  Q1ei G k1 p10 p0 p12 p54 p53 p52 p1 p44 p43 p42 p4 m)
def Q1of (G:Gt)(k1:V → V → V → V → V → V → V → V → V → V → M → R)(p52 p54 p10 p0 p53 p1 p44 p43 p42 p4:V)(m:M):R:=
  bp (pur (aIndexAddrSl 9 p52 p54) m) fun x23 m=>
  bp (pur (aLoad true 9 x23 m) m) fun x24 m=>
  bp (some (aNew Q45 Q55 m)) fun x25 m=>
  bp (unt (aStore 9 x25 x24 m)) fun _ m=>
  Q1oe G k1 p10 x25 p0 p54 p53 p52 p1 p44 p43 p42 p4 m
def Q1og (G:Gt)(k1:V → V → V → V → V → V → V → V → V → V → M → R)(k0:V → V → V → V → V → V → M → R)(p55 p52 p54 p10 p0 p53 p1 p44 p43 p42 p4:V)(m:M):R:=
  brb p55
  (Q1of G k1 p52 p54 p10 p0 p53 p1 p44 p43 p42 p4 m)
  (Q1od G k0 p10 p1 p44 p43 p42 p4 p0 m)
def Qie (G:Gt)(k0:V → V → V → V → V → V → M → R):Nat → V → V → V → V → V → V → V → V → V → V → M → R
 | 0,_,_,_,_,_,_,_,_,_,_,_=>none
 | i + 1,p54,p53,p52,p10,p0,p1,p44,p43,p42,p4,m=>
  bp (pur (bin .lss false true .int p54 p53) m) fun x26 m=>
  Q1og G (Qie G k0 i) k0 x26 p52 p54 p10 p0 p53 p1 p44 p43 p42 p4 m
def Q1oh (G:Gt)(k0:V → V → V → V → V → V → M → R)(p54 p53 p52 p10 p0 p1 p44 p43 p42 p4:V)(m:M):R:=
  Qie G k0 G.rds p54 p53 p52 p10 p0 p1 p44 p43 p42 p4 m
def Q1rw (G:Gt)(k0:V → V → V → V → V → V → M → R)(p4 p9 p10 p0 p1 p44 p43 p42:V)(m:M):R:=
  bp (pur (aLoad true 2 p9 m) m) fun x27 m=>
  bp (pur (aLookup (.struct [(0,1,false,.int),(1,1,false,.int)]) (.slice none 0 0) false p4 x27 m) m) fun x28 m=>
  bp (pur (lenK 1 x28 m) m) fun x29 m=>
  Q1oh G k0 (.int .i64 0) x29 x28 p10 p0 p1 p44 p43 p42 p4 m
def Q1rx (G:Gt)(k0:V → V → V → V → V → V → M → R)(p9 p4 p0 p1 p44 p43 p42:V)(m:M):R:=
  bp (pur (aLoad true 2 p9 m) m) fun x30 m=>
  bp (pur (aBuild Qaf [(0,2),(2,1),(3,1)] [(0,x30)]) m) fun x31 m=>
  bp (some (aNew Q3f Qaf m)) fun x32 m=>
  bp (unt (aStore 4 x32 x31 m)) fun _ m=>
  Q1rw G k0 p4 p9 x32 p0 p1 p44 p43 p42 m
def Q1ry (G:Gt)(k0:V → V → V → V → V → V → M → R)(p42 p44 p4 p0 p1 p43:V)(m:M):R:=
  bp (pur (aIndexAddrSl 2 p42 p44) m) fun x33 m=>
  bp (pur (aLoad true 2 x33 m) m) fun x34 m=>
  bp (some (aNew Q1x Q2d m)) fun x35 m=>
  bp (unt (aStore 2 x35 x34 m)) fun _ m=>
  Q1rx G k0 x35 p4 p0 p1 p44 p43 p42 m
def Q1rz (G:Gt)(k0:V → V → V → V → V → V → M → R)(p45 p42 p44 p4 p0 p1 p43:V)(m:M):R:=
  brb p45
  (Q1ry G k0 p42 p44 p4 p0 p1 p43 m)
  (some (.tuple ⟨[]⟩,m))
def Q2l (G:Gt):Nat → V → V → V → V → V → V → M → R
 | 0,_,_,_,_,_,_,_=>none
 | i + 1,p44,p43,p42,p4,p0,p1,m=>
  bp (pur (bin .lss false true .int p44 p43) m) fun x36 m=>
  Q1rz G (Q2l G i) x36 p42 p44 p4 p0 p1 p43 m
def Q1s0 (G:Gt)(p44 p43 p42 p4 p0 p1:V)(m:M):R:=
  Q2l G G.rds p44 p43 p42 p4 p0 p1 m
def Q1s1 (G:Gt)(p5 p4 p0 p1:V)(m:M):R:=
  bp (G.tab Qd7 [p5] m) fun x37 m=>
  bp (pur (lenK 1 x37 m) m) fun x38 m=>
  Q1s0 G (.int .i64 0) x38 x37 p4 p0 p1 m
def Q1s2 (G:Gt)(p5 p4 p0 p1:V)(m:M):R:=
  bp (G.tab Qcg [p5,(.func (.func Q1xi) #[] #[])] m) fun x39 m=>
  Q1s1 G p5 p4 p0 p1 m
def Q1ej (G:Gt)(k0:V → V → V → V → V → V → V → M → R)(p16 p15 p14 p4 p5 p0 p1:V)(m:M):R:=
  bp (pur (bin .add true true .int p16 (.int .i64 1)) m) fun x40 m=>
  k0 x40 p15 p14 p4 p5 p0 p1 m
def Q1oi (G:Gt)(k0:V → V → V → V → V → V → V → M → R)(p14 p16 p4 p5 p15 p0 p1:V)(m:M):R:=
  bp (pur (aIndexAddrSl 9 p14 p16) m) fun x41 m=>
  bp (pur (aLoad true 9 x41 m) m) fun x42 m=>
  bp (some (aNew Q45 Q55 m)) fun x43 m=>
  bp (unt (aStore 9 x43 x42 m)) fun _ m=>
  bp (pur (aFieldAddr 0 x43) m) fun x44 m=>
  bp (pur (aLoad true 2 x44 m) m) fun x45 m=>
  bp (G.tab Qxg [x45] m) fun x46 m=>
  bp (pur (bin .eql true true .int x46 (.int .i64 0)) m) fun x47 m=>
  brb x47
  (bp (pur (aFieldAddr 0 x43) m) fun x48 m=>
  bp (pur (aLoad true 2 x48 m) m) fun x49 m=>
  bp (pur (aLoad true 9 x43 m) m) fun x50 m=>
  bp (aBuildSlice Q45 Q55 9 1 [(0,x50)] m) fun x51 m=>
  bp (aMapEntry (.struct [(0,1,false,.int),(1,1,false,.int)]) (.slice none 0 0) p4 x49 m) fun x52 m=>
  bp (pur (aExtract x52 0) m) fun x53 m=>
  bp (apS Q45 9 72 x53 x51 m) fun x54 m=>
  bp (pur (aExtract x52 1) m) fun x55 m=>
  bp (unt (aEntryStore p4 x55 x54 m)) fun _ m=>
  bp (pur (aFieldAddr 0 x43) m) fun x56 m=>
  bp (pur (aLoad true 2 x56 m) m) fun x57 m=>
  bp (aBuildSlice Q1x Q2d 2 1 [(0,x57)] m) fun x58 m=>
  bp (apS Q1x 2 16 p5 x58 m) fun x59 m=>
  Q1ej G k0 p16 p15 p14 p4 x59 p0 p1 m)
  (Q1ej G k0 p16 p15 p14 p4 p5 p0 p1 m)
def Q1oj (G:Gt)(k0:V → V → V → V → V → V → V → M → R)(p17 p14 p16 p4 p5 p15 p0 p1:V)(m:M):R:=
  brb p17
  (Q1oi G k0 p14 p16 p4 p5 p15 p0 p1 m)
  (Q1s2 G p5 p4 p0 p1 m)
def Qna (G:Gt):Nat → V → V → V → V → V → V → V → M → R
 | 0,_,_,_,_,_,_,_,_=>none
 | i + 1,p16,p15,p14,p4,p5,p0,p1,m=>
  bp (pur (bin .lss false true .int p16 p15) m) fun x60 m=>
  Q1oj G (Qna G i) x60 p14 p16 p4 p5 p15 p0 p1 m
def Q1ok (G:Gt)(p16 p15 p14 p4 p5 p0 p1:V)(m:M):R:=
  Qna G G.rds p16 p15 p14 p4 p5 p0 p1 m
def Q1s3 (G:Gt)(p0 p4 p5 p1:V)(m:M):R:=
  bp (pur (lenK 1 p0 m) m) fun x61 m=>
  Q1ok G (.int .i64 0) x61 p0 p4 p5 p0 p1 m
def Q1s4 (G:Gt)(p0 p4 p1:V)(m:M):R:=
  Q1s3 G p0 p4 (.slice none 0 0) p1 m
def Q1ng (G:Gt)(p0 p1:V)(m:M):R:=
  bp (some (aMakeMap m)) fun x62 m=>
  Q1s4 G p0 x62 p1 m
theorem Q254 (G:Gt)(a0 a1:V)(m:M):ef G Tryz.f71 [a0,a1] m = Q1ng G a0 a1 m:=
  evFn_of (r:=fun r m=>Q1ng G (r 0) (r 1) m) rfl rfl (tr (seqQ (f:=fun r m=>Q1s4 G (r 0) (r 4) (r 1) m) (tr (seqQ (f:=fun r m=>Q1s3 G (r 0) (r 4) (r 5) (r 1) m) (tr (tr (seqQ (f:=fun r m=>Q1s2 G (r 5) (r 4) (r 0) (r 1) m) (tr (seqQ (f:=fun r m=>Q1s1 G (r 5) (r 4) (r 0) (r 1) m) (tr (seqQ (f:=fun r m=>Q1s0 G (r 44) (r 43) (r 42) (r 4) (r 0) (r 1) m) (tr (blockQ (loopQ (fun i r m=>Q2l G i (r 44) (r 43) (r 42) (r 4) (r 0) (r 1) m) (fun _ _=>rfl) (fun i0=>tr (seqQ (f:=fun r m=>Q1rz G (Q2l G i0) (r 45) (r 42) (r 44) (r 4) (r 0) (r 1) (r 43) m) (tr (seqQ (f:=fun r m=>Q1ry G (Q2l G i0) (r 42) (r 44) (r 4) (r 0) (r 1) (r 43) m) (tr (tr seqD (blockQ (seqQ (f:=fun r m=>Q1rx G (Q2l G i0) (r 9) (r 4) (r 0) (r 1) (r 44) (r 43) (r 42) m) (tr (seqQ (f:=fun r m=>Q1rw G (Q2l G i0) (r 4) (r 9) (r 10) (r 0) (r 1) (r 44) (r 43) (r 42) m) (tr (tr (seqQ (f:=fun r m=>Q1od G (Q2l G i0) (r 10) (r 1) (r 44) (r 43) (r 42) (r 4) (r 0) m) (tr (seqQ (f:=fun r m=>Q1oc G (Q2l G i0) (r 10) (r 1) (r 44) (r 43) (r 42) (r 4) (r 0) m) (tr (seqQ (f:=fun r m=>Q1eh G (Q2l G i0) (r 1) (r 10) (r 44) (r 43) (r 42) (r 4) (r 0) m) (fun r m=>by kernel_rfl)) (fun r m=>by kernel_rfl))) (fun r m=>by kernel_rfl))) (seqQ (f:=fun r m=>Q1oh G (Q2l G i0) (r 54) (r 53) (r 52) (r 10) (r 0) (r 1) (r 44) (r 43) (r 42) (r 4) m) (tr (blockQ (loopQ (fun i r m=>Qie G (Q2l G i0) i (r 54) (r 53) (r 52) (r 10) (r 0) (r 1) (r 44) (r 43) (r 42) (r 4) m) (fun _ _=>rfl) (fun i1=>tr (seqQ (f:=fun r m=>Q1og G (Qie G (Q2l G i0) i1) (Q2l G i0) (r 55) (r 52) (r 54) (r 10) (r 0) (r 53) (r 1) (r 44) (r 43) (r 42) (r 4) m) (tr (seqQ (f:=fun r m=>Q1of G (Qie G (Q2l G i0) i1) (r 52) (r 54) (r 10) (r 0) (r 53) (r 1) (r 44) (r 43) (r 42) (r 4) m) (tr (tr seqD (blockQ (seqQ (f:=fun r m=>Q1oe G (Qie G (Q2l G i0) i1) (r 10) (r 12) (r 0) (r 54) (r 53) (r 52) (r 1) (r 44) (r 43) (r 42) (r 4) m) (tr (seqQ (f:=fun r m=>Q1ei G (Qie G (Q2l G i0) i1) (r 10) (r 0) (r 12) (r 54) (r 53) (r 52) (r 1) (r 44) (r 43) (r 42) (r 4) m) (fun r m=>by kernel_rfl)) (fun r m=>by kernel_rfl))))) (fun r m=>by kernel_rfl))) (fun r m=>by kernel_rfl))) (fun r m=>by kernel_rfl)))) (fun r m=>by kernel_rfl)))) (fun r m=>by kernel_rfl))) (fun r m=>by kernel_rfl))))) (fun r m=>by kernel_rfl))) (fun r m=>by kernel_rfl))) (fun r m=>by kernel_rfl)))) (fun r m=>by kernel_rfl))) (fun r m=>by kernel_rfl))) (fun r m=>by kernel_rfl))) (seqQ (f:=fun r m=>Q1ok G (r 16) (r 15) (r 14) (r 4) (r 5) (r 0) (r 1) m) (tr (blockQ (loopQ (fun i r m=>Qna G i (r 16) (r 15) (r 14) (r 4) (r 5) (r 0) (r 1) m) (fun _ _=>rfl) (fun i0=>tr (seqQ (f:=fun r m=>Q1oj G (Qna G i0) (r 17) (r 14) (r 16) (r 4) (r 5) (r 15) (r 0) (r 1) m) (tr (seqQ (f:=fun r m=>Q1oi G (Qna G i0) (r 14) (r 16) (r 4) (r 5) (r 15) (r 0) (r 1) m) (tr (seqQ (f:=fun r m=>Q1ej G (Qna G i0) (r 16) (r 15) (r 14) (r 4) (r 5) (r 0) (r 1) m) (fun r m=>by kernel_rfl)) (fun r m=>by kernel_rfl))) (fun r m=>by kernel_rfl))) (fun r m=>by kernel_rfl)))) (fun r m=>by kernel_rfl)))) (fun r m=>by kernel_rfl))) (fun r m=>by kernel_rfl))) (fun r m=>by kernel_rfl)) m
def Q24y:En:=⟨Q1xj,Tryz.f71,Tryz.func71,by kernel_rfl,arg2 Q1ng,okarg2 Q254⟩
def Q11d (G:Gt)(p10 p1 p2:V)(m:M):R:=
  brb p10
  (bp (pur (aLoad false 1 p1 m) m) fun x0 m=>
  bp (pur (aLoad true 4 p2 m) m) fun x1 m=>
  bp (aBuildSlice Q3f Qaf 4 1 [(0,x1)] m) fun x2 m=>
  bp (apS Q3f 4 48 x0 x2 m) fun x3 m=>
  bp (unt (aStore 1 p1 x3 m)) fun _ m=>
  some (.tuple ⟨[]⟩,m))
  (some (.tuple ⟨[]⟩,m))
def Q1fc (G:Gt)(p2 p1:V)(m:M):R:=
  bp (pur (aFieldAddr 2 p2) m) fun x4 m=>
  bp (pur (aLoad false 1 x4 m) m) fun x5 m=>
  brb x5
  (Q11d G (.bool true) p1 p2 m)
  (bp (pur (aFieldAddr 3 p2) m) fun x6 m=>
  bp (pur (aLoad false 1 x6 m) m) fun x7 m=>
  bp (pur (lenK 1 x7 m) m) fun x8 m=>
  bp (pur (bin .gtr true true .int x8 (.int .i64 0)) m) fun x9 m=>
  Q11d G x9 p1 p2 m)
def Q181 (G:Gt)(p0 p1:V)(m:M):R:=
  bp (some (aNew Q3f (Value.cells p0).toList m)) fun x10 m=>
  Q1fc G x10 p1 m
theorem Q1xk (G:Gt)(a0 a1:V)(m:M):ef G Tryz.f72 [a0,a1] m = Q181 G a0 a1 m:=
  evFn_of (r:=fun r m=>Q181 G (r 0) (r 1) m) rfl rfl (tr (seqQ (f:=fun r m=>Q1fc G (r 2) (r 1) m) (tr (seqQ (f:=fun r m=>Q11d G (r 10) (r 1) (r 2) m) (fun r m=>by kernel_rfl)) (fun r m=>by kernel_rfl))) (fun r m=>by kernel_rfl)) m
def Q1xe:En:=⟨Q1jh,Tryz.f72,Tryz.func72,by kernel_rfl,arg2 Q181,okarg2 Q1xk⟩
def Qs7 (G:Gt)(p0 p1:V)(m:M):R:=
  bp (some (aNew Q2r (Value.cells p0).toList m)) fun x0 m=>
  bp (pur (aLoad false 1 x0 m) m) fun x1 m=>
  bp (aBuildSlice Qcu [(.int .i64 0)] 1 1 [(0,p1)] m) fun x2 m=>
  bp (G.tab Q2z [x1,x2] m) fun x3 m=>
  bp (pur (bin .neq true true .int x3 (.int .i64 0)) m) fun x4 m=>
  brb x4
  (some (.tuple ⟨[(.slice none 0 0),x3]⟩,m))
  (bp (some (aNew Q1z3 [(.slice none 0 0)] m)) fun x5 m=>
  bp (pur (aLoad false 1 x0 m) m) fun x6 m=>
  bp (conv (.int .i32) p1 m) fun x7 m=>
  bp (G.tab Q1d7 [x6,x7,(.func (.func Q12b) ⟨[]⟩ ⟨[x5,x0]⟩)] m) fun x8 m=>
  bp (pur (aLoad false 1 x5 m) m) fun x9 m=>
  bp (G.tab Qxh [x9] m) fun x10 m=>
  bp (pur (aLoad false 1 x5 m) m) fun x11 m=>
  bp (G.tab Qre [x11] m) fun x12 m=>
  some (.tuple ⟨[x12,(.int .i64 0)]⟩,m))
theorem Q1nh (G:Gt)(a0 a1:V)(m:M):ef G Tryz.f74 [a0,a1] m = Qs7 G a0 a1 m:=
  evFn_of (r:=fun r m=>Qs7 G (r 0) (r 1) m) rfl rfl (fun r m=>by kernel_rfl) m
def Q1ne:En:=⟨Qs8,Tryz.f74,Tryz.func74,by kernel_rfl,arg2 Qs7,okarg2 Q1nh⟩
def Qje (G:Gt)(m:M):R:=
  some ((.int .i64 0),m)
def Q17 (G:Gt):Nat → V → V → V → V → M → R
 | 0,_,_,_,_,_=>none
 | i + 1,p11,p10,p9,p0,m=>
  bp (pur (bin .lss false true .int p11 p10) m) fun x0 m=>
  brb x0
  (bp (pur (aIndexAddrSl 1 p9 p11) m) fun x1 m=>
  bp (pur (aLoad false 1 x1 m) m) fun x2 m=>
  bp (pur (aNilCheck p0) m) fun x3 m=>
  bp (pur (aFieldAddr 5 x3) m) fun x4 m=>
  bp (pur (aLoad false 1 x4 m) m) fun x5 m=>
  bp (pur (aLookup .int (.bool false) false x5 x2 m) m) fun x6 m=>
  bp (pur (un .not x6) m) fun x7 m=>
  brb x7
  (some ((.int .i64 1),m))
  (bp (pur (bin .add true true .int p11 (.int .i64 1)) m) fun x8 m=>
  (Q17 G i) x8 p10 p9 p0 m))
  (Qje G m)
def Qjf (G:Gt)(p11 p10 p9 p0:V)(m:M):R:=
  Q17 G G.rds p11 p10 p9 p0 m
def Qjg (G:Gt)(p1 p0:V)(m:M):R:=
  bp (pur (lenK 1 p1 m) m) fun x9 m=>
  Qjf G (.int .i64 0) x9 p1 p0 m
def Qjh (G:Gt)(p0 p1:V)(m:M):R:=
  bp (pur (binP m .eql true true .ptr p0 (.pointer none)) m) fun x10 m=>
  brb x10
  (some ((.int .i64 2),m))
  (Qjg G p1 p0 m)
def Q30 (G:Gt)(p0 p1:V)(m:M):R:=
  Qjh G p0 p1 m
theorem Q1s5 (G:Gt)(a0 a1:V)(m:M):ef G Tryz.f75 [a0,a1] m = Q30 G a0 a1 m:=
  evFn_of (r:=fun r m=>Q30 G (r 0) (r 1) m) rfl rfl (tr (seqQ (f:=fun r m=>Qjh G (r 0) (r 1) m) (tr (seqQ (f:=fun r m=>Qjg G (r 1) (r 0) m) (tr (tr (seqQ (f:=fun r m=>Qje G m) (fun r m=>by kernel_rfl)) (seqQ (f:=fun r m=>Qjf G (r 11) (r 10) (r 9) (r 0) m) (tr (blockQ (loopQ (fun i r m=>Q17 G i (r 11) (r 10) (r 9) (r 0) m) (fun _ _=>rfl) (fun i0=>fun r m=>by kernel_rfl))) (fun r m=>by kernel_rfl)))) (fun r m=>by kernel_rfl))) (fun r m=>by kernel_rfl))) (fun r m=>by kernel_rfl)) m
def Qxb:En:=⟨Q2z,Tryz.f75,Tryz.func75,by kernel_rfl,arg2 Q30,okarg2 Q1s5⟩
def Qs9 (G:Gt)(p6:V)(m:M):R:=
  some (p6,m)
def Q182 (G:Gt)(p0 p5 p9:V)(m:M):R:=
  bp (pur (aLoad false 1 p5 m) m) fun x0 m=>
  bp (G.tab Q1d8 [p0,x0] m) fun x1 m=>
  brb x1
  (bp (G.tab Qc4 [p9,(.func (.func Q183) ⟨[]⟩ ⟨[p5]⟩)] m) fun x2 m=>
  bp (pur (un .not x2) m) fun x3 m=>
  Qs9 G x3 m)
  (Qs9 G (.bool false) m)
def Q184 (G:Gt)(p0 p1 p5:V)(m:M):R:=
  bp (G.tab Qs8 [p0,p1] m) fun x4 m=>
  bp (pur (aExtract x4 0) m) fun x5 m=>
  bp (pur (aExtract x4 1) m) fun x6 m=>
  Q182 G p0 p5 x5 m
def Qsa (G:Gt)(k0:V → V → V → V → V → V → M → R)(p28 p13 p12 p11 p5 p0 p1:V)(m:M):R:=
  brb p28
  (some ((.bool false),m))
  (bp (pur (bin .add true true .int p13 (.int .i64 1)) m) fun x7 m=>
  k0 x7 p12 p11 p5 p0 p1 m)
def Q185 (G:Gt)(k0:V → V → V → V → V → V → M → R)(p7 p8 p5 p13 p12 p11 p0 p1:V)(m:M):R:=
  bp (pur (bin .gtr true true .int p7 (.int .i64 0)) m) fun x8 m=>
  brb x8
  (bp (pur (aLoad false 1 p5 m) m) fun x9 m=>
  bp (pur (bin .sub true true .int p7 (.int .i64 1)) m) fun x10 m=>
  bp (pur (aIndexAddrSl 1 x9 x10) m) fun x11 m=>
  bp (pur (aLoad false 1 x11 m) m) fun x12 m=>
  bp (pur (bin .leq false true .int p8 x12) m) fun x13 m=>
  Qsa G k0 x13 p13 p12 p11 p5 p0 p1 m)
  (Qsa G k0 (.bool false) p13 p12 p11 p5 p0 p1 m)
def Q186 (G:Gt)(k0:V → V → V → V → V → V → M → R)(p13 p11 p5 p12 p0 p1:V)(m:M):R:=
  bp (pur (aIndexAddrSl 1 p11 p13) m) fun x14 m=>
  bp (pur (aLoad false 1 x14 m) m) fun x15 m=>
  Q185 G k0 p13 x15 p5 p13 p12 p11 p0 p1 m
def Q187 (G:Gt)(k0:V → V → V → V → V → V → M → R)(p14 p13 p11 p5 p12 p0 p1:V)(m:M):R:=
  brb p14
  (Q186 G k0 p13 p11 p5 p12 p0 p1 m)
  (Q184 G p0 p1 p5 m)
def Q5x (G:Gt):Nat → V → V → V → V → V → V → M → R
 | 0,_,_,_,_,_,_,_=>none
 | i + 1,p13,p12,p11,p5,p0,p1,m=>
  bp (pur (bin .lss false true .int p13 p12) m) fun x16 m=>
  Q187 G (Q5x G i) x16 p13 p11 p5 p12 p0 p1 m
def Q188 (G:Gt)(p13 p12 p11 p5 p0 p1:V)(m:M):R:=
  Q5x G G.rds p13 p12 p11 p5 p0 p1 m
def Q189 (G:Gt)(p5 p0 p1:V)(m:M):R:=
  bp (pur (aLoad false 1 p5 m) m) fun x17 m=>
  bp (pur (lenK 1 x17 m) m) fun x18 m=>
  Q188 G (.int .i64 0) x18 x17 p5 p0 p1 m
def Qxi (G:Gt)(p2 p0 p1:V)(m:M):R:=
  bp (some (aNew Q1z3 (Value.cells p2).toList m)) fun x19 m=>
  Q189 G x19 p0 p1 m
theorem Q1s6 (G:Gt)(a0 a1 a2:V)(m:M):ef G Tryz.f76 [a0,a1,a2] m = Qxi G a2 a0 a1 m:=
  evFn_of (r:=fun r m=>Qxi G (r 2) (r 0) (r 1) m) rfl rfl (tr (seqQ (f:=fun r m=>Q189 G (r 5) (r 0) (r 1) m) (tr (tr (seqQ (f:=fun r m=>Q184 G (r 0) (r 1) (r 5) m) (tr (seqQ (f:=fun r m=>Q182 G (r 0) (r 5) (r 9) m) (tr (seqQ (f:=fun r m=>Qs9 G (r 6) m) (fun r m=>by kernel_rfl)) (fun r m=>by kernel_rfl))) (fun r m=>by kernel_rfl))) (seqQ (f:=fun r m=>Q188 G (r 13) (r 12) (r 11) (r 5) (r 0) (r 1) m) (tr (blockQ (loopQ (fun i r m=>Q5x G i (r 13) (r 12) (r 11) (r 5) (r 0) (r 1) m) (fun _ _=>rfl) (fun i0=>tr (seqQ (f:=fun r m=>Q187 G (Q5x G i0) (r 14) (r 13) (r 11) (r 5) (r 12) (r 0) (r 1) m) (tr (seqQ (f:=fun r m=>Q186 G (Q5x G i0) (r 13) (r 11) (r 5) (r 12) (r 0) (r 1) m) (tr (tr seqD (blockQ (seqQ (f:=fun r m=>Q185 G (Q5x G i0) (r 7) (r 8) (r 5) (r 13) (r 12) (r 11) (r 0) (r 1) m) (tr (seqQ (f:=fun r m=>Qsa G (Q5x G i0) (r 28) (r 13) (r 12) (r 11) (r 5) (r 0) (r 1) m) (fun r m=>by kernel_rfl)) (fun r m=>by kernel_rfl))))) (fun r m=>by kernel_rfl))) (fun r m=>by kernel_rfl))) (fun r m=>by kernel_rfl)))) (fun r m=>by kernel_rfl)))) (fun r m=>by kernel_rfl))) (fun r m=>by kernel_rfl)) m
def Q1rr:En:=⟨Q1d9,Tryz.f76,Tryz.func76,by kernel_rfl,arg3 (fun G a0 a1 a2 m=>Qxi G a2 a0 a1 m),okarg3 Q1s6⟩
def Qsb (G:Gt)(p0 p1 p2:V)(m:M):R:=
  bp (pur (bin .lss true true .int p0 (.int .i32 2)) m) fun x0 m=>
  brb x0
  (bp (pur (aLoad false 1 p1 m) m) fun x1 m=>
  bp (pur (lenK 1 x1 m) m) fun x2 m=>
  some (x2,m))
  (bp (pur (aLoad false 1 p1 m) m) fun x3 m=>
  bp (pur (aLoad false 1 p2 m) m) fun x4 m=>
  bp (pur (aNilCheck x4) m) fun x5 m=>
  bp (pur (aFieldAddr 2 x5) m) fun x6 m=>
  bp (pur (aLoad false 1 x6 m) m) fun x7 m=>
  bp (pur (aIndexAddrSl 3 x7 p0) m) fun x8 m=>
  bp (pur (aFieldAddr 0 x8) m) fun x9 m=>
  bp (pur (aLoad false 1 x9 m) m) fun x10 m=>
  bp (conv (.int .i64) x10 m) fun x11 m=>
  bp (G.tab Qji [x3,x11] m) fun x12 m=>
  some (x12,m))
theorem Q1ni (G:Gt)(a0 a1 a2:V)(m:M):ef G Tryz.f77 [a0,a1,a2] m = Qsb G a0 a1 a2 m:=
  evFn_of (r:=fun r m=>Qsb G (r 0) (r 1) (r 2) m) rfl rfl (fun r m=>by kernel_rfl) m
def Q1na:En:=⟨Q18a,Tryz.f77,Tryz.func77,by kernel_rfl,arg3 Qsb,okarg3 Q1ni⟩
def Qrf (G:Gt)(m:M):R:=
  some ((.int .i64 (-1)),m)
def Qgf (G:Gt):Nat → V → V → V → V → M → R
 | 0,_,_,_,_,_=>none
 | i + 1,p8,p7,p1,p0,m=>
  bp (pur (bin .lss false true .int p8 p7) m) fun x0 m=>
  brb x0
  (bp (pur (aIndexAddrSl 1 p0 p8) m) fun x1 m=>
  bp (pur (aLoad false 1 x1 m) m) fun x2 m=>
  bp (pur (bin .eql false true .int p1 x2) m) fun x3 m=>
  brb x3
  (some (p8,m))
  (bp (pur (bin .add true true .int p8 (.int .i64 1)) m) fun x4 m=>
  (Qgf G i) x4 p7 p1 p0 m))
  (Qrf G m)
def Qrg (G:Gt)(p8 p7 p1 p0:V)(m:M):R:=
  Qgf G G.rds p8 p7 p1 p0 m
def Qrh (G:Gt)(p0 p1:V)(m:M):R:=
  bp (pur (lenK 1 p0 m) m) fun x5 m=>
  Qrg G (.int .i64 0) x5 p1 p0 m
def Qjj (G:Gt)(p0 p1:V)(m:M):R:=
  Qrh G p0 p1 m
theorem Q1gi (G:Gt)(a0 a1:V)(m:M):ef G Tryz.f78 [a0,a1] m = Qjj G a0 a1 m:=
  evFn_of (r:=fun r m=>Qjj G (r 0) (r 1) m) rfl rfl (tr (seqQ (f:=fun r m=>Qrh G (r 0) (r 1) m) (tr (tr (seqQ (f:=fun r m=>Qrf G m) (fun r m=>by kernel_rfl)) (seqQ (f:=fun r m=>Qrg G (r 8) (r 7) (r 1) (r 0) m) (tr (blockQ (loopQ (fun i r m=>Qgf G i (r 8) (r 7) (r 1) (r 0) m) (fun _ _=>rfl) (fun i0=>fun r m=>by kernel_rfl))) (fun r m=>by kernel_rfl)))) (fun r m=>by kernel_rfl))) (fun r m=>by kernel_rfl)) m
def Q1gh:En:=⟨Qji,Tryz.f78,Tryz.func78,by kernel_rfl,arg2 Qjj,okarg2 Q1gi⟩
end
end Go.Ab.Sh

set_option linter.unusedVariables false
set_option maxRecDepth 100000
namespace Go.Ab.Sh
open Go Go.Ab Go.Proofs
noncomputable section
def Q12c (G:Gt)(p1 p0 p9 p6:V)(m:M):R:=
  bp (pur (aLoad false 1 p1 m) m) fun x0 m=>
  bp (pur (aLoad true 2 p9 m) m) fun x1 m=>
  bp (unt (aMapUpdate .int x0 p0 x1 m)) fun _ m=>
  bp (pur (aLoad true 2 p9 m) m) fun x2 m=>
  bp (unt (aStore 2 p6 x2 m)) fun _ m=>
  ob (ob (aLoad true 2 p6 m) fun v=>ob (some []) fun l=>some (v :: l)) fun l=>some (resVal l,m)
def Qo4 (G:Gt):Nat → V → V → V → V → V → V → V → V → V → M → R
 | 0,_,_,_,_,_,_,_,_,_,_=>none
 | i + 1,p41,p40,p39,p3,p4,p0,p9,p1,p6,m=>
  bp (pur (bin .lss false true .int p41 p40) m) fun x3 m=>
  brb x3
  (bp (pur (aIndexAddrSl 1 p39 p41) m) fun x4 m=>
  bp (pur (aLoad false 1 x4 m) m) fun x5 m=>
  bp (pur (aLoad false 1 p3 m) m) fun x6 m=>
  bp (pur (aLoad false 1 p4 m) m) fun x7 m=>
  bp (pur (aLoad false 1 p4 m) m) fun x8 m=>
  bp (some (aNew Qg0 Q3g m)) fun x9 m=>
  bp (evCall G.tab x6 [x5] m) fun x10 m=>
  ckB (again (pur (aLoad false 1 p4 m) m) x7 && (again (pur (aLoad false 1 p4 m) m) x8 && true))
  (bp (evCall G.tab x7 [x5] m) fun x11 m=>
  ckB (again (pur (aLoad false 1 p4 m) m) x8 && true)
  (bp (evCall G.tab x8 [p0] m) fun x12 m=>
  bp (pur (bin .sub false true .int x11 x12) m) fun x13 m=>
  bp (pur (bin .sub true true .int x13 (.int .i64 1)) m) fun x14 m=>
  bp (G.tab Q1kj [x10,x14] m) fun x15 m=>
  bp (unt (aStore 2 x9 x15 m)) fun _ m=>
  bp (pur (aFieldAddr 1 p9) m) fun x16 m=>
  bp (pur (aLoad false 1 x16 m) m) fun x17 m=>
  bp (pur (aFieldAddr 1 x9) m) fun x18 m=>
  bp (pur (aLoad false 1 x18 m) m) fun x19 m=>
  bp (G.tab Q1fd [x17,x19,(.int .u64 0)] m) fun x20 m=>
  bp (pur (aExtract x20 0) m) fun x21 m=>
  bp (pur (aExtract x20 1) m) fun x22 m=>
  bp (pur (aFieldAddr 0 p9) m) fun x23 m=>
  bp (pur (aLoad false 1 x23 m) m) fun x24 m=>
  bp (pur (aFieldAddr 0 x9) m) fun x25 m=>
  bp (pur (aLoad false 1 x25 m) m) fun x26 m=>
  bp (pur (bin .add false true .int x24 x26) m) fun x27 m=>
  bp (pur (bin .add false true .int x27 x22) m) fun x28 m=>
  bp (pur (aBuild Q3g [(0,1),(1,1)] [(0,x28),(1,x21)]) m) fun x29 m=>
  bp (unt (aStore 2 p9 x29 m)) fun _ m=>
  bp (pur (bin .add true true .int p41 (.int .i64 1)) m) fun x30 m=>
  (Qo4 G i) x30 p40 p39 p3 p4 p0 p9 p1 p6 m)))
  (Q12c G p1 p0 p9 p6 m)
def Q12d (G:Gt)(p41 p40 p39 p3 p4 p0 p9 p1 p6:V)(m:M):R:=
  Qo4 G G.rds p41 p40 p39 p3 p4 p0 p9 p1 p6 m
def Q12e (G:Gt)(p2 p0 p3 p4 p9 p1 p6:V)(m:M):R:=
  bp (pur (aLoad false 1 p2 m) m) fun x31 m=>
  bp (pur (aNilCheck x31) m) fun x32 m=>
  bp (pur (aFieldAddr 2 x32) m) fun x33 m=>
  bp (pur (aLoad false 1 x33 m) m) fun x34 m=>
  bp (pur (aIndexAddrSl 3 x34 p0) m) fun x35 m=>
  bp (pur (aFieldAddr 1 x35) m) fun x36 m=>
  bp (pur (aLoad false 1 x36 m) m) fun x37 m=>
  bp (pur (aLoad false 1 p2 m) m) fun x38 m=>
  bp (pur (aNilCheck x38) m) fun x39 m=>
  bp (pur (aFieldAddr 2 x39) m) fun x40 m=>
  bp (pur (aLoad false 1 x40 m) m) fun x41 m=>
  bp (pur (aIndexAddrSl 3 x41 p0) m) fun x42 m=>
  bp (pur (aFieldAddr 2 x42) m) fun x43 m=>
  bp (pur (aLoad false 1 x43 m) m) fun x44 m=>
  bp (aBuildSlice Q3b [(.int .i32 0)] 1 2 [(0,x37),(1,x44)] m) fun x45 m=>
  bp (pur (lenK 1 x45 m) m) fun x46 m=>
  Q12d G (.int .i64 0) x46 x45 p3 p4 p0 p9 p1 p6 m
def Q12f (G:Gt)(p2 p0 p3 p4 p1 p6:V)(m:M):R:=
  bp (some (aNew Qg0 Q3g m)) fun x47 m=>
  Q12e G p2 p0 p3 p4 x47 p1 p6 m
def Q12g (G:Gt)(p1 p0 p6 p2 p3 p4:V)(m:M):R:=
  bp (pur (aLoad false 1 p1 m) m) fun x48 m=>
  bp (pur (aLookup .int (.agg #[(.int .u64 0),(.int .u64 0)]) true x48 p0 m) m) fun x49 m=>
  bp (pur (aExtract x49 0) m) fun x50 m=>
  bp (pur (aExtract x49 1) m) fun x51 m=>
  bp (some (aNew Qg0 Q3g m)) fun x52 m=>
  bp (unt (aStore 2 x52 x50 m)) fun _ m=>
  brb x51
  (bp (pur (aLoad true 2 x52 m) m) fun x53 m=>
  bp (unt (aStore 2 p6 x53 m)) fun _ m=>
  ob (ob (aLoad true 2 p6 m) fun v=>ob (some []) fun l=>some (v :: l)) fun l=>some (resVal l,m))
  (Q12f G p2 p0 p3 p4 p1 p6 m)
def Qsc (G:Gt)(p1 p0 p2 p3 p4:V)(m:M):R:=
  bp (some (aNew Qg0 Q3g m)) fun x54 m=>
  Q12g G p1 p0 x54 p2 p3 p4 m
theorem Q1nj (G:Gt)(a0 a1 a2 a3 a4:V)(m:M):ef G Tryz.f79 [a0,a1,a2,a3,a4] m = Qsc G a1 a0 a2 a3 a4 m:=
  evFn_of (r:=fun r m=>Qsc G (r 1) (r 0) (r 2) (r 3) (r 4) m) rfl rfl (tr (seqQ (f:=fun r m=>Q12g G (r 1) (r 0) (r 6) (r 2) (r 3) (r 4) m) (tr (seqQ (f:=fun r m=>Q12f G (r 2) (r 0) (r 3) (r 4) (r 1) (r 6) m) (tr (seqQ (f:=fun r m=>Q12e G (r 2) (r 0) (r 3) (r 4) (r 9) (r 1) (r 6) m) (tr (tr (seqQ (f:=fun r m=>Q12c G (r 1) (r 0) (r 9) (r 6) m) (fun r m=>by kernel_rfl)) (seqQ (f:=fun r m=>Q12d G (r 41) (r 40) (r 39) (r 3) (r 4) (r 0) (r 9) (r 1) (r 6) m) (tr (blockQ (loopQ (fun i r m=>Qo4 G i (r 41) (r 40) (r 39) (r 3) (r 4) (r 0) (r 9) (r 1) (r 6) m) (fun _ _=>rfl) (fun i0=>fun r m=>by kernel_rfl))) (fun r m=>by kernel_rfl)))) (fun r m=>by kernel_rfl))) (fun r m=>by kernel_rfl))) (fun r m=>by kernel_rfl))) (fun r m=>by kernel_rfl)) m
def Q1n2:En:=⟨Q18b,Tryz.f79,Tryz.func79,by kernel_rfl,arg5 (fun G a0 a1 a2 a3 a4 m=>Qsc G a1 a0 a2 a3 a4 m),okarg5 Q1nj⟩
def Q1ek (G:Gt)(p2 p1 p4:V)(m:M):R:=
  bp (pur (aFieldAddr 0 p2) m) fun x0 m=>
  bp (pur (aLoad false 1 x0 m) m) fun x1 m=>
  bp (pur (bin .shl false true .int x1 p1) m) fun x2 m=>
  bp (pur (aFieldAddr 1 p2) m) fun x3 m=>
  bp (pur (aLoad false 1 x3 m) m) fun x4 m=>
  bp (pur (bin .sub true true .int (.int .i64 64) p1) m) fun x5 m=>
  bp (pur (bin .shr false true .int x4 x5) m) fun x6 m=>
  bp (pur (bin .or false true .int x2 x6) m) fun x7 m=>
  bp (pur (aFieldAddr 1 p2) m) fun x8 m=>
  bp (pur (aLoad false 1 x8 m) m) fun x9 m=>
  bp (pur (bin .shl false true .int x9 p1) m) fun x10 m=>
  bp (pur (aBuild Q3g [(0,1),(1,1)] [(0,x7),(1,x10)]) m) fun x11 m=>
  bp (unt (aStore 2 p4 x11 m)) fun _ m=>
  ob (ob (aLoad true 2 p4 m) fun v=>ob (some []) fun l=>some (v :: l)) fun l=>some (resVal l,m)
def Q1ol (G:Gt)(p1 p2 p4:V)(m:M):R:=
  bp (pur (bin .geq true true .int p1 (.int .i64 64)) m) fun x12 m=>
  brb x12
  (bp (pur (aFieldAddr 1 p2) m) fun x13 m=>
  bp (pur (aLoad false 1 x13 m) m) fun x14 m=>
  bp (pur (aBuild Q3g [(0,1),(1,1)] [(0,x14)]) m) fun x15 m=>
  bp (pur (bin .sub true true .int p1 (.int .i64 64)) m) fun x16 m=>
  bp (unt (aStore 2 p2 x15 m)) fun _ m=>
  Q1ek G p2 x16 p4 m)
  (Q1ek G p2 p1 p4 m)
def Q1kk (G:Gt)(p0 p1:V)(m:M):R:=
  bp (some (aNew Qg0 (Value.cells p0).toList m)) fun x17 m=>
  bp (some (aNew Qg0 Q3g m)) fun x18 m=>
  Q1ol G p1 x17 x18 m
theorem Q23o (G:Gt)(a0 a1:V)(m:M):ef G Tryz.f80 [a0,a1] m = Q1kk G a0 a1 m:=
  evFn_of (r:=fun r m=>Q1kk G (r 0) (r 1) m) rfl rfl (tr (seqQ (f:=fun r m=>Q1ol G (r 1) (r 2) (r 4) m) (tr (seqQ (f:=fun r m=>Q1ek G (r 2) (r 1) (r 4) m) (fun r m=>by kernel_rfl)) (fun r m=>by kernel_rfl))) (fun r m=>by kernel_rfl)) m
def Q23m:En:=⟨Q1kj,Tryz.f80,Tryz.func80,by kernel_rfl,arg2 Q1kk,okarg2 Q23o⟩
def Quo (G:Gt)(p1 p0:V)(m:M):R:=
  bp (some (aNew Q7 (Value.cells p1).toList m)) fun x0 m=>
  bp (some (aNew Qnb Qei m)) fun x1 m=>
  bp (pur (binP m .eql true true .ptr p0 (.pointer none)) m) fun x2 m=>
  brb x2
  (bp (pur (aBuild Qei [(0,8),(8,1)] []) m) fun x3 m=>
  bp (unt (aStore 9 x1 x3 m)) fun _ m=>
  ob (ob (aLoad true 9 x1 m) fun v=>ob (some [(.int .i64 2)]) fun l=>some (v :: l)) fun l=>some (resVal l,m))
  (bp (pur (aNilCheck p0) m) fun x4 m=>
  bp (pur (aFieldAddr 3 x4) m) fun x5 m=>
  bp (pur (aLoad false 1 x5 m) m) fun x6 m=>
  bp (pur (aLoad true 2 x0 m) m) fun x7 m=>
  bp (pur (aLookup (.struct [(0,1,false,.int),(1,1,false,.int)]) (.agg #[(.int .i64 0),(.int .i64 0),(.int .i64 0),(.int .i64 0),(.int .i64 0),(.int .i64 0),(.int .i64 0),(.int .i64 0),(.slice none 0 0)]) true x6 x7 m) m) fun x8 m=>
  bp (pur (aExtract x8 0) m) fun x9 m=>
  bp (pur (aExtract x8 1) m) fun x10 m=>
  bp (some (aNew Qnb Qei m)) fun x11 m=>
  bp (unt (aStore 9 x11 x9 m)) fun _ m=>
  bp (pur (un .not x10) m) fun x12 m=>
  brb x12
  (bp (pur (aBuild Qei [(0,8),(8,1)] []) m) fun x13 m=>
  bp (unt (aStore 9 x1 x13 m)) fun _ m=>
  ob (ob (aLoad true 9 x1 m) fun v=>ob (some [(.int .i64 1)]) fun l=>some (v :: l)) fun l=>some (resVal l,m))
  (bp (pur (aLoad true 9 x11 m) m) fun x14 m=>
  bp (unt (aStore 9 x1 x14 m)) fun _ m=>
  ob (ob (aLoad true 9 x1 m) fun v=>ob (some [(.int .i64 0)]) fun l=>some (v :: l)) fun l=>some (resVal l,m)))
theorem Q1qp (G:Gt)(a0 a1:V)(m:M):ef G Tryz.f82 [a0,a1] m = Quo G a1 a0 m:=
  evFn_of (r:=fun r m=>Quo G (r 1) (r 0) m) rfl rfl (fun r m=>by kernel_rfl) m
def Q1qj:En:=⟨Qup,Tryz.f82,Tryz.func82,by kernel_rfl,arg2 (fun G a0 a1 m=>Quo G a1 a0 m),okarg2 Q1qp⟩
def Qtd (G:Gt)(p16 p17:V)(m:M):R:=
  bp (pur (aNilCheck p16) m) fun x0 m=>
  bp (pur (aFieldAddr 4 x0) m) fun x1 m=>
  bp (pur (aLoad false 1 x1 m) m) fun x2 m=>
  bp (pur (bin .neq true true .int x2 (.int .i64 0)) m) fun x3 m=>
  brb x3
  (some (.tuple ⟨[(.int .i64 0),(.int .i64 3)]⟩,m))
  (some (.tuple ⟨[p17,(.int .i64 0)]⟩,m))
def Qif (G:Gt):Nat → V → V → V → V → V → V → V → V → M → R
 | 0,_,_,_,_,_,_,_,_,_=>none
 | i + 1,p66,p65,p64,p16,p0,p17,p4,p3,m=>
  bp (pur (bin .lss false true .int p66 p65) m) fun x4 m=>
  brb x4
  (bp (pur (aIndexAddrSl 5 p64 p66) m) fun x5 m=>
  bp (pur (aLoad true 5 x5 m) m) fun x6 m=>
  bp (some (aNew Q8s Qkk m)) fun x7 m=>
  bp (unt (aStore 5 x7 x6 m)) fun _ m=>
  bp (pur (aNilCheck p0) m) fun x8 m=>
  bp (pur (aFieldAddr 0 x8) m) fun x9 m=>
  bp (pur (aLoad false 1 x9 m) m) fun x10 m=>
  bp (pur (aLoad true 5 x7 m) m) fun x11 m=>
  bp (evCall G.tab p4 [p16,x11,p3] m) fun x12 m=>
  ckB (again (pur (aLoad false 1 x9 m) m) x10 && true)
  (bp (G.tab Qnh [x10,p17,x12] m) fun x13 m=>
  bp (pur (aExtract x13 0) m) fun x14 m=>
  bp (pur (aExtract x13 1) m) fun x15 m=>
  bp (G.tab Qb [p16,x14,x15] m) fun x16 m=>
  bp (pur (bin .add true true .int p66 (.int .i64 1)) m) fun x17 m=>
  (Qif G i) x17 p65 p64 p16 p0 x16 p4 p3 m))
  (Qtd G p16 p17 m)
def Qte (G:Gt)(p66 p65 p64 p16 p0 p17 p4 p3:V)(m:M):R:=
  Qif G G.rds p66 p65 p64 p16 p0 p17 p4 p3 m
def Qtf (G:Gt)(p12 p2 p16 p0 p17 p4 p3:V)(m:M):R:=
  bp (pur (aFieldAddr 8 p12) m) fun x18 m=>
  bp (pur (aLoad false 1 x18 m) m) fun x19 m=>
  bp (pur (aIndexAddrSl 3 x19 p2) m) fun x20 m=>
  bp (pur (aFieldAddr 2 x20) m) fun x21 m=>
  bp (pur (aLoad false 1 x21 m) m) fun x22 m=>
  bp (pur (lenK 1 x22 m) m) fun x23 m=>
  Qte G (.int .i64 0) x23 x22 p16 p0 p17 p4 p3 m
def Qtg (G:Gt)(p12 p2 p16 p0 p4 p3:V)(m:M):R:=
  Qtf G p12 p2 p16 p0 (.int .i64 0) p4 p3 m
def Qth (G:Gt)(p0 p12 p2 p4 p3:V)(m:M):R:=
  bp (pur (aNilCheck p0) m) fun x24 m=>
  bp (pur (aFieldAddr 0 x24) m) fun x25 m=>
  bp (pur (aLoad false 1 x25 m) m) fun x26 m=>
  bp (pur (aNilCheck p0) m) fun x27 m=>
  bp (pur (aFieldAddr 1 x27) m) fun x28 m=>
  bp (pur (aLoad false 1 x28 m) m) fun x29 m=>
  bp (pur (aBuild Q1hj [(0,1),(1,1),(2,1),(3,1),(4,1)] [(0,x26),(3,x29)]) m) fun x30 m=>
  bp (some (aNew Q1hk (Value.cells x30).toList m)) fun x31 m=>
  Qtg G p12 p2 x31 p0 p4 p3 m
def Qti (G:Gt)(p0 p3 p12 p2 p4:V)(m:M):R:=
  bp (pur (aNilCheck p0) m) fun x32 m=>
  bp (pur (aFieldAddr 0 x32) m) fun x33 m=>
  bp (pur (aLoad false 1 x33 m) m) fun x34 m=>
  bp (G.tab Qc5 [x34,p3,(.int .i64 0)] m) fun x35 m=>
  bp (pur (aExtract x35 0) m) fun x36 m=>
  bp (pur (aExtract x35 1) m) fun x37 m=>
  bp (pur (bin .neq true true .int x37 (.int .i64 0)) m) fun x38 m=>
  brb x38
  (some (.tuple ⟨[(.int .i64 0),(.int .i64 1)]⟩,m))
  (Qth G p0 p12 p2 p4 p3 m)
def Qgg (G:Gt)(p37 p0 p3 p12 p2 p4:V)(m:M):R:=
  brb p37
  (some (.tuple ⟨[(.int .i64 0),(.int .i64 1)]⟩,m))
  (Qti G p0 p3 p12 p2 p4 m)
def Qtj (G:Gt)(p2 p12 p0 p3 p4:V)(m:M):R:=
  bp (pur (bin .lss true true .int p2 (.int .i64 0)) m) fun x39 m=>
  brb x39
  (Qgg G (.bool true) p0 p3 p12 p2 p4 m)
  (bp (pur (aFieldAddr 8 p12) m) fun x40 m=>
  bp (pur (aLoad false 1 x40 m) m) fun x41 m=>
  bp (pur (lenK 1 x41 m) m) fun x42 m=>
  bp (pur (bin .geq false true .int p2 x42) m) fun x43 m=>
  Qgg G x43 p0 p3 p12 p2 p4 m)
def Qtk (G:Gt)(p13 p2 p12 p0 p3 p4:V)(m:M):R:=
  bp (pur (bin .neq true true .int p13 (.int .i64 0)) m) fun x44 m=>
  brb x44
  (some (.tuple ⟨[(.int .i64 0),p13]⟩,m))
  (Qtj G p2 p12 p0 p3 p4 m)
def Qtl (G:Gt)(p0 p6 p2 p3 p4:V)(m:M):R:=
  bp (pur (aLoad true 2 p6 m) m) fun x45 m=>
  bp (G.tab Qup [p0,x45] m) fun x46 m=>
  bp (pur (aExtract x46 0) m) fun x47 m=>
  bp (pur (aExtract x46 1) m) fun x48 m=>
  bp (some (aNew Qnb Qei m)) fun x49 m=>
  bp (unt (aStore 9 x49 x47 m)) fun _ m=>
  Qtk G x48 p2 x49 p0 p3 p4 m
def Ql5 (G:Gt)(p1 p0 p2 p3 p4:V)(m:M):R:=
  bp (some (aNew Q7 (Value.cells p1).toList m)) fun x50 m=>
  Qtl G p0 x50 p2 p3 p4 m
theorem Q1hl (G:Gt)(a0 a1 a2 a3 a4:V)(m:M):ef G Tryz.f83 [a0,a1,a2,a3,a4] m = Ql5 G a1 a0 a2 a3 a4 m:=
  evFn_of (r:=fun r m=>Ql5 G (r 1) (r 0) (r 2) (r 3) (r 4) m) rfl rfl (tr (seqQ (f:=fun r m=>Qtl G (r 0) (r 6) (r 2) (r 3) (r 4) m) (tr (seqQ (f:=fun r m=>Qtk G (r 13) (r 2) (r 12) (r 0) (r 3) (r 4) m) (tr (seqQ (f:=fun r m=>Qtj G (r 2) (r 12) (r 0) (r 3) (r 4) m) (tr (tr (seqQ (f:=fun r m=>Qti G (r 0) (r 3) (r 12) (r 2) (r 4) m) (tr (seqQ (f:=fun r m=>Qth G (r 0) (r 12) (r 2) (r 4) (r 3) m) (tr (seqQ (f:=fun r m=>Qtg G (r 12) (r 2) (r 16) (r 0) (r 4) (r 3) m) (tr (seqQ (f:=fun r m=>Qtf G (r 12) (r 2) (r 16) (r 0) (r 17) (r 4) (r 3) m) (tr (tr (seqQ (f:=fun r m=>Qtd G (r 16) (r 17) m) (fun r m=>by kernel_rfl)) (seqQ (f:=fun r m=>Qte G (r 66) (r 65) (r 64) (r 16) (r 0) (r 17) (r 4) (r 3) m) (tr (blockQ (loopQ (fun i r m=>Qif G i (r 66) (r 65) (r 64) (r 16) (r 0) (r 17) (r 4) (r 3) m) (fun _ _=>rfl) (fun i0=>fun r m=>by kernel_rfl))) (fun r m=>by kernel_rfl)))) (fun r m=>by kernel_rfl))) (fun r m=>by kernel_rfl))) (fun r m=>by kernel_rfl))) (fun r m=>by kernel_rfl))) (seqQ (f:=fun r m=>Qgg G (r 37) (r 0) (r 3) (r 12) (r 2) (r 4) m) (fun r m=>by kernel_rfl))) (fun r m=>by kernel_rfl))) (fun r m=>by kernel_rfl))) (fun r m=>by kernel_rfl))) (fun r m=>by kernel_rfl)) m
def Q1hc:En:=⟨Qxj,Tryz.f83,Tryz.func83,by kernel_rfl,arg5 (fun G a0 a1 a2 a3 a4 m=>Ql5 G a1 a0 a2 a3 a4 m),okarg5 Q1hl⟩
def Qo5 (G:Gt)(p1 p0 p2:V)(m:M):R:=
  bp (some (aNew Q8s (Value.cells p1).toList m)) fun x0 m=>
  bp (pur (aFieldAddr 3 x0) m) fun x1 m=>
  bp (pur (aLoad false 1 x1 m) m) fun x2 m=>
  bp (pur (aNilCheck p0) m) fun x3 m=>
  bp (pur (aFieldAddr 0 x3) m) fun x4 m=>
  bp (pur (aLoad false 1 x4 m) m) fun x5 m=>
  bp (pur (aFieldAddr 4 x0) m) fun x6 m=>
  bp (pur (aLoad false 1 x6 m) m) fun x7 m=>
  bp (G.tab Qc5 [x5,x7,p2] m) fun x8 m=>
  ckB (again (pur (aLoad false 1 x1 m) m) x2 && true)
  (bp (pur (aExtract x8 0) m) fun x9 m=>
  bp (pur (aExtract x8 1) m) fun x10 m=>
  bp (G.tab Qb [p0,x9,x10] m) fun x11 m=>
  ckB (again (pur (aLoad false 1 x1 m) m) x2 && true)
  (bp (G.tab Qo6 [p0,x2,x11] m) fun x12 m=>
  bp (pur (aFieldAddr 1 x0) m) fun x13 m=>
  bp (pur (aLoad false 1 x13 m) m) fun x14 m=>
  bp (pur (aNilCheck p0) m) fun x15 m=>
  bp (pur (aFieldAddr 0 x15) m) fun x16 m=>
  bp (pur (aLoad false 1 x16 m) m) fun x17 m=>
  bp (pur (aFieldAddr 2 x0) m) fun x18 m=>
  bp (pur (aLoad false 1 x18 m) m) fun x19 m=>
  bp (G.tab Qc5 [x17,x19,x12] m) fun x20 m=>
  ckB (again (pur (aLoad false 1 x13 m) m) x14 && true)
  (bp (pur (aExtract x20 0) m) fun x21 m=>
  bp (pur (aExtract x20 1) m) fun x22 m=>
  bp (G.tab Qb [p0,x21,x22] m) fun x23 m=>
  ckB (again (pur (aLoad false 1 x13 m) m) x14 && true)
  (bp (G.tab Qo6 [p0,x14,x23] m) fun x24 m=>
  bp (pur (aNilCheck p0) m) fun x25 m=>
  bp (pur (aFieldAddr 0 x25) m) fun x26 m=>
  bp (pur (aLoad false 1 x26 m) m) fun x27 m=>
  bp (pur (aFieldAddr 0 x0) m) fun x28 m=>
  bp (pur (aLoad false 1 x28 m) m) fun x29 m=>
  bp (G.tab Qc5 [x27,x29,x24] m) fun x30 m=>
  bp (pur (aExtract x30 0) m) fun x31 m=>
  bp (pur (aExtract x30 1) m) fun x32 m=>
  bp (G.tab Qb [p0,x31,x32] m) fun x33 m=>
  some (x33,m)))))
theorem Q1kl (G:Gt)(a0 a1 a2:V)(m:M):ef G Tryz.f84 [a0,a1,a2] m = Qo5 G a1 a0 a2 m:=
  evFn_of (r:=fun r m=>Qo5 G (r 1) (r 0) (r 2) m) rfl rfl (fun r m=>by kernel_rfl) m
def Q1kh:En:=⟨Qg1,Tryz.f84,Tryz.func84,by kernel_rfl,arg3 (fun G a0 a1 a2 m=>Qo5 G a1 a0 a2 m),okarg3 Q1kl⟩
def Q151 (G:Gt)(p0 p1 p2 p3:V)(m:M):R:=
  bp (aBuildSlice Qcu [(.int .i64 0)] 1 2 [(0,p1),(1,p2)] m) fun x0 m=>
  bp (G.tab Qjk [p0,x0,(.slice none 0 0)] m) fun x1 m=>
  bp (pur (bin .neq true true .int x1 (.int .i64 0)) m) fun x2 m=>
  brb x2
  (some (.tuple ⟨[(.int .i64 0),x1]⟩,m))
  (bp (evCall G.tab p3 [p1,p2] m) fun x3 m=>
  bp (pur (aExtract x3 0) m) fun x4 m=>
  bp (pur (aExtract x3 1) m) fun x5 m=>
  some (.tuple ⟨[x4,x5]⟩,m))
theorem Q1w4 (G:Gt)(a0 a1 a2 a3:V)(m:M):ef G Tryz.f85 [a0,a1,a2,a3] m = Q151 G a0 a1 a2 a3 m:=
  evFn_of (r:=fun r m=>Q151 G (r 0) (r 1) (r 2) (r 3) m) rfl rfl (fun r m=>by kernel_rfl) m
def Q1vs:En:=⟨Qsd,Tryz.f85,Tryz.func85,by kernel_rfl,arg4 Q151,okarg4 Q1w4⟩
def Q18c (G:Gt)(p0 p1 p2:V)(m:M):R:=
  bp (G.tab Q46 [p0,p1,(.int .i64 1),p2] m) fun x0 m=>
  bp (pur (aExtract x0 0) m) fun x1 m=>
  bp (pur (aExtract x0 1) m) fun x2 m=>
  some (.tuple ⟨[x1,x2]⟩,m)
theorem Q1xl (G:Gt)(a0 a1 a2:V)(m:M):ef G Tryz.f86 [a0,a1,a2] m = Q18c G a0 a1 a2 m:=
  evFn_of (r:=fun r m=>Q18c G (r 0) (r 1) (r 2) m) rfl rfl (fun r m=>by kernel_rfl) m
def Q1xg:En:=⟨Q1ji,Tryz.f86,Tryz.func86,by kernel_rfl,arg3 Q18c,okarg3 Q1xl⟩
def Qxk (G:Gt)(p1 p0:V)(m:M):R:=
  bp (some (aNew Q7 (Value.cells p1).toList m)) fun x0 m=>
  bp (some (aNew Q1d Q47 m)) fun x1 m=>
  bp (pur (aLoad true 2 x0 m) m) fun x2 m=>
  bp (G.tab Q152 [p0,x2] m) fun x3 m=>
  bp (pur (bin .neq true true .int x3 (.int .i64 0)) m) fun x4 m=>
  brb x4
  (bp (pur (aBuild Q47 [(0,1),(1,1),(2,1),(3,1),(4,1),(5,1),(6,1),(7,1),(8,1),(9,1),(10,1)] []) m) fun x5 m=>
  bp (unt (aStore 11 x1 x5 m)) fun _ m=>
  ob (ob (aLoad true 11 x1 m) fun v=>ob (some [x3]) fun l=>some (v :: l)) fun l=>some (resVal l,m))
  (bp (pur (aNilCheck p0) m) fun x6 m=>
  bp (pur (aFieldAddr 0 x6) m) fun x7 m=>
  bp (pur (aLoad false 1 x7 m) m) fun x8 m=>
  bp (pur (aFieldAddr 0 x0) m) fun x9 m=>
  bp (pur (aLoad false 1 x9 m) m) fun x10 m=>
  bp (pur (aIndexAddrSl 12 x8 x10) m) fun x11 m=>
  bp (pur (aFieldAddr 3 x11) m) fun x12 m=>
  bp (pur (aLoad false 1 x12 m) m) fun x13 m=>
  bp (pur (aFieldAddr 1 x0) m) fun x14 m=>
  bp (pur (aLoad false 1 x14 m) m) fun x15 m=>
  bp (pur (aIndexAddrSl 11 x13 x15) m) fun x16 m=>
  bp (pur (aLoad true 11 x16 m) m) fun x17 m=>
  bp (unt (aStore 11 x1 x17 m)) fun _ m=>
  ob (ob (aLoad true 11 x1 m) fun v=>ob (some [(.int .i64 0)]) fun l=>some (v :: l)) fun l=>some (resVal l,m))
theorem Q1s7 (G:Gt)(a0 a1:V)(m:M):ef G Tryz.f87 [a0,a1] m = Qxk G a1 a0 m:=
  evFn_of (r:=fun r m=>Qxk G (r 1) (r 0) m) rfl rfl (fun r m=>by kernel_rfl) m
def Q1rk:En:=⟨Q1da,Tryz.f87,Tryz.func87,by kernel_rfl,arg2 (fun G a0 a1 m=>Qxk G a1 a0 m),okarg2 Q1s7⟩
def Q153 (G:Gt)(p0 p1 p2:V)(m:M):R:=
  bp (pur (aLoad true 2 p1 m) m) fun x0 m=>
  bp (pur (aLoad true 5 p2 m) m) fun x1 m=>
  bp (pur (aBuild Q4x [(0,1),(1,2),(3,5)] [(0,p0),(1,x0),(2,x1)]) m) fun x2 m=>
  bp (aBuildSlice Qpl Q4x 8 1 [(0,x2)] m) fun x3 m=>
  some (.tuple ⟨[x3,(.int .i64 0)]⟩,m)
theorem Q1w5 (G:Gt)(a0 a1 a2:V)(m:M):ef G Tryz.f88 [a0,a1,a2] m = Q153 G a0 a1 a2 m:=
  evFn_of (r:=fun r m=>Q153 G (r 0) (r 1) (r 2) m) rfl rfl (fun r m=>by kernel_rfl) m
def Q1vv:En:=⟨Q1hm,Tryz.f88,Tryz.func88,by kernel_rfl,arg3 Q153,okarg3 Q1w5⟩
def Q1c0 (G:Gt)(p0 p2 p1:V)(m:M):R:=
  bp (some (aNew Qx (Value.cells p0).toList m)) fun x0 m=>
  bp (some (aNew Q18d (Value.cells p2).toList m)) fun x1 m=>
  bp (pur (bin .eql true true .str p1 (.string ⟨#[]⟩)) m) fun x2 m=>
  brb x2
  (some ((.bool true),m))
  (bp (pur (aFieldAddr 4 x0) m) fun x3 m=>
  bp (pur (aLoad false 1 x3 m) m) fun x4 m=>
  bp (G.tab Q1lv [x4,p1] m) fun x5 m=>
  bp (pur (aExtract x5 0) m) fun x6 m=>
  bp (pur (aExtract x5 1) m) fun x7 m=>
  bp (some (aNew Qpf Qx9 m)) fun x8 m=>
  bp (unt (aStore 2 x8 x6 m)) fun _ m=>
  bp (pur (aLoad true 2 x8 m) m) fun x9 m=>
  bp (pur (aLoad true 5 x1 m) m) fun x10 m=>
  bp (G.tab Q1w6 [x9,x10] m) fun x11 m=>
  bp (pur (aExtract x11 0) m) fun x12 m=>
  bp (pur (aExtract x11 1) m) fun x13 m=>
  some (x12,m))
theorem Q1z4 (G:Gt)(a0 a1 a2:V)(m:M):ef G Tryz.f89 [a0,a1,a2] m = Q1c0 G a0 a2 a1 m:=
  evFn_of (r:=fun r m=>Q1c0 G (r 0) (r 2) (r 1) m) rfl rfl (fun r m=>by kernel_rfl) m
def Q1z1:En:=⟨Q1c1,Tryz.f89,Tryz.func89,by kernel_rfl,arg3 (fun G a0 a1 a2 m=>Q1c0 G a0 a2 a1 m),okarg3 Q1z4⟩
def Qxl (G:Gt)(p0 p1:V)(m:M):R:=
  bp (some (aNew Q7 Qo m)) fun x0 m=>
  bp (pur (binP m .eql true true .ptr p0 (.pointer none)) m) fun x1 m=>
  brb x1
  (bp (pur (aBuild Qo [(0,1),(1,1)] []) m) fun x2 m=>
  bp (unt (aStore 2 x0 x2 m)) fun _ m=>
  ob (ob (aLoad true 2 x0 m) fun v=>ob (some [(.int .i64 2)]) fun l=>some (v :: l)) fun l=>some (resVal l,m))
  (bp (pur (aNilCheck p0) m) fun x3 m=>
  bp (pur (aFieldAddr 2 x3) m) fun x4 m=>
  bp (pur (aLoad false 1 x4 m) m) fun x5 m=>
  bp (pur (aLookup .int (.agg #[(.int .i64 0),(.int .i64 0)]) true x5 p1 m) m) fun x6 m=>
  bp (pur (aExtract x6 0) m) fun x7 m=>
  bp (pur (aExtract x6 1) m) fun x8 m=>
  bp (some (aNew Q7 Qo m)) fun x9 m=>
  bp (unt (aStore 2 x9 x7 m)) fun _ m=>
  bp (pur (un .not x8) m) fun x10 m=>
  brb x10
  (bp (pur (aBuild Qo [(0,1),(1,1)] []) m) fun x11 m=>
  bp (unt (aStore 2 x0 x11 m)) fun _ m=>
  ob (ob (aLoad true 2 x0 m) fun v=>ob (some [(.int .i64 5)]) fun l=>some (v :: l)) fun l=>some (resVal l,m))
  (bp (pur (aLoad true 2 x9 m) m) fun x12 m=>
  bp (unt (aStore 2 x0 x12 m)) fun _ m=>
  ob (ob (aLoad true 2 x0 m) fun v=>ob (some [(.int .i64 0)]) fun l=>some (v :: l)) fun l=>some (resVal l,m)))
theorem Q1s8 (G:Gt)(a0 a1:V)(m:M):ef G Tryz.f91 [a0,a1] m = Qxl G a0 a1 m:=
  evFn_of (r:=fun r m=>Qxl G (r 0) (r 1) m) rfl rfl (fun r m=>by kernel_rfl) m
def Q1rl:En:=⟨Q1db,Tryz.f91,Tryz.func91,by kernel_rfl,arg2 Qxl,okarg2 Q1s8⟩
end
end Go.Ab.Sh
