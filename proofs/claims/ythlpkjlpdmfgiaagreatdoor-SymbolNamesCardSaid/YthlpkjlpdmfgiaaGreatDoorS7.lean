/-
  Functions of the program as plain definitions. No conditions.
-/
import Derived.Test.YthlpkjlpdmfgiaaGreatDoorAb5
import Derived.Test.YthlpkjlpdmfgiaaGreatDoorZ
import Derived.KernelRfl
import Derived.Test.YthlpkjlpdmfgiaaGreatDoorProg
set_option linter.unusedVariables false
set_option maxRecDepth 100000
namespace Go.Ab.Sh
open Go Go.Ab Go.Proofs
noncomputable section
def Q187 (G:Gt)(k0:V → V → V → V → V → V → M → R)(p1 p10 p44 p43 p42 p4 p0:V)(m:M):R:=
  bp (pur (aLoad true 4 p10 m) m) fun x0 m=>
  bp (evCall G.tab p1 [x0] m) fun x1 m=>
  bp (pur (bin .add true true .int p44 (.int .i64 1)) m) fun x2 m=>
  k0 x2 p43 p42 p4 p0 p1 m
def Q1h1 (G:Gt)(k0:V → V → V → V → V → V → M → R)(p10 p1 p44 p43 p42 p4 p0:V)(m:M):R:=
  bp (pur (aFieldAddr 2 p10) m) fun x3 m=>
  bp (pur (aLoad false 1 x3 m) m) fun x4 m=>
  brb x4
  (bp (pur (aFieldAddr 3 p10) m) fun x5 m=>
  bp (unt (aStore 1 x5 (.slice none 0 0) m)) fun _ m=>
  Q187 G k0 p1 p10 p44 p43 p42 p4 p0 m)
  (Q187 G k0 p1 p10 p44 p43 p42 p4 p0 m)
def Q1h2 (G:Gt)(k0:V → V → V → V → V → V → M → R)(p10 p1 p44 p43 p42 p4 p0:V)(m:M):R:=
  bp (pur (aFieldAddr 3 p10) m) fun x6 m=>
  bp (pur (aLoad false 1 x6 m) m) fun x7 m=>
  bp (G.tab Q1b1 [x7] m) fun x8 m=>
  bp (pur (aFieldAddr 3 p10) m) fun x9 m=>
  bp (unt (aStore 1 x9 x8 m)) fun _ m=>
  Q1h1 G k0 p10 p1 p44 p43 p42 p4 p0 m
def Q188 (G:Gt)(k1:V → V → V → V → V → V → V → V → V → V → M → R)(p10 p0 p12 p54 p53 p52 p1 p44 p43 p42 p4:V)(m:M):R:=
  bp (pur (aFieldAddr 3 p10) m) fun x10 m=>
  bp (pur (aLoad false 1 x10 m) m) fun x11 m=>
  bp (pur (aLoad true 9 p12 m) m) fun x12 m=>
  bp (G.tab Q1qa [p0,x12] m) fun x13 m=>
  ckB (again (pur (aLoad false 1 x10 m) m) x11 && true)
  (bp (apS Q10r 2 24 x11 x13 m) fun x14 m=>
  bp (pur (aFieldAddr 3 p10) m) fun x15 m=>
  bp (unt (aStore 1 x15 x14 m)) fun _ m=>
  bp (pur (bin .add true true .int p54 (.int .i64 1)) m) fun x16 m=>
  k1 x16 p53 p52 p10 p0 p1 p44 p43 p42 p4 m)
def Q1h3 (G:Gt)(k1:V → V → V → V → V → V → V → V → V → V → M → R)(p10 p12 p0 p54 p53 p52 p1 p44 p43 p42 p4:V)(m:M):R:=
  bp (pur (aFieldAddr 2 p10) m) fun x17 m=>
  bp (pur (aLoad false 1 x17 m) m) fun x18 m=>
  brb x18
  (bp (pur (aFieldAddr 2 p10) m) fun x19 m=>
  bp (unt (aStore 1 x19 (.bool true) m)) fun _ m=>
  Q188 G k1 p10 p0 p12 p54 p53 p52 p1 p44 p43 p42 p4 m)
  (bp (pur (aFieldAddr 8 p12) m) fun x20 m=>
  bp (pur (aLoad false 1 x20 m) m) fun x21 m=>
  bp (pur (aFieldAddr 2 p10) m) fun x22 m=>
  bp (unt (aStore 1 x22 x21 m)) fun _ m=>
  Q188 G k1 p10 p0 p12 p54 p53 p52 p1 p44 p43 p42 p4 m)
def Q1h4 (G:Gt)(k1:V → V → V → V → V → V → V → V → V → V → M → R)(p52 p54 p10 p0 p53 p1 p44 p43 p42 p4:V)(m:M):R:=
  bp (pur (aIndexAddrSl 9 p52 p54) m) fun x23 m=>
  bp (pur (aLoad true 9 x23 m) m) fun x24 m=>
  bp (some (aNew Qh7 Qb0 m)) fun x25 m=>
  bp (unt (aStore 9 x25 x24 m)) fun _ m=>
  Q1h3 G k1 p10 x25 p0 p54 p53 p52 p1 p44 p43 p42 p4 m
def Q1h5 (G:Gt)(k1:V → V → V → V → V → V → V → V → V → V → M → R)(k0:V → V → V → V → V → V → M → R)(p55 p52 p54 p10 p0 p53 p1 p44 p43 p42 p4:V)(m:M):R:=
  brb p55
  (Q1h4 G k1 p52 p54 p10 p0 p53 p1 p44 p43 p42 p4 m)
  (Q1h2 G k0 p10 p1 p44 p43 p42 p4 p0 m)
def Qfj (G:Gt)(k0:V → V → V → V → V → V → M → R):Nat → V → V → V → V → V → V → V → V → V → V → M → R
 | 0,_,_,_,_,_,_,_,_,_,_,_=>none
 | i + 1,p54,p53,p52,p10,p0,p1,p44,p43,p42,p4,m=>
  bp (pur (bin .lss false true .int p54 p53) m) fun x26 m=>
  Q1h5 G (Qfj G k0 i) k0 x26 p52 p54 p10 p0 p53 p1 p44 p43 p42 p4 m
def Q1h6 (G:Gt)(k0:V → V → V → V → V → V → M → R)(p54 p53 p52 p10 p0 p1 p44 p43 p42 p4:V)(m:M):R:=
  Qfj G k0 G.rds p54 p53 p52 p10 p0 p1 p44 p43 p42 p4 m
def Q1k3 (G:Gt)(k0:V → V → V → V → V → V → M → R)(p4 p9 p10 p0 p1 p44 p43 p42:V)(m:M):R:=
  bp (pur (aLoad true 2 p9 m) m) fun x27 m=>
  bp (pur (aLookup (.struct [(0,1,false,.int),(1,1,false,.int)]) (.slice none 0 0) false p4 x27 m) m) fun x28 m=>
  bp (pur (lenK 1 x28 m) m) fun x29 m=>
  Q1h6 G k0 (.int .i64 0) x29 x28 p10 p0 p1 p44 p43 p42 p4 m
def Q1k4 (G:Gt)(k0:V → V → V → V → V → V → M → R)(p9 p4 p0 p1 p44 p43 p42:V)(m:M):R:=
  bp (pur (aLoad true 2 p9 m) m) fun x30 m=>
  bp (pur (aBuild Qkh [(0,2),(2,1),(3,1)] [(0,x30)]) m) fun x31 m=>
  bp (some (aNew Q6w Qkh m)) fun x32 m=>
  bp (unt (aStore 4 x32 x31 m)) fun _ m=>
  Q1k3 G k0 p4 p9 x32 p0 p1 p44 p43 p42 m
def Q1k5 (G:Gt)(k0:V → V → V → V → V → V → M → R)(p42 p44 p4 p0 p1 p43:V)(m:M):R:=
  bp (pur (aIndexAddrSl 2 p42 p44) m) fun x33 m=>
  bp (pur (aLoad true 2 x33 m) m) fun x34 m=>
  bp (some (aNew Q66 Q2p m)) fun x35 m=>
  bp (unt (aStore 2 x35 x34 m)) fun _ m=>
  Q1k4 G k0 x35 p4 p0 p1 p44 p43 p42 m
def Q1k6 (G:Gt)(k0:V → V → V → V → V → V → M → R)(p45 p42 p44 p4 p0 p1 p43:V)(m:M):R:=
  brb p45
  (Q1k5 G k0 p42 p44 p4 p0 p1 p43 m)
  (some (.tuple ⟨[]⟩,m))
def Q2b (G:Gt):Nat → V → V → V → V → V → V → M → R
 | 0,_,_,_,_,_,_,_=>none
 | i + 1,p44,p43,p42,p4,p0,p1,m=>
  bp (pur (bin .lss false true .int p44 p43) m) fun x36 m=>
  Q1k6 G (Q2b G i) x36 p42 p44 p4 p0 p1 p43 m
def Q1k7 (G:Gt)(p44 p43 p42 p4 p0 p1:V)(m:M):R:=
  Q2b G G.rds p44 p43 p42 p4 p0 p1 m
def Q1k8 (G:Gt)(p5 p4 p0 p1:V)(m:M):R:=
  bp (G.tab Qaz [p5] m) fun x37 m=>
  bp (pur (lenK 1 x37 m) m) fun x38 m=>
  Q1k7 G (.int .i64 0) x38 x37 p4 p0 p1 m
def Q1k9 (G:Gt)(p5 p4 p0 p1:V)(m:M):R:=
  bp (G.tab Qah [p5,(.func (.func Q1oh) #[] #[])] m) fun x39 m=>
  Q1k8 G p5 p4 p0 p1 m
def Q189 (G:Gt)(k0:V → V → V → V → V → V → V → M → R)(p16 p15 p14 p4 p5 p0 p1:V)(m:M):R:=
  bp (pur (bin .add true true .int p16 (.int .i64 1)) m) fun x40 m=>
  k0 x40 p15 p14 p4 p5 p0 p1 m
def Q1h7 (G:Gt)(k0:V → V → V → V → V → V → V → M → R)(p14 p16 p4 p5 p15 p0 p1:V)(m:M):R:=
  bp (pur (aIndexAddrSl 9 p14 p16) m) fun x41 m=>
  bp (pur (aLoad true 9 x41 m) m) fun x42 m=>
  bp (some (aNew Qh7 Qb0 m)) fun x43 m=>
  bp (unt (aStore 9 x43 x42 m)) fun _ m=>
  bp (pur (aFieldAddr 0 x43) m) fun x44 m=>
  bp (pur (aLoad true 2 x44 m) m) fun x45 m=>
  bp (G.tab Q1a9 [x45] m) fun x46 m=>
  bp (pur (bin .eql true true .int x46 (.int .i64 0)) m) fun x47 m=>
  brb x47
  (bp (pur (aFieldAddr 0 x43) m) fun x48 m=>
  bp (pur (aLoad true 2 x48 m) m) fun x49 m=>
  bp (pur (aLoad true 9 x43 m) m) fun x50 m=>
  bp (aBuildSlice Qh7 Qb0 9 1 [(0,x50)] m) fun x51 m=>
  bp (aMapEntry (.struct [(0,1,false,.int),(1,1,false,.int)]) (.slice none 0 0) p4 x49 m) fun x52 m=>
  bp (pur (aExtract x52 0) m) fun x53 m=>
  bp (apS Qh7 9 72 x53 x51 m) fun x54 m=>
  bp (pur (aExtract x52 1) m) fun x55 m=>
  bp (unt (aEntryStore p4 x55 x54 m)) fun _ m=>
  bp (pur (aFieldAddr 0 x43) m) fun x56 m=>
  bp (pur (aLoad true 2 x56 m) m) fun x57 m=>
  bp (aBuildSlice Q66 Q2p 2 1 [(0,x57)] m) fun x58 m=>
  bp (apS Q66 2 16 p5 x58 m) fun x59 m=>
  Q189 G k0 p16 p15 p14 p4 x59 p0 p1 m)
  (Q189 G k0 p16 p15 p14 p4 p5 p0 p1 m)
def Q1h8 (G:Gt)(k0:V → V → V → V → V → V → V → M → R)(p17 p14 p16 p4 p5 p15 p0 p1:V)(m:M):R:=
  brb p17
  (Q1h7 G k0 p14 p16 p4 p5 p15 p0 p1 m)
  (Q1k9 G p5 p4 p0 p1 m)
def Qjr (G:Gt):Nat → V → V → V → V → V → V → V → M → R
 | 0,_,_,_,_,_,_,_,_=>none
 | i + 1,p16,p15,p14,p4,p5,p0,p1,m=>
  bp (pur (bin .lss false true .int p16 p15) m) fun x60 m=>
  Q1h8 G (Qjr G i) x60 p14 p16 p4 p5 p15 p0 p1 m
def Q1h9 (G:Gt)(p16 p15 p14 p4 p5 p0 p1:V)(m:M):R:=
  Qjr G G.rds p16 p15 p14 p4 p5 p0 p1 m
def Q1ka (G:Gt)(p0 p4 p5 p1:V)(m:M):R:=
  bp (pur (lenK 1 p0 m) m) fun x61 m=>
  Q1h9 G (.int .i64 0) x61 p0 p4 p5 p0 p1 m
def Q1kb (G:Gt)(p0 p4 p1:V)(m:M):R:=
  Q1ka G p0 p4 (.slice none 0 0) p1 m
def Q1g5 (G:Gt)(p0 p1:V)(m:M):R:=
  bp (some (aMakeMap m)) fun x62 m=>
  Q1kb G p0 x62 p1 m
theorem Q1v0 (G:Gt)(a0 a1:V)(m:M):ef G Tryz.f117 [a0,a1] m = Q1g5 G a0 a1 m:=
  evFn_of (r:=fun r m=>Q1g5 G (r 0) (r 1) m) rfl rfl (tr (seqQ (f:=fun r m=>Q1kb G (r 0) (r 4) (r 1) m) (tr (seqQ (f:=fun r m=>Q1ka G (r 0) (r 4) (r 5) (r 1) m) (tr (tr (seqQ (f:=fun r m=>Q1k9 G (r 5) (r 4) (r 0) (r 1) m) (tr (seqQ (f:=fun r m=>Q1k8 G (r 5) (r 4) (r 0) (r 1) m) (tr (seqQ (f:=fun r m=>Q1k7 G (r 44) (r 43) (r 42) (r 4) (r 0) (r 1) m) (tr (blockQ (loopQ (fun i r m=>Q2b G i (r 44) (r 43) (r 42) (r 4) (r 0) (r 1) m) (fun _ _=>rfl) (fun i0=>tr (seqQ (f:=fun r m=>Q1k6 G (Q2b G i0) (r 45) (r 42) (r 44) (r 4) (r 0) (r 1) (r 43) m) (tr (seqQ (f:=fun r m=>Q1k5 G (Q2b G i0) (r 42) (r 44) (r 4) (r 0) (r 1) (r 43) m) (tr (tr seqD (blockQ (seqQ (f:=fun r m=>Q1k4 G (Q2b G i0) (r 9) (r 4) (r 0) (r 1) (r 44) (r 43) (r 42) m) (tr (seqQ (f:=fun r m=>Q1k3 G (Q2b G i0) (r 4) (r 9) (r 10) (r 0) (r 1) (r 44) (r 43) (r 42) m) (tr (tr (seqQ (f:=fun r m=>Q1h2 G (Q2b G i0) (r 10) (r 1) (r 44) (r 43) (r 42) (r 4) (r 0) m) (tr (seqQ (f:=fun r m=>Q1h1 G (Q2b G i0) (r 10) (r 1) (r 44) (r 43) (r 42) (r 4) (r 0) m) (tr (seqQ (f:=fun r m=>Q187 G (Q2b G i0) (r 1) (r 10) (r 44) (r 43) (r 42) (r 4) (r 0) m) (fun r m=>by kernel_rfl)) (fun r m=>by kernel_rfl))) (fun r m=>by kernel_rfl))) (seqQ (f:=fun r m=>Q1h6 G (Q2b G i0) (r 54) (r 53) (r 52) (r 10) (r 0) (r 1) (r 44) (r 43) (r 42) (r 4) m) (tr (blockQ (loopQ (fun i r m=>Qfj G (Q2b G i0) i (r 54) (r 53) (r 52) (r 10) (r 0) (r 1) (r 44) (r 43) (r 42) (r 4) m) (fun _ _=>rfl) (fun i1=>tr (seqQ (f:=fun r m=>Q1h5 G (Qfj G (Q2b G i0) i1) (Q2b G i0) (r 55) (r 52) (r 54) (r 10) (r 0) (r 53) (r 1) (r 44) (r 43) (r 42) (r 4) m) (tr (seqQ (f:=fun r m=>Q1h4 G (Qfj G (Q2b G i0) i1) (r 52) (r 54) (r 10) (r 0) (r 53) (r 1) (r 44) (r 43) (r 42) (r 4) m) (tr (tr seqD (blockQ (seqQ (f:=fun r m=>Q1h3 G (Qfj G (Q2b G i0) i1) (r 10) (r 12) (r 0) (r 54) (r 53) (r 52) (r 1) (r 44) (r 43) (r 42) (r 4) m) (tr (seqQ (f:=fun r m=>Q188 G (Qfj G (Q2b G i0) i1) (r 10) (r 0) (r 12) (r 54) (r 53) (r 52) (r 1) (r 44) (r 43) (r 42) (r 4) m) (fun r m=>by kernel_rfl)) (fun r m=>by kernel_rfl))))) (fun r m=>by kernel_rfl))) (fun r m=>by kernel_rfl))) (fun r m=>by kernel_rfl)))) (fun r m=>by kernel_rfl)))) (fun r m=>by kernel_rfl))) (fun r m=>by kernel_rfl))))) (fun r m=>by kernel_rfl))) (fun r m=>by kernel_rfl))) (fun r m=>by kernel_rfl)))) (fun r m=>by kernel_rfl))) (fun r m=>by kernel_rfl))) (fun r m=>by kernel_rfl))) (seqQ (f:=fun r m=>Q1h9 G (r 16) (r 15) (r 14) (r 4) (r 5) (r 0) (r 1) m) (tr (blockQ (loopQ (fun i r m=>Qjr G i (r 16) (r 15) (r 14) (r 4) (r 5) (r 0) (r 1) m) (fun _ _=>rfl) (fun i0=>tr (seqQ (f:=fun r m=>Q1h8 G (Qjr G i0) (r 17) (r 14) (r 16) (r 4) (r 5) (r 15) (r 0) (r 1) m) (tr (seqQ (f:=fun r m=>Q1h7 G (Qjr G i0) (r 14) (r 16) (r 4) (r 5) (r 15) (r 0) (r 1) m) (tr (seqQ (f:=fun r m=>Q189 G (Qjr G i0) (r 16) (r 15) (r 14) (r 4) (r 5) (r 0) (r 1) m) (fun r m=>by kernel_rfl)) (fun r m=>by kernel_rfl))) (fun r m=>by kernel_rfl))) (fun r m=>by kernel_rfl)))) (fun r m=>by kernel_rfl)))) (fun r m=>by kernel_rfl))) (fun r m=>by kernel_rfl))) (fun r m=>by kernel_rfl)) m
def Q1uv:En:=⟨Q1o6,Tryz.f117,Tryz.func117,by kernel_rfl,arg2 Q1g5,okarg2 Q1v0⟩
def Qwx (G:Gt)(p10 p1 p2:V)(m:M):R:=
  brb p10
  (bp (pur (aLoad false 1 p1 m) m) fun x0 m=>
  bp (pur (aLoad true 4 p2 m) m) fun x1 m=>
  bp (aBuildSlice Q6w Qkh 4 1 [(0,x1)] m) fun x2 m=>
  bp (apS Q6w 4 48 x0 x2 m) fun x3 m=>
  bp (unt (aStore 1 p1 x3 m)) fun _ m=>
  some (.tuple ⟨[]⟩,m))
  (some (.tuple ⟨[]⟩,m))
def Q18u (G:Gt)(p2 p1:V)(m:M):R:=
  bp (pur (aFieldAddr 2 p2) m) fun x4 m=>
  bp (pur (aLoad false 1 x4 m) m) fun x5 m=>
  brb x5
  (Qwx G (.bool true) p1 p2 m)
  (bp (pur (aFieldAddr 3 p2) m) fun x6 m=>
  bp (pur (aLoad false 1 x6 m) m) fun x7 m=>
  bp (pur (lenK 1 x7 m) m) fun x8 m=>
  bp (pur (bin .gtr true true .int x8 (.int .i64 0)) m) fun x9 m=>
  Qwx G x9 p1 p2 m)
def Q13o (G:Gt)(p0 p1:V)(m:M):R:=
  bp (some (aNew Q6w (Value.cells p0).toList m)) fun x10 m=>
  Q18u G x10 p1 m
theorem Q1ok (G:Gt)(a0 a1:V)(m:M):ef G Tryz.f118 [a0,a1] m = Q13o G a0 a1 m:=
  evFn_of (r:=fun r m=>Q13o G (r 0) (r 1) m) rfl rfl (tr (seqQ (f:=fun r m=>Q18u G (r 2) (r 1) m) (tr (seqQ (f:=fun r m=>Qwx G (r 10) (r 1) (r 2) m) (fun r m=>by kernel_rfl)) (fun r m=>by kernel_rfl))) (fun r m=>by kernel_rfl)) m
def Q1o0:En:=⟨Q1bz,Tryz.f118,Tryz.func118,by kernel_rfl,arg2 Q13o,okarg2 Q1ok⟩
def Qkf (G:Gt)(p9 p0 p1:V)(m:M):R:=
  brb p9
  (some (.tuple ⟨[(.int .i64 0),(.int .i64 1)]⟩,m))
  (bp (conv (.int .i32) p1 m) fun x0 m=>
  bp (G.tab Q7s [p0,x0,(.int .i32 0),(.int .i32 1)] m) fun x1 m=>
  bp (G.tab Q5c [p0,x1] m) fun x2 m=>
  bp (pur (aExtract x2 0) m) fun x3 m=>
  bp (pur (aExtract x2 1) m) fun x4 m=>
  some (.tuple ⟨[x3,x4]⟩,m))
def Quo (G:Gt)(p6 p1 p0:V)(m:M):R:=
  brb p6
  (some (.tuple ⟨[(.int .i64 0),(.int .i64 2)]⟩,m))
  (bp (pur (bin .lss true true .int p1 (.int .i64 0)) m) fun x5 m=>
  brb x5
  (Qkf G (.bool true) p0 p1 m)
  (bp (pur (aNilCheck p0) m) fun x6 m=>
  bp (pur (aFieldAddr 0 x6) m) fun x7 m=>
  bp (pur (aLoad false 1 x7 m) m) fun x8 m=>
  bp (pur (bin .geq false true .int p1 x8) m) fun x9 m=>
  Qkf G x9 p0 p1 m))
def Qun (G:Gt)(p0 p1:V)(m:M):R:=
  bp (pur (binP m .eql true true .ptr p0 (.pointer none)) m) fun x10 m=>
  Quo G x10 p1 p0 m
def Q6k (G:Gt)(p0 p1:V)(m:M):R:=
  Qun G p0 p1 m
theorem Q1n5 (G:Gt)(a0 a1:V)(m:M):ef G Tryz.f119 [a0,a1] m = Q6k G a0 a1 m:=
  evFn_of (r:=fun r m=>Q6k G (r 0) (r 1) m) rfl rfl (tr (seqQ (f:=fun r m=>Qun G (r 0) (r 1) m) (tr (tr seqD (blockQ (seqQ (f:=fun r m=>Quo G (r 6) (r 1) (r 0) m) (tr (condQ (refQ) (seqQ (f:=fun r m=>Qkf G (r 9) (r 0) (r 1) m) (fun r m=>by kernel_rfl))) (fun r m=>by kernel_rfl))))) (fun r m=>by kernel_rfl))) (fun r m=>by kernel_rfl)) m
def Qzo:En:=⟨Q67,Tryz.f119,Tryz.func119,by kernel_rfl,arg2 Q6k,okarg2 Q1n5⟩
def Q1g6 (G:Gt)(p0:V)(m:M):R:=
  bp (pur (bin .mul true true .int (.int .i64 2) p0) m) fun x0 m=>
  bp (pur (bin .add true true .int x0 (.int .i64 1)) m) fun x1 m=>
  some (x1,m)
theorem Q1v1 (G:Gt)(a0:V)(m:M):ef G Tryz.f120 [a0] m = Q1g6 G a0 m:=
  evFn_of (r:=fun r m=>Q1g6 G (r 0) m) rfl rfl (fun r m=>by kernel_rfl) m
def Q1ux:En:=⟨Q1o7,Tryz.f120,Tryz.func120,by kernel_rfl,arg1 Q1g6,okarg1 Q1v1⟩
def Q10j (G:Gt)(p0 p1 p2:V)(m:M):R:=
  bp (aBuildSlice Q7o [(.int .i64 0)] 1 2 [(0,p1),(1,p2)] m) fun x0 m=>
  bp (G.tab Q29 [p0,x0] m) fun x1 m=>
  bp (pur (bin .neq true true .int x1 (.int .i64 0)) m) fun x2 m=>
  brb x2
  (some (.tuple ⟨[(.int .i64 0),x1]⟩,m))
  (bp (conv (.int .i32) p1 m) fun x3 m=>
  bp (conv (.int .i32) p2 m) fun x4 m=>
  bp (G.tab Q25 [p0,x4,(.int .i32 0),(.int .i32 1)] m) fun x5 m=>
  bp (conv (.int .i32) p2 m) fun x6 m=>
  bp (G.tab Q25 [p0,x3,x5,x6] m) fun x7 m=>
  bp (G.tab Q5c [p0,x7] m) fun x8 m=>
  bp (pur (aExtract x8 0) m) fun x9 m=>
  bp (pur (aExtract x8 1) m) fun x10 m=>
  some (.tuple ⟨[x9,x10]⟩,m))
theorem Q1n6 (G:Gt)(a0 a1 a2:V)(m:M):ef G Tryz.f121 [a0,a1,a2] m = Q10j G a0 a1 a2 m:=
  evFn_of (r:=fun r m=>Q10j G (r 0) (r 1) (r 2) m) rfl rfl (fun r m=>by kernel_rfl) m
def Q1mt:En:=⟨Q1a5,Tryz.f121,Tryz.func121,by kernel_rfl,arg3 Q10j,okarg3 Q1n6⟩
def Q6j (G:Gt)(p0 p1 p2 p3:V)(m:M):R:=
  bp (aBuildSlice Q7o [(.int .i64 0)] 1 3 [(0,p1),(1,p2),(2,p3)] m) fun x0 m=>
  bp (G.tab Q29 [p0,x0] m) fun x1 m=>
  bp (pur (bin .neq true true .int x1 (.int .i64 0)) m) fun x2 m=>
  brb x2
  (some (.tuple ⟨[(.int .i64 0),x1]⟩,m))
  (bp (conv (.int .i32) p1 m) fun x3 m=>
  bp (conv (.int .i32) p2 m) fun x4 m=>
  bp (conv (.int .i32) p3 m) fun x5 m=>
  bp (G.tab Q25 [p0,x3,x4,x5] m) fun x6 m=>
  bp (G.tab Q5c [p0,x6] m) fun x7 m=>
  bp (pur (aExtract x7 0) m) fun x8 m=>
  bp (pur (aExtract x7 1) m) fun x9 m=>
  some (.tuple ⟨[x8,x9]⟩,m))
theorem Q1n7 (G:Gt)(a0 a1 a2 a3:V)(m:M):ef G Tryz.f122 [a0,a1,a2,a3] m = Q6j G a0 a1 a2 a3 m:=
  evFn_of (r:=fun r m=>Q6j G (r 0) (r 1) (r 2) (r 3) m) rfl rfl (fun r m=>by kernel_rfl) m
def Qzx:En:=⟨Q2q,Tryz.f122,Tryz.func122,by kernel_rfl,arg4 Q6j,okarg4 Q1n7⟩
def Qhx (G:Gt)(p0 p1:V)(m:M):R:=
  bp (G.tab Q2q [p0,p1,(.int .i64 0),(.int .i64 1)] m) fun x0 m=>
  bp (pur (aExtract x0 0) m) fun x1 m=>
  bp (pur (aExtract x0 1) m) fun x2 m=>
  some (.tuple ⟨[x1,x2]⟩,m)
theorem Q1n8 (G:Gt)(a0 a1:V)(m:M):ef G Tryz.f125 [a0,a1] m = Qhx G a0 a1 m:=
  evFn_of (r:=fun r m=>Qhx G (r 0) (r 1) m) rfl rfl (fun r m=>by kernel_rfl) m
def Qzp:En:=⟨Qhk,Tryz.f125,Tryz.func125,by kernel_rfl,arg2 Qhx,okarg2 Q1n8⟩
def Q18a (G:Gt)(p0:V)(m:M):R:=
  bp (some (aNew Q6w (Value.cells p0).toList m)) fun x0 m=>
  bp (some (aNew Q6w Qkh m)) fun x1 m=>
  bp (pur (aFieldAddr 3 x0) m) fun x2 m=>
  bp (pur (aLoad false 1 x2 m) m) fun x3 m=>
  bp (G.tab Qha [x3] m) fun x4 m=>
  bp (pur (aFieldAddr 3 x0) m) fun x5 m=>
  bp (unt (aStore 1 x5 x4 m)) fun _ m=>
  bp (pur (aLoad true 4 x0 m) m) fun x6 m=>
  bp (unt (aStore 4 x1 x6 m)) fun _ m=>
  ob (ob (aLoad true 4 x1 m) fun v=>ob (some []) fun l=>some (v :: l)) fun l=>some (resVal l,m)
theorem Q1re (G:Gt)(a0:V)(m:M):ef G Tryz.f127 [a0] m = Q18a G a0 m:=
  evFn_of (r:=fun r m=>Q18a G (r 0) m) rfl rfl (fun r m=>by kernel_rfl) m
def Q1qu:En:=⟨Q1gp,Tryz.f127,Tryz.func127,by kernel_rfl,arg1 Q18a,okarg1 Q1re⟩
end
end Go.Ab.Sh

set_option linter.unusedVariables false
set_option maxRecDepth 100000
namespace Go.Ab.Sh
open Go Go.Ab Go.Proofs
noncomputable section
def Q5w (G:Gt)(k0:V → V → V → V → V → V → V → M → R)(p97 p0 p1 p2 p13 p4 p3 p10 p11 p12:V)(m:M):R:=
  brb p97
  (bp (G.tab Qns [p0,p1,p2,p13,p4] m) fun x0 m=>
  k0 p2 x0 p0 p4 p3 p10 p11 m)
  (bp (G.tab Quv [p0,p1,p2,p13,p4] m) fun x1 m=>
  bp (pur (aExtract x1 0) m) fun x2 m=>
  bp (pur (aExtract x1 1) m) fun x3 m=>
  bp (pur (bin .sub false true .int x2 p1) m) fun x4 m=>
  bp (pur (bin .sub false true .int p2 x2) m) fun x5 m=>
  bp (pur (bin .quo true true .int p12 (.int .i64 8)) m) fun x6 m=>
  bp (pur (bin .lss false true .int x4 x5) m) fun x7 m=>
  brb x7
  (bp (pur (bin .geq false true .int x4 x6) m) fun x8 m=>
  bp (G.tab Q3z [p0,p1,x2,p3,p4] m) fun x9 m=>
  bp (pur (bin .add true true .int x2 (.int .i64 1)) m) fun x10 m=>
  k0 p2 x10 p0 p4 p3 x8 x3 m)
  (bp (pur (bin .geq false true .int x5 x6) m) fun x11 m=>
  bp (pur (bin .add true true .int x2 (.int .i64 1)) m) fun x12 m=>
  bp (G.tab Q3z [p0,x12,p2,p3,p4] m) fun x13 m=>
  k0 x2 p1 p0 p4 p3 x11 x3 m))
def Q6o (G:Gt)(k0:V → V → V → V → V → V → V → M → R)(p1 p4 p0 p13 p2 p3 p10 p11 p12:V)(m:M):R:=
  bp (pur (bin .gtr true true .int p1 (.int .i64 0)) m) fun x14 m=>
  brt x14
  (bp (pur (bin .sub true true .int p1 (.int .i64 1)) m) fun x15 m=>
  bp (pur (aIndexAddrSl 4 p0 x15) m) fun x16 m=>
  bp (pur (aLoad true 4 x16 m) m) fun x17 m=>
  bp (pur (aIndexAddrSl 4 p0 p13) m) fun x18 m=>
  bp (pur (aLoad true 4 x18 m) m) fun x19 m=>
  bp (evCall G.tab p4 [x17,x19] m) fun x20 m=>
  bp (pur (bin .lss true true .int x20 (.int .i64 0)) m) fun x21 m=>
  bp (pur (un .not x21) m) fun x22 m=>
  Q5w G k0 x22 p0 p1 p2 p13 p4 p3 p10 p11 p12 m)
  (Q5w G k0 (.bool false) p0 p1 p2 p13 p4 p3 p10 p11 p12 m)
  (none)
def Q33 (G:Gt)(k0:V → V → V → V → V → V → V → M → R)(p75 p0 p1 p2 p4 p13 p3 p10 p11 p12:V)(m:M):R:=
  brb p75
  (bp (G.tab Qir [p0,p1,p2,p4] m) fun x23 m=>
  brb x23
  (some (.tuple ⟨[]⟩,m))
  (Q6o G k0 p1 p4 p0 p13 p2 p3 p10 p11 p12 m))
  (Q6o G k0 p1 p4 p0 p13 p2 p3 p10 p11 p12 m)
def Q6p (G:Gt)(k0:V → V → V → V → V → V → V → M → R)(p10 p11 p14 p0 p1 p2 p4 p13 p3 p12:V)(m:M):R:=
  brb p10
  (brb p11
  (bp (pur (bin .eql true true .int p14 (.int .i64 1)) m) fun x24 m=>
  Q33 G k0 x24 p0 p1 p2 p4 p13 p3 p10 p11 p12 m)
  (Q33 G k0 (.bool false) p0 p1 p2 p4 p13 p3 p10 p11 p12 m))
  (Q33 G k0 (.bool false) p0 p1 p2 p4 p13 p3 p10 p11 p12 m)
def Qea (G:Gt)(k0:V → V → V → V → V → V → V → M → R)(p14 p0 p1 p2 p4 p13 p10 p11 p3 p12:V)(m:M):R:=
  bp (pur (bin .eql true true .int p14 (.int .i64 2)) m) fun x25 m=>
  brb x25
  (bp (G.tab Qqb [p0,p1,p2,p4] m) fun x26 m=>
  bp (pur (bin .sub true true .int p2 (.int .i64 1)) m) fun x27 m=>
  bp (pur (bin .sub false true .int p13 p1) m) fun x28 m=>
  bp (pur (bin .sub false true .int x27 x28) m) fun x29 m=>
  Q6p G k0 p10 p11 (.int .i64 1) p0 p1 p2 p4 x29 p3 p12 m)
  (Q6p G k0 p10 p11 p14 p0 p1 p2 p4 p13 p3 p12 m)
def Q6q (G:Gt)(k0:V → V → V → V → V → V → V → M → R)(p0 p1 p2 p4 p10 p11 p3 p12:V)(m:M):R:=
  bp (G.tab Qrk [p0,p1,p2,p4] m) fun x30 m=>
  bp (pur (aExtract x30 0) m) fun x31 m=>
  bp (pur (aExtract x30 1) m) fun x32 m=>
  Qea G k0 x32 p0 p1 p2 p4 x31 p10 p11 p3 p12 m
def Qeb (G:Gt)(k0:V → V → V → V → V → V → V → M → R)(p10 p0 p1 p2 p4 p3 p11 p12:V)(m:M):R:=
  bp (pur (un .not p10) m) fun x33 m=>
  brb x33
  (bp (G.tab Qps [p0,p1,p2,p4] m) fun x34 m=>
  bp (pur (bin .sub true true .int p3 (.int .i64 1)) m) fun x35 m=>
  Q6q G k0 p0 p1 p2 p4 p10 p11 x35 p12 m)
  (Q6q G k0 p0 p1 p2 p4 p10 p11 p3 p12 m)
def Qec (G:Gt)(k0:V → V → V → V → V → V → V → M → R)(p3 p0 p1 p2 p4 p10 p11 p12:V)(m:M):R:=
  bp (pur (bin .eql true true .int p3 (.int .i64 0)) m) fun x36 m=>
  brb x36
  (bp (G.tab Qv6 [p0,p1,p2,p4] m) fun x37 m=>
  some (.tuple ⟨[]⟩,m))
  (Qeb G k0 p10 p0 p1 p2 p4 p3 p11 p12 m)
def Qed (G:Gt)(k0:V → V → V → V → V → V → V → M → R)(p12 p0 p1 p2 p4 p3 p10 p11:V)(m:M):R:=
  bp (pur (bin .leq true true .int p12 (.int .i64 12)) m) fun x38 m=>
  brb x38
  (bp (G.tab Qbb [p0,p1,p2,p4] m) fun x39 m=>
  some (.tuple ⟨[]⟩,m))
  (Qec G k0 p3 p0 p1 p2 p4 p10 p11 p12 m)
def Q7 (G:Gt):Nat → V → V → V → V → V → V → V → M → R
 | 0,_,_,_,_,_,_,_,_=>none
 | i + 1,p2,p1,p0,p4,p3,p10,p11,m=>
  bp (pur (bin .sub false true .int p2 p1) m) fun x40 m=>
  Qed G (Q7 G i) x40 p0 p1 p2 p4 p3 p10 p11 m
def Qee (G:Gt)(p2 p1 p0 p4 p3 p10 p11:V)(m:M):R:=
  Q7 G G.rds p2 p1 p0 p4 p3 p10 p11 m
def Qef (G:Gt)(p2 p1 p0 p4 p3 p10:V)(m:M):R:=
  Qee G p2 p1 p0 p4 p3 p10 (.bool true) m
def Q7h (G:Gt)(p2 p1 p0 p4 p3:V)(m:M):R:=
  Qef G p2 p1 p0 p4 p3 (.bool true) m
theorem Qwy (G:Gt)(a0 a1 a2 a3 a4:V)(m:M):ef G Tryz.f128 [a0,a1,a2,a3,a4] m = Q7h G a2 a1 a0 a4 a3 m:=
  evFn_of (r:=fun r m=>Q7h G (r 2) (r 1) (r 0) (r 4) (r 3) m) rfl rfl (tr (seqQ (f:=fun r m=>Qef G (r 2) (r 1) (r 0) (r 4) (r 3) (r 10) m) (tr (seqQ (f:=fun r m=>Qee G (r 2) (r 1) (r 0) (r 4) (r 3) (r 10) (r 11) m) (tr (blockQ (loopQ (fun i r m=>Q7 G i (r 2) (r 1) (r 0) (r 4) (r 3) (r 10) (r 11) m) (fun _ _=>rfl) (fun i0=>tr (blockQ (seqQ (f:=fun r m=>Qed G (Q7 G i0) (r 12) (r 0) (r 1) (r 2) (r 4) (r 3) (r 10) (r 11) m) (tr (seqQ (f:=fun r m=>Qec G (Q7 G i0) (r 3) (r 0) (r 1) (r 2) (r 4) (r 10) (r 11) (r 12) m) (tr (seqQ (f:=fun r m=>Qeb G (Q7 G i0) (r 10) (r 0) (r 1) (r 2) (r 4) (r 3) (r 11) (r 12) m) (tr (seqQ (f:=fun r m=>Q6q G (Q7 G i0) (r 0) (r 1) (r 2) (r 4) (r 10) (r 11) (r 3) (r 12) m) (tr (seqQ (f:=fun r m=>Qea G (Q7 G i0) (r 14) (r 0) (r 1) (r 2) (r 4) (r 13) (r 10) (r 11) (r 3) (r 12) m) (tr (seqQ (f:=fun r m=>Q6p G (Q7 G i0) (r 10) (r 11) (r 14) (r 0) (r 1) (r 2) (r 4) (r 13) (r 3) (r 12) m) (tr (tr (seqQ (f:=fun r m=>Q6o G (Q7 G i0) (r 1) (r 4) (r 0) (r 13) (r 2) (r 3) (r 10) (r 11) (r 12) m) (tr (tr seqD (seqQ (f:=fun r m=>Q5w G (Q7 G i0) (r 97) (r 0) (r 1) (r 2) (r 13) (r 4) (r 3) (r 10) (r 11) (r 12) m) (fun r m=>by kernel_rfl))) (fun r m=>by kernel_rfl))) (seqQ (f:=fun r m=>Q33 G (Q7 G i0) (r 75) (r 0) (r 1) (r 2) (r 4) (r 13) (r 3) (r 10) (r 11) (r 12) m) (fun r m=>by kernel_rfl))) (fun r m=>by kernel_rfl))) (fun r m=>by kernel_rfl))) (fun r m=>by kernel_rfl))) (fun r m=>by kernel_rfl))) (fun r m=>by kernel_rfl))) (fun r m=>by kernel_rfl)))) (fun r m=>by kernel_rfl)))) (fun r m=>by kernel_rfl))) (fun r m=>by kernel_rfl))) (fun r m=>by kernel_rfl)) m
def Qwf:En:=⟨Q3z,Tryz.f128,Tryz.func128,by kernel_rfl,arg5 (fun G a0 a1 a2 a3 a4 m=>Q7h G a2 a1 a0 a4 a3 m),okarg5 Qwy⟩
def Q13p (G:Gt)(p0:V)(m:M):R:=
  brb (.bool false)
  (bp (conv (.int .u32) p0 m) fun x0 m=>
  bp (G.tab Q1lw [x0] m) fun x1 m=>
  some (x1,m))
  (bp (G.tab Q18r [p0] m) fun x2 m=>
  some (x2,m))
theorem Q1ol (G:Gt)(a0:V)(m:M):ef G Tryz.f129 [a0] m = Q13p G a0 m:=
  evFn_of (r:=fun r m=>Q13p G (r 0) m) rfl rfl (fun r m=>by kernel_rfl) m
def Q1nv:En:=⟨Qb3,Tryz.f129,Tryz.func129,by kernel_rfl,arg1 Q13p,okarg1 Q1ol⟩
def Qa5 (G:Gt)(p0:V)(m:M):R:=
  bp (pur (bin .neq false true .int p0 p0) m) fun x0 m=>
  some (x0,m)
theorem Q1n9 (G:Gt)(a0:V)(m:M):ef G Tryz.f130 [a0] m = Qa5 G a0 m:=
  evFn_of (r:=fun r m=>Qa5 G (r 0) m) rfl rfl (fun r m=>by kernel_rfl) m
def Qzu:En:=⟨Qa0,Tryz.f130,Tryz.func130,by kernel_rfl,arg1 Qa5,okarg1 Q1n9⟩
def Q15s (G:Gt)(p3 p1:V)(m:M):R:=
  brb p3
  (some ((.int .i64 1),m))
  (bp (pur (aFieldAddr 0 p1) m) fun x0 m=>
  bp (pur (aLoad false 1 x0 m) m) fun x1 m=>
  bp (pur (aFieldAddr 1 p1) m) fun x2 m=>
  bp (pur (aLoad false 1 x2 m) m) fun x3 m=>
  bp (G.tab Q17w [x3] m) fun x4 m=>
  ckB (again (pur (aLoad false 1 x0 m) m) x1 && true)
  (bp (pur (bin .and false true .int x1 x4) m) fun x5 m=>
  bp (pur (bin .neq true true .int x5 (.int .u32 0)) m) fun x6 m=>
  brb x6
  (some ((.int .i64 10),m))
  (some ((.int .i64 0),m))))
def Q1en (G:Gt)(p1:V)(m:M):R:=
  bp (pur (aFieldAddr 1 p1) m) fun x7 m=>
  bp (pur (aLoad false 1 x7 m) m) fun x8 m=>
  bp (pur (bin .lss true true .int x8 (.int .i64 0)) m) fun x9 m=>
  brb x9
  (Q15s G (.bool true) p1 m)
  (bp (pur (aFieldAddr 1 p1) m) fun x10 m=>
  bp (pur (aLoad false 1 x10 m) m) fun x11 m=>
  bp (pur (bin .gtr true true .int x11 (.int .i64 32)) m) fun x12 m=>
  Q15s G x12 p1 m)
def Q1b3 (G:Gt)(p0:V)(m:M):R:=
  bp (some (aNew Q66 (Value.cells p0).toList m)) fun x13 m=>
  Q1en G x13 m
theorem Q1ss (G:Gt)(a0:V)(m:M):ef G Tryz.f131 [a0] m = Q1b3 G a0 m:=
  evFn_of (r:=fun r m=>Q1b3 G (r 0) m) rfl rfl (tr (seqQ (f:=fun r m=>Q1en G (r 1) m) (tr (tr seqD (blockQ (seqQ (f:=fun r m=>Q15s G (r 3) (r 1) m) (fun r m=>by kernel_rfl)))) (fun r m=>by kernel_rfl))) (fun r m=>by kernel_rfl)) m
def Q1s7:En:=⟨Q1a9,Tryz.f131,Tryz.func131,by kernel_rfl,arg1 Q1b3,okarg1 Q1ss⟩
def Q14v (G:Gt)(p12:V)(m:M):R:=
  some (.tuple ⟨[p12,(.int .i64 0)]⟩,m)
def Qrl (G:Gt)(k0:V → V → V → V → V → V → V → M → R)(p0 p14 p12 p13 p4 p1 p3 p2:V)(m:M):R:=
  bp (pur (aNilCheck p0) m) fun x0 m=>
  bp (pur (aFieldAddr 0 x0) m) fun x1 m=>
  bp (pur (aLoad false 1 x1 m) m) fun x2 m=>
  bp (G.tab Qhj [x2,p14,p12] m) fun x3 m=>
  bp (pur (aExtract x3 0) m) fun x4 m=>
  bp (pur (aExtract x3 1) m) fun x5 m=>
  bp (pur (bin .neq true true .int x5 (.int .i64 0)) m) fun x6 m=>
  brb x6
  (some (.tuple ⟨[(.int .i64 0),x5]⟩,m))
  (bp (pur (bin .sub true true .int p13 (.int .i64 1)) m) fun x7 m=>
  k0 x7 p0 p4 p1 p3 p2 x4 m)
def Q14w (G:Gt)(k0:V → V → V → V → V → V → V → M → R)(p3 p2 p13 p0 p14 p12 p4 p1:V)(m:M):R:=
  bp (pur (bin .sub true true .int p2 (.int .i64 1)) m) fun x8 m=>
  bp (pur (bin .sub false true .int x8 p13) m) fun x9 m=>
  bp (pur (bin .shr false true .int p3 x9) m) fun x10 m=>
  bp (pur (bin .and true true .int x10 (.int .u64 1)) m) fun x11 m=>
  bp (pur (bin .eql true true .int x11 (.int .u64 0)) m) fun x12 m=>
  brb x12
  (bp (pur (aNilCheck p0) m) fun x13 m=>
  bp (pur (aFieldAddr 0 x13) m) fun x14 m=>
  bp (pur (aLoad false 1 x14 m) m) fun x15 m=>
  bp (G.tab Qhk [x15,p14] m) fun x16 m=>
  bp (pur (aExtract x16 0) m) fun x17 m=>
  bp (pur (aExtract x16 1) m) fun x18 m=>
  bp (pur (bin .neq true true .int x18 (.int .i64 0)) m) fun x19 m=>
  brb x19
  (some (.tuple ⟨[(.int .i64 0),x18]⟩,m))
  (Qrl G k0 p0 x17 p12 p13 p4 p1 p3 p2 m))
  (Qrl G k0 p0 p14 p12 p13 p4 p1 p3 p2 m)
def Q14x (G:Gt)(k0:V → V → V → V → V → V → V → M → R)(p15 p3 p2 p13 p0 p14 p12 p4 p1:V)(m:M):R:=
  bp (pur (bin .neq true true .int p15 (.int .i64 0)) m) fun x20 m=>
  brb x20
  (some (.tuple ⟨[(.int .i64 0),p15]⟩,m))
  (Q14w G k0 p3 p2 p13 p0 p14 p12 p4 p1 m)
def Q14y (G:Gt)(k0:V → V → V → V → V → V → V → M → R)(p0 p4 p1 p13 p3 p2 p12:V)(m:M):R:=
  bp (pur (aNilCheck p0) m) fun x21 m=>
  bp (pur (aFieldAddr 0 x21) m) fun x22 m=>
  bp (pur (aLoad false 1 x22 m) m) fun x23 m=>
  bp (pur (bin .add false true .int p1 p13) m) fun x24 m=>
  bp (evCall G.tab p4 [x24] m) fun x25 m=>
  ckB (again (pur (aLoad false 1 x22 m) m) x23 && true)
  (bp (G.tab Q67 [x23,x25] m) fun x26 m=>
  bp (pur (aExtract x26 0) m) fun x27 m=>
  bp (pur (aExtract x26 1) m) fun x28 m=>
  Q14x G k0 x28 p3 p2 p13 p0 x27 p12 p4 p1 m)
def Q5j (G:Gt):Nat → V → V → V → V → V → V → V → M → R
 | 0,_,_,_,_,_,_,_,_=>none
 | i + 1,p13,p0,p4,p1,p3,p2,p12,m=>
  bp (pur (bin .geq true true .int p13 (.int .i64 0)) m) fun x29 m=>
  brb x29
  (Q14y G (Q5j G i) p0 p4 p1 p13 p3 p2 p12 m)
  (Q14v G p12 m)
def Q14z (G:Gt)(p13 p0 p4 p1 p3 p2 p12:V)(m:M):R:=
  Q5j G G.rds p13 p0 p4 p1 p3 p2 p12 m
def Q150 (G:Gt)(p2 p0 p4 p1 p3 p12:V)(m:M):R:=
  bp (pur (bin .sub true true .int p2 (.int .i64 1)) m) fun x30 m=>
  Q14z G x30 p0 p4 p1 p3 p2 p12 m
def Q151 (G:Gt)(p2 p0 p4 p1 p3:V)(m:M):R:=
  Q150 G p2 p0 p4 p1 p3 (.int .i64 1) m
def Qwz (G:Gt)(p2 p0 p4 p1 p3:V)(m:M):R:=
  Q151 G p2 p0 p4 p1 p3 m
theorem Q1lx (G:Gt)(a0 a1 a2 a3 a4:V)(m:M):ef G Tryz.f132 [a0,a1,a2,a3,a4] m = Qwz G a2 a0 a4 a1 a3 m:=
  evFn_of (r:=fun r m=>Qwz G (r 2) (r 0) (r 4) (r 1) (r 3) m) rfl rfl (tr (seqQ (f:=fun r m=>Q151 G (r 2) (r 0) (r 4) (r 1) (r 3) m) (tr (seqQ (f:=fun r m=>Q150 G (r 2) (r 0) (r 4) (r 1) (r 3) (r 12) m) (tr (tr (seqQ (f:=fun r m=>Q14v G (r 12) m) (fun r m=>by kernel_rfl)) (seqQ (f:=fun r m=>Q14z G (r 13) (r 0) (r 4) (r 1) (r 3) (r 2) (r 12) m) (tr (blockQ (loopQ (fun i r m=>Q5j G i (r 13) (r 0) (r 4) (r 1) (r 3) (r 2) (r 12) m) (fun _ _=>rfl) (fun i0=>tr (seqQ (f:=fun r m=>Q14y G (Q5j G i0) (r 0) (r 4) (r 1) (r 13) (r 3) (r 2) (r 12) m) (tr (tr seqD (blockQ (seqQ (f:=fun r m=>Q14x G (Q5j G i0) (r 15) (r 3) (r 2) (r 13) (r 0) (r 14) (r 12) (r 4) (r 1) m) (tr (seqQ (f:=fun r m=>Q14w G (Q5j G i0) (r 3) (r 2) (r 13) (r 0) (r 14) (r 12) (r 4) (r 1) m) (tr (seqQ (f:=fun r m=>Qrl G (Q5j G i0) (r 0) (r 14) (r 12) (r 13) (r 4) (r 1) (r 3) (r 2) m) (fun r m=>by kernel_rfl)) (fun r m=>by kernel_rfl))) (fun r m=>by kernel_rfl))))) (fun r m=>by kernel_rfl))) (fun r m=>by kernel_rfl)))) (fun r m=>by kernel_rfl)))) (fun r m=>by kernel_rfl))) (fun r m=>by kernel_rfl))) (fun r m=>by kernel_rfl)) m
def Q1l9:En:=⟨Q18n,Tryz.f132,Tryz.func132,by kernel_rfl,arg5 (fun G a0 a1 a2 a3 a4 m=>Qwz G a2 a0 a4 a1 a3 m),okarg5 Q1lx⟩
def Q1da (G:Gt)(m:M):R:=
  bp (pur (aBuild Qpt [(0,1),(1,1)] [(0,(.int .i64 0)),(1,(.int .i64 32))]) m) fun x0 m=>
  bp (pur (aBuild Qpt [(0,1),(1,1)] [(0,(.int .i64 32)),(1,(.int .i64 32))]) m) fun x1 m=>
  bp (pur (aBuild Qpt [(0,1),(1,1)] [(0,(.int .i64 64)),(1,(.int .i64 8))]) m) fun x2 m=>
  bp (pur (aBuild Qpt [(0,1),(1,1)] [(0,(.int .i64 72)),(1,(.int .i64 16))]) m) fun x3 m=>
  bp (pur (aBuild Qpt [(0,1),(1,1)] [(0,(.int .i64 88)),(1,(.int .i64 16))]) m) fun x4 m=>
  bp (aBuildSlice Q1o8 Qpt 2 5 [(0,x0),(1,x1),(2,x2),(3,x3),(4,x4)] m) fun x5 m=>
  some (x5,m)
theorem Q1tw (G:Gt)(m:M):ef G Tryz.f133 [] m = Q1da G m:=
  evFn_of (r:=fun r m=>Q1da G m) rfl rfl (fun r m=>by kernel_rfl) m
def Q1tp:En:=⟨Q1me,Tryz.f133,Tryz.func133,by kernel_rfl,arg0 (fun G  m=>Q1da G m),okarg0 Q1tw⟩
def Qrm (G:Gt)(p2 p1 p0:V)(m:M):R:=
  bp (pur (aLoad false 1 p2 m) m) fun x0 m=>
  bp (pur (aNilCheck x0) m) fun x1 m=>
  bp (pur (aFieldAddr 0 x1) m) fun x2 m=>
  bp (pur (aLoad false 1 x2 m) m) fun x3 m=>
  bp (G.tab Q2q [x3,p1,(.int .i64 0),p0] m) fun x4 m=>
  bp (pur (aExtract x4 0) m) fun x5 m=>
  bp (pur (aExtract x4 1) m) fun x6 m=>
  some (.tuple ⟨[x5,x6]⟩,m)
theorem Q1ii (G:Gt)(a0 a1 a2:V)(m:M):ef G Tryz.f134 [a0,a1,a2] m = Qrm G a2 a1 a0 m:=
  evFn_of (r:=fun r m=>Qrm G (r 2) (r 1) (r 0) m) rfl rfl (fun r m=>by kernel_rfl) m
def Q1i6:En:=⟨Q14m,Tryz.f134,Tryz.func134,by kernel_rfl,arg3 (fun G a0 a1 a2 m=>Qrm G a2 a1 a0 m),okarg3 Q1ii⟩
def Q99 (G:Gt)(m:M):R:=
  some ((.int .i64 (-1)),m)
def Q3s (G:Gt):Nat → V → V → V → V → M → R
 | 0,_,_,_,_,_=>none
 | i + 1,p8,p7,p1,p0,m=>
  bp (pur (bin .lss false true .int p8 p7) m) fun x0 m=>
  brb x0
  (bp (pur (aIndexAddrSl 11 p0 p8) m) fun x1 m=>
  bp (pur (aLoad true 11 x1 m) m) fun x2 m=>
  bp (evCall G.tab p1 [x2] m) fun x3 m=>
  brb x3
  (some (p8,m))
  (bp (pur (bin .add true true .int p8 (.int .i64 1)) m) fun x4 m=>
  (Q3s G i) x4 p7 p1 p0 m))
  (Q99 G m)
def Q9a (G:Gt)(p8 p7 p1 p0:V)(m:M):R:=
  Q3s G G.rds p8 p7 p1 p0 m
def Q9b (G:Gt)(p0 p1:V)(m:M):R:=
  bp (pur (lenK 1 p0 m) m) fun x5 m=>
  Q9a G (.int .i64 0) x5 p1 p0 m
def Q4i (G:Gt)(p0 p1:V)(m:M):R:=
  Q9b G p0 p1 m
theorem Qnt (G:Gt)(a0 a1:V)(m:M):ef G Tryz.f135 [a0,a1] m = Q4i G a0 a1 m:=
  evFn_of (r:=fun r m=>Q4i G (r 0) (r 1) m) rfl rfl (tr (seqQ (f:=fun r m=>Q9b G (r 0) (r 1) m) (tr (tr (seqQ (f:=fun r m=>Q99 G m) (fun r m=>by kernel_rfl)) (seqQ (f:=fun r m=>Q9a G (r 8) (r 7) (r 1) (r 0) m) (tr (blockQ (loopQ (fun i r m=>Q3s G i (r 8) (r 7) (r 1) (r 0) m) (fun _ _=>rfl) (fun i0=>fun r m=>by kernel_rfl))) (fun r m=>by kernel_rfl)))) (fun r m=>by kernel_rfl))) (fun r m=>by kernel_rfl)) m
def Qnc:En:=⟨Q4e,Tryz.f135,Tryz.func135,by kernel_rfl,arg2 Q4i,okarg2 Qnt⟩
def Qjm (G:Gt)(p0 p1:V)(m:M):R:=
  bp (some (aNew Q1r (Value.cells p0).toList m)) fun x0 m=>
  bp (pur (aFieldAddr 0 x0) m) fun x1 m=>
  bp (pur (aLoad false 1 x1 m) m) fun x2 m=>
  bp (pur (aFieldAddr 0 p1) m) fun x3 m=>
  bp (pur (aLoad false 1 x3 m) m) fun x4 m=>
  bp (pur (bin .eql false true .str x2 x4) m) fun x5 m=>
  some (x5,m)
theorem Q1bs (G:Gt)(a0 a1:V)(m:M):ef G Tryz.f136 [a0,a1] m = Qjm G a0 a1 m:=
  evFn_of (r:=fun r m=>Qjm G (r 0) (r 1) m) rfl rfl (fun r m=>by kernel_rfl) m
def Q1bj:En:=⟨Qvu,Tryz.f136,Tryz.func136,by kernel_rfl,arg2 Qjm,okarg2 Q1bs⟩
def Qrn (G:Gt)(p1 p0:V)(m:M):R:=
  bp (some (aNew Qw (Value.cells p1).toList m)) fun x0 m=>
  bp (pur (aLoad true 2 x0 m) m) fun x1 m=>
  bp (G.tab Q1at [p0,x1] m) fun x2 m=>
  bp (pur (bin .neq true true .int x2 (.int .i64 0)) m) fun x3 m=>
  brb x3
  (some (.tuple ⟨[(.slice none 0 0),x2]⟩,m))
  (bp (pur (aNilCheck p0) m) fun x4 m=>
  bp (pur (aFieldAddr 1 x4) m) fun x5 m=>
  bp (pur (aLoad false 1 x5 m) m) fun x6 m=>
  bp (pur (aLoad true 2 x0 m) m) fun x7 m=>
  bp (pur (aLookup (.struct [(0,1,false,.int),(1,1,false,.int)]) (.slice none 0 0) false x6 x7 m) m) fun x8 m=>
  bp (G.tab Q5v [x8] m) fun x9 m=>
  some (.tuple ⟨[x9,(.int .i64 0)]⟩,m))
theorem Q1ij (G:Gt)(a0 a1:V)(m:M):ef G Tryz.f137 [a0,a1] m = Qrn G a1 a0 m:=
  evFn_of (r:=fun r m=>Qrn G (r 1) (r 0) m) rfl rfl (fun r m=>by kernel_rfl) m
def Q1hz:En:=⟨Q14r,Tryz.f137,Tryz.func137,by kernel_rfl,arg2 (fun G a0 a1 m=>Qrn G a1 a0 m),okarg2 Q1ij⟩
end
end Go.Ab.Sh
