/-
  Functions of the program as plain definitions. No conditions.
-/
import Derived.Test.YthlpkjlpdmfgiaaGreatDoorAb5
import Derived.Test.YthlpkjlpdmfgiaaGreatDoorZ
import Derived.KernelRfl
import Derived.Test.YthlpkjlpdmfgiaaGreatDoorProg
set_option linter.unusedVariables false
set_option maxRecDepth 100000
namespace Go.Ab.Sh
open Go Go.Ab Go.Proofs
noncomputable section
def Q16o (G:Gt)(p13:V)(m:M):R:=
  bp (G.tab Qpy [p13,(.func (.func Q16p) #[] #[])] m) fun x0 m=>
  some (.tuple ⟨[p13,(.int .i64 0),(.int .i64 0)]⟩,m)
def Q140 (G:Gt)(k0:V → V → V → V → V → V → V → V → M → R)(p16 p14 p13 p15 p49 p48 p47 p9 p10 p11 p12:V)(m:M):R:=
  brb p16
  (some (.tuple ⟨[(.slice none 0 0),p14,(.int .i64 121)]⟩,m))
  (bp (pur (aLoad true 12 p15 m) m) fun x1 m=>
  bp (G.tab Q1jm [x1] m) fun x2 m=>
  bp (aBuildSlice Qx Q1b 12 1 [(0,x2)] m) fun x3 m=>
  bp (apS Qx 12 264 p13 x3 m) fun x4 m=>
  bp (pur (bin .add true true .int p49 (.int .i64 1)) m) fun x5 m=>
  k0 x5 p48 p47 p9 p10 p11 p12 x4 m)
def Qqt (G:Gt)(k1:V → V → V → V → V → V → V → V → V → V → V → V → V → V → M → R)(p111 p110 p109 p12 p16 p14 p13 p15 p49 p48 p47 p9 p10 p11:V)(m:M):R:=
  bp (pur (bin .add true true .int p111 (.int .i64 1)) m) fun x6 m=>
  k1 x6 p110 p109 p12 p16 p14 p13 p15 p49 p48 p47 p9 p10 p11 m
def Q141 (G:Gt)(k1:V → V → V → V → V → V → V → V → V → V → V → V → V → V → M → R)(p109 p111 p12 p16 p110 p14 p13 p15 p49 p48 p47 p9 p10 p11:V)(m:M):R:=
  bp (pur (aIndexAddrSl 6 p109 p111) m) fun x7 m=>
  bp (pur (aLoad true 6 x7 m) m) fun x8 m=>
  bp (some (aNew Qtu Q10t m)) fun x9 m=>
  bp (unt (aStore 6 x9 x8 m)) fun _ m=>
  bp (pur (aFieldAddr 2 x9) m) fun x10 m=>
  bp (pur (aLoad false 1 x10 m) m) fun x11 m=>
  bp (pur (aLookup .int (.int .i64 0) false p12 x11 m) m) fun x12 m=>
  bp (pur (bin .add true true .int x12 (.int .i64 1)) m) fun x13 m=>
  bp (unt (aMapUpdate .int p12 x11 x13 m)) fun _ m=>
  brb p16
  (Qqt G k1 p111 p110 p109 p12 (.bool true) p14 p13 p15 p49 p48 p47 p9 p10 p11 m)
  (bp (pur (aFieldAddr 2 x9) m) fun x14 m=>
  bp (pur (aLoad false 1 x14 m) m) fun x15 m=>
  bp (pur (aLookup .int (.int .i64 0) false p12 x15 m) m) fun x16 m=>
  bp (pur (bin .gtr true true .int x16 (.int .i64 1)) m) fun x17 m=>
  Qqt G k1 p111 p110 p109 p12 x17 p14 p13 p15 p49 p48 p47 p9 p10 p11 m)
def Q142 (G:Gt)(k1:V → V → V → V → V → V → V → V → V → V → V → V → V → V → M → R)(k0:V → V → V → V → V → V → V → V → M → R)(p112 p109 p111 p12 p16 p110 p14 p13 p15 p49 p48 p47 p9 p10 p11:V)(m:M):R:=
  brb p112
  (Q141 G k1 p109 p111 p12 p16 p110 p14 p13 p15 p49 p48 p47 p9 p10 p11 m)
  (Q140 G k0 p16 p14 p13 p15 p49 p48 p47 p9 p10 p11 p12 m)
def Q7t (G:Gt)(k0:V → V → V → V → V → V → V → V → M → R):Nat → V → V → V → V → V → V → V → V → V → V → V → V → V → V → M → R
 | 0,_,_,_,_,_,_,_,_,_,_,_,_,_,_,_=>none
 | i + 1,p111,p110,p109,p12,p16,p14,p13,p15,p49,p48,p47,p9,p10,p11,m=>
  bp (pur (bin .lss false true .int p111 p110) m) fun x18 m=>
  Q142 G (Q7t G k0 i) k0 x18 p109 p111 p12 p16 p110 p14 p13 p15 p49 p48 p47 p9 p10 p11 m
def Q143 (G:Gt)(k0:V → V → V → V → V → V → V → V → M → R)(p111 p110 p109 p12 p16 p14 p13 p15 p49 p48 p47 p9 p10 p11:V)(m:M):R:=
  Q7t G k0 G.rds p111 p110 p109 p12 p16 p14 p13 p15 p49 p48 p47 p9 p10 p11 m
def Q144 (G:Gt)(k0:V → V → V → V → V → V → V → V → M → R)(p15 p12 p16 p14 p13 p49 p48 p47 p9 p10 p11:V)(m:M):R:=
  bp (pur (aFieldAddr 11 p15) m) fun x19 m=>
  bp (pur (aLoad false 1 x19 m) m) fun x20 m=>
  bp (pur (lenK 1 x20 m) m) fun x21 m=>
  Q143 G k0 (.int .i64 0) x21 x20 p12 p16 p14 p13 p15 p49 p48 p47 p9 p10 p11 m
def Qqu (G:Gt)(k1:V → V → V → V → V → V → V → V → V → V → V → V → V → V → M → R)(p90 p89 p88 p11 p16 p15 p12 p14 p13 p49 p48 p47 p9 p10:V)(m:M):R:=
  bp (pur (bin .add true true .int p90 (.int .i64 1)) m) fun x22 m=>
  k1 x22 p89 p88 p11 p16 p15 p12 p14 p13 p49 p48 p47 p9 p10 m
def Q145 (G:Gt)(k1:V → V → V → V → V → V → V → V → V → V → V → V → V → V → M → R)(p88 p90 p11 p16 p89 p15 p12 p14 p13 p49 p48 p47 p9 p10:V)(m:M):R:=
  bp (pur (aIndexAddrSl 3 p88 p90) m) fun x23 m=>
  bp (pur (aLoad true 3 x23 m) m) fun x24 m=>
  bp (some (aNew Qv0 Q12t m)) fun x25 m=>
  bp (unt (aStore 3 x25 x24 m)) fun _ m=>
  bp (pur (aFieldAddr 1 x25) m) fun x26 m=>
  bp (pur (aLoad false 1 x26 m) m) fun x27 m=>
  bp (pur (aLookup .int (.int .i64 0) false p11 x27 m) m) fun x28 m=>
  bp (pur (bin .add true true .int x28 (.int .i64 1)) m) fun x29 m=>
  bp (unt (aMapUpdate .int p11 x27 x29 m)) fun _ m=>
  brb p16
  (Qqu G k1 p90 p89 p88 p11 (.bool true) p15 p12 p14 p13 p49 p48 p47 p9 p10 m)
  (bp (pur (aFieldAddr 1 x25) m) fun x30 m=>
  bp (pur (aLoad false 1 x30 m) m) fun x31 m=>
  bp (pur (aLookup .int (.int .i64 0) false p11 x31 m) m) fun x32 m=>
  bp (pur (bin .gtr true true .int x32 (.int .i64 1)) m) fun x33 m=>
  Qqu G k1 p90 p89 p88 p11 x33 p15 p12 p14 p13 p49 p48 p47 p9 p10 m)
def Q146 (G:Gt)(k1:V → V → V → V → V → V → V → V → V → V → V → V → V → V → M → R)(k0:V → V → V → V → V → V → V → V → M → R)(p91 p88 p90 p11 p16 p89 p15 p12 p14 p13 p49 p48 p47 p9 p10:V)(m:M):R:=
  brb p91
  (Q145 G k1 p88 p90 p11 p16 p89 p15 p12 p14 p13 p49 p48 p47 p9 p10 m)
  (Q144 G k0 p15 p12 p16 p14 p13 p49 p48 p47 p9 p10 p11 m)
def Q7u (G:Gt)(k0:V → V → V → V → V → V → V → V → M → R):Nat → V → V → V → V → V → V → V → V → V → V → V → V → V → V → M → R
 | 0,_,_,_,_,_,_,_,_,_,_,_,_,_,_,_=>none
 | i + 1,p90,p89,p88,p11,p16,p15,p12,p14,p13,p49,p48,p47,p9,p10,m=>
  bp (pur (bin .lss false true .int p90 p89) m) fun x34 m=>
  Q146 G (Q7u G k0 i) k0 x34 p88 p90 p11 p16 p89 p15 p12 p14 p13 p49 p48 p47 p9 p10 m
def Q147 (G:Gt)(k0:V → V → V → V → V → V → V → V → M → R)(p90 p89 p88 p11 p16 p15 p12 p14 p13 p49 p48 p47 p9 p10:V)(m:M):R:=
  Q7u G k0 G.rds p90 p89 p88 p11 p16 p15 p12 p14 p13 p49 p48 p47 p9 p10 m
def Q148 (G:Gt)(k0:V → V → V → V → V → V → V → V → M → R)(p15 p11 p16 p12 p14 p13 p49 p48 p47 p9 p10:V)(m:M):R:=
  bp (pur (aFieldAddr 10 p15) m) fun x35 m=>
  bp (pur (aLoad false 1 x35 m) m) fun x36 m=>
  bp (pur (lenK 1 x36 m) m) fun x37 m=>
  Q147 G k0 (.int .i64 0) x37 x36 p11 p16 p15 p12 p14 p13 p49 p48 p47 p9 p10 m
def Qin (G:Gt)(k1:V → V → V → V → V → V → V → V → V → V → V → V → V → V → M → R)(p67 p66 p65 p10 p16 p15 p11 p12 p14 p13 p49 p48 p47 p9:V)(m:M):R:=
  bp (pur (bin .add true true .int p67 (.int .i64 1)) m) fun x38 m=>
  k1 x38 p66 p65 p10 p16 p15 p11 p12 p14 p13 p49 p48 p47 p9 m
def Q149 (G:Gt)(k1:V → V → V → V → V → V → V → V → V → V → V → V → V → V → M → R)(p65 p67 p10 p16 p66 p15 p11 p12 p14 p13 p49 p48 p47 p9:V)(m:M):R:=
  bp (pur (aIndexAddrSl 11 p65 p67) m) fun x39 m=>
  bp (pur (aLoad true 11 x39 m) m) fun x40 m=>
  bp (some (aNew Q1r Q7y m)) fun x41 m=>
  bp (unt (aStore 11 x41 x40 m)) fun _ m=>
  bp (pur (aLoad true 11 x41 m) m) fun x42 m=>
  bp (G.tab Q1gk [x42] m) fun x43 m=>
  brb x43
  (bp (pur (aFieldAddr 2 x41) m) fun x44 m=>
  bp (pur (aLoad false 1 x44 m) m) fun x45 m=>
  bp (pur (aLookup .int (.int .i64 0) false p10 x45 m) m) fun x46 m=>
  bp (pur (bin .add true true .int x46 (.int .i64 1)) m) fun x47 m=>
  bp (unt (aMapUpdate .int p10 x45 x47 m)) fun _ m=>
  brb p16
  (Qin G k1 p67 p66 p65 p10 (.bool true) p15 p11 p12 p14 p13 p49 p48 p47 p9 m)
  (bp (pur (aFieldAddr 2 x41) m) fun x48 m=>
  bp (pur (aLoad false 1 x48 m) m) fun x49 m=>
  bp (pur (aLookup .int (.int .i64 0) false p10 x49 m) m) fun x50 m=>
  bp (pur (bin .gtr true true .int x50 (.int .i64 1)) m) fun x51 m=>
  Qin G k1 p67 p66 p65 p10 x51 p15 p11 p12 p14 p13 p49 p48 p47 p9 m))
  (Qin G k1 p67 p66 p65 p10 p16 p15 p11 p12 p14 p13 p49 p48 p47 p9 m)
def Q14a (G:Gt)(k1:V → V → V → V → V → V → V → V → V → V → V → V → V → V → M → R)(k0:V → V → V → V → V → V → V → V → M → R)(p68 p65 p67 p10 p16 p66 p15 p11 p12 p14 p13 p49 p48 p47 p9:V)(m:M):R:=
  brb p68
  (Q149 G k1 p65 p67 p10 p16 p66 p15 p11 p12 p14 p13 p49 p48 p47 p9 m)
  (Q148 G k0 p15 p11 p16 p12 p14 p13 p49 p48 p47 p9 p10 m)
def Q7v (G:Gt)(k0:V → V → V → V → V → V → V → V → M → R):Nat → V → V → V → V → V → V → V → V → V → V → V → V → V → V → M → R
 | 0,_,_,_,_,_,_,_,_,_,_,_,_,_,_,_=>none
 | i + 1,p67,p66,p65,p10,p16,p15,p11,p12,p14,p13,p49,p48,p47,p9,m=>
  bp (pur (bin .lss false true .int p67 p66) m) fun x52 m=>
  Q14a G (Q7v G k0 i) k0 x52 p65 p67 p10 p16 p66 p15 p11 p12 p14 p13 p49 p48 p47 p9 m
def Q14b (G:Gt)(k0:V → V → V → V → V → V → V → V → M → R)(p67 p66 p65 p10 p16 p15 p11 p12 p14 p13 p49 p48 p47 p9:V)(m:M):R:=
  Q7v G k0 G.rds p67 p66 p65 p10 p16 p15 p11 p12 p14 p13 p49 p48 p47 p9 m
def Q14c (G:Gt)(k0:V → V → V → V → V → V → V → V → M → R)(p15 p10 p16 p11 p12 p14 p13 p49 p48 p47 p9:V)(m:M):R:=
  bp (pur (aFieldAddr 3 p15) m) fun x53 m=>
  bp (pur (aLoad false 1 x53 m) m) fun x54 m=>
  bp (pur (lenK 1 x54 m) m) fun x55 m=>
  Q14b G k0 (.int .i64 0) x55 x54 p10 p16 p15 p11 p12 p14 p13 p49 p48 p47 p9 m
def Q14d (G:Gt)(k0:V → V → V → V → V → V → V → V → M → R)(p9 p15 p10 p11 p12 p14 p13 p49 p48 p47:V)(m:M):R:=
  bp (pur (aFieldAddr 0 p15) m) fun x56 m=>
  bp (pur (aLoad false 1 x56 m) m) fun x57 m=>
  bp (pur (aLookup .str (.int .i64 0) false p9 x57 m) m) fun x58 m=>
  bp (pur (bin .gtr true true .int x58 (.int .i64 1)) m) fun x59 m=>
  Q14c G k0 p15 p10 x59 p11 p12 p14 p13 p49 p48 p47 p9 m
def Q14e (G:Gt)(k0:V → V → V → V → V → V → V → V → M → R)(p9 p15 p10 p11 p12 p14 p13 p49 p48 p47:V)(m:M):R:=
  bp (pur (aFieldAddr 0 p15) m) fun x60 m=>
  bp (pur (aLoad false 1 x60 m) m) fun x61 m=>
  bp (pur (aLookup .str (.int .i64 0) false p9 x61 m) m) fun x62 m=>
  bp (pur (bin .add true true .int x62 (.int .i64 1)) m) fun x63 m=>
  bp (unt (aMapUpdate .str p9 x61 x63 m)) fun _ m=>
  Q14d G k0 p9 p15 p10 p11 p12 p14 p13 p49 p48 p47 m
def Q16q (G:Gt)(k0:V → V → V → V → V → V → V → V → M → R)(p49 p47 p9 p10 p11 p12 p13 p48:V)(m:M):R:=
  bp (pur (aIndexAddrSl 12 p47 p49) m) fun x64 m=>
  bp (pur (aLoad true 12 x64 m) m) fun x65 m=>
  bp (some (aNew Qx Q1b m)) fun x66 m=>
  bp (unt (aStore 12 x66 x65 m)) fun _ m=>
  Q14e G k0 p9 x66 p10 p11 p12 p49 p13 p49 p48 p47 m
def Q16r (G:Gt)(k0:V → V → V → V → V → V → V → V → M → R)(p50 p49 p47 p9 p10 p11 p12 p13 p48:V)(m:M):R:=
  brb p50
  (Q16q G k0 p49 p47 p9 p10 p11 p12 p13 p48 m)
  (Q16o G p13 m)
def Q2 (G:Gt):Nat → V → V → V → V → V → V → V → V → M → R
 | 0,_,_,_,_,_,_,_,_,_=>none
 | i + 1,p49,p48,p47,p9,p10,p11,p12,p13,m=>
  bp (pur (bin .lss false true .int p49 p48) m) fun x67 m=>
  Q16r G (Q2 G i) x67 p49 p47 p9 p10 p11 p12 p13 p48 m
def Q16s (G:Gt)(p49 p48 p47 p9 p10 p11 p12 p13:V)(m:M):R:=
  Q2 G G.rds p49 p48 p47 p9 p10 p11 p12 p13 m
def Q16t (G:Gt)(p0 p9 p10 p11 p12 p13:V)(m:M):R:=
  bp (pur (lenK 1 p0 m) m) fun x68 m=>
  Q16s G (.int .i64 0) x68 p0 p9 p10 p11 p12 p13 m
def Q16u (G:Gt)(p0 p9 p10 p11 p12:V)(m:M):R:=
  Q16t G p0 p9 p10 p11 p12 (.slice none 0 0) m
def Q16v (G:Gt)(p0:V)(m:M):R:=
  bp (some (aMakeMap m)) fun x69 m=>
  bp (some (aMakeMap m)) fun x70 m=>
  bp (some (aMakeMap m)) fun x71 m=>
  bp (some (aMakeMap m)) fun x72 m=>
  Q16u G p0 x69 x70 x71 x72 m
def Qqv (G:Gt):Nat → V → V → V → V → M → R
 | 0,_,_,_,_,_=>none
 | i + 1,p28,p27,p26,p0,m=>
  bp (pur (bin .lss false true .int p28 p27) m) fun x73 m=>
  brb x73
  (bp (pur (aIndexAddrSl 12 p26 p28) m) fun x74 m=>
  bp (pur (aLoad true 12 x74 m) m) fun x75 m=>
  bp (some (aNew Qx Q1b m)) fun x76 m=>
  bp (unt (aStore 12 x76 x75 m)) fun _ m=>
  bp (pur (aLoad true 12 x76 m) m) fun x77 m=>
  bp (G.tab Q1gl [x77] m) fun x78 m=>
  bp (pur (aExtract x78 0) m) fun x79 m=>
  bp (pur (aExtract x78 1) m) fun x80 m=>
  bp (pur (bin .neq true true .int x80 (.int .i64 0)) m) fun x81 m=>
  brb x81
  (some (.tuple ⟨[(.slice none 0 0),p28,x80]⟩,m))
  (bp (pur (bin .add true true .int p28 (.int .i64 1)) m) fun x82 m=>
  (Qqv G i) x82 p27 p26 p0 m))
  (Q16v G p0 m)
def Q14f (G:Gt)(p28 p27 p26 p0:V)(m:M):R:=
  Qqv G G.rds p28 p27 p26 p0 m
def Q16w (G:Gt)(p0:V)(m:M):R:=
  bp (pur (lenK 1 p0 m) m) fun x83 m=>
  Q14f G (.int .i64 0) x83 p0 p0 m
def Q16x (G:Gt)(p0:V)(m:M):R:=
  bp (pur (lenK 1 p0 m) m) fun x84 m=>
  bp (pur (bin .gtr true true .int x84 (.int .i64 32)) m) fun x85 m=>
  brb x85
  (some (.tuple ⟨[(.slice none 0 0),(.int .i64 32),(.int .i64 121)]⟩,m))
  (Q16w G p0 m)
def Q101 (G:Gt)(p0:V)(m:M):R:=
  Q16x G p0 m
theorem Q1mx (G:Gt)(a0:V)(m:M):ef G Tryz.f49 [a0] m = Q101 G a0 m:=
  evFn_of (r:=fun r m=>Q101 G (r 0) m) rfl rfl (tr (seqQ (f:=fun r m=>Q16x G (r 0) m) (tr (seqQ (f:=fun r m=>Q16w G (r 0) m) (tr (tr (seqQ (f:=fun r m=>Q16v G (r 0) m) (tr (seqQ (f:=fun r m=>Q16u G (r 0) (r 9) (r 10) (r 11) (r 12) m) (tr (seqQ (f:=fun r m=>Q16t G (r 0) (r 9) (r 10) (r 11) (r 12) (r 13) m) (tr (tr (seqQ (f:=fun r m=>Q16o G (r 13) m) (fun r m=>by kernel_rfl)) (seqQ (f:=fun r m=>Q16s G (r 49) (r 48) (r 47) (r 9) (r 10) (r 11) (r 12) (r 13) m) (tr (blockQ (loopQ (fun i r m=>Q2 G i (r 49) (r 48) (r 47) (r 9) (r 10) (r 11) (r 12) (r 13) m) (fun _ _=>rfl) (fun i0=>tr (seqQ (f:=fun r m=>Q16r G (Q2 G i0) (r 50) (r 49) (r 47) (r 9) (r 10) (r 11) (r 12) (r 13) (r 48) m) (tr (seqQ (f:=fun r m=>Q16q G (Q2 G i0) (r 49) (r 47) (r 9) (r 10) (r 11) (r 12) (r 13) (r 48) m) (tr (tr seqD (blockQ (seqQ (f:=fun r m=>Q14e G (Q2 G i0) (r 9) (r 15) (r 10) (r 11) (r 12) (r 14) (r 13) (r 49) (r 48) (r 47) m) (tr (seqQ (f:=fun r m=>Q14d G (Q2 G i0) (r 9) (r 15) (r 10) (r 11) (r 12) (r 14) (r 13) (r 49) (r 48) (r 47) m) (tr (seqQ (f:=fun r m=>Q14c G (Q2 G i0) (r 15) (r 10) (r 16) (r 11) (r 12) (r 14) (r 13) (r 49) (r 48) (r 47) (r 9) m) (tr (tr (seqQ (f:=fun r m=>Q148 G (Q2 G i0) (r 15) (r 11) (r 16) (r 12) (r 14) (r 13) (r 49) (r 48) (r 47) (r 9) (r 10) m) (tr (tr (seqQ (f:=fun r m=>Q144 G (Q2 G i0) (r 15) (r 12) (r 16) (r 14) (r 13) (r 49) (r 48) (r 47) (r 9) (r 10) (r 11) m) (tr (tr (seqQ (f:=fun r m=>Q140 G (Q2 G i0) (r 16) (r 14) (r 13) (r 15) (r 49) (r 48) (r 47) (r 9) (r 10) (r 11) (r 12) m) (fun r m=>by kernel_rfl)) (seqQ (f:=fun r m=>Q143 G (Q2 G i0) (r 111) (r 110) (r 109) (r 12) (r 16) (r 14) (r 13) (r 15) (r 49) (r 48) (r 47) (r 9) (r 10) (r 11) m) (tr (blockQ (loopQ (fun i r m=>Q7t G (Q2 G i0) i (r 111) (r 110) (r 109) (r 12) (r 16) (r 14) (r 13) (r 15) (r 49) (r 48) (r 47) (r 9) (r 10) (r 11) m) (fun _ _=>rfl) (fun i1=>tr (seqQ (f:=fun r m=>Q142 G (Q7t G (Q2 G i0) i1) (Q2 G i0) (r 112) (r 109) (r 111) (r 12) (r 16) (r 110) (r 14) (r 13) (r 15) (r 49) (r 48) (r 47) (r 9) (r 10) (r 11) m) (tr (seqQ (f:=fun r m=>Q141 G (Q7t G (Q2 G i0) i1) (r 109) (r 111) (r 12) (r 16) (r 110) (r 14) (r 13) (r 15) (r 49) (r 48) (r 47) (r 9) (r 10) (r 11) m) (tr (seqQ (f:=fun r m=>Qqt G (Q7t G (Q2 G i0) i1) (r 111) (r 110) (r 109) (r 12) (r 16) (r 14) (r 13) (r 15) (r 49) (r 48) (r 47) (r 9) (r 10) (r 11) m) (fun r m=>by kernel_rfl)) (fun r m=>by kernel_rfl))) (fun r m=>by kernel_rfl))) (fun r m=>by kernel_rfl)))) (fun r m=>by kernel_rfl)))) (fun r m=>by kernel_rfl))) (seqQ (f:=fun r m=>Q147 G (Q2 G i0) (r 90) (r 89) (r 88) (r 11) (r 16) (r 15) (r 12) (r 14) (r 13) (r 49) (r 48) (r 47) (r 9) (r 10) m) (tr (blockQ (loopQ (fun i r m=>Q7u G (Q2 G i0) i (r 90) (r 89) (r 88) (r 11) (r 16) (r 15) (r 12) (r 14) (r 13) (r 49) (r 48) (r 47) (r 9) (r 10) m) (fun _ _=>rfl) (fun i1=>tr (seqQ (f:=fun r m=>Q146 G (Q7u G (Q2 G i0) i1) (Q2 G i0) (r 91) (r 88) (r 90) (r 11) (r 16) (r 89) (r 15) (r 12) (r 14) (r 13) (r 49) (r 48) (r 47) (r 9) (r 10) m) (tr (seqQ (f:=fun r m=>Q145 G (Q7u G (Q2 G i0) i1) (r 88) (r 90) (r 11) (r 16) (r 89) (r 15) (r 12) (r 14) (r 13) (r 49) (r 48) (r 47) (r 9) (r 10) m) (tr (seqQ (f:=fun r m=>Qqu G (Q7u G (Q2 G i0) i1) (r 90) (r 89) (r 88) (r 11) (r 16) (r 15) (r 12) (r 14) (r 13) (r 49) (r 48) (r 47) (r 9) (r 10) m) (fun r m=>by kernel_rfl)) (fun r m=>by kernel_rfl))) (fun r m=>by kernel_rfl))) (fun r m=>by kernel_rfl)))) (fun r m=>by kernel_rfl)))) (fun r m=>by kernel_rfl))) (seqQ (f:=fun r m=>Q14b G (Q2 G i0) (r 67) (r 66) (r 65) (r 10) (r 16) (r 15) (r 11) (r 12) (r 14) (r 13) (r 49) (r 48) (r 47) (r 9) m) (tr (blockQ (loopQ (fun i r m=>Q7v G (Q2 G i0) i (r 67) (r 66) (r 65) (r 10) (r 16) (r 15) (r 11) (r 12) (r 14) (r 13) (r 49) (r 48) (r 47) (r 9) m) (fun _ _=>rfl) (fun i1=>tr (seqQ (f:=fun r m=>Q14a G (Q7v G (Q2 G i0) i1) (Q2 G i0) (r 68) (r 65) (r 67) (r 10) (r 16) (r 66) (r 15) (r 11) (r 12) (r 14) (r 13) (r 49) (r 48) (r 47) (r 9) m) (tr (seqQ (f:=fun r m=>Q149 G (Q7v G (Q2 G i0) i1) (r 65) (r 67) (r 10) (r 16) (r 66) (r 15) (r 11) (r 12) (r 14) (r 13) (r 49) (r 48) (r 47) (r 9) m) (tr (seqQ (f:=fun r m=>Qin G (Q7v G (Q2 G i0) i1) (r 67) (r 66) (r 65) (r 10) (r 16) (r 15) (r 11) (r 12) (r 14) (r 13) (r 49) (r 48) (r 47) (r 9) m) (fun r m=>by kernel_rfl)) (fun r m=>by kernel_rfl))) (fun r m=>by kernel_rfl))) (fun r m=>by kernel_rfl)))) (fun r m=>by kernel_rfl)))) (fun r m=>by kernel_rfl))) (fun r m=>by kernel_rfl))) (fun r m=>by kernel_rfl))))) (fun r m=>by kernel_rfl))) (fun r m=>by kernel_rfl))) (fun r m=>by kernel_rfl)))) (fun r m=>by kernel_rfl)))) (fun r m=>by kernel_rfl))) (fun r m=>by kernel_rfl))) (fun r m=>by kernel_rfl))) (seqQ (f:=fun r m=>Q14f G (r 28) (r 27) (r 26) (r 0) m) (tr (blockQ (loopQ (fun i r m=>Qqv G i (r 28) (r 27) (r 26) (r 0) m) (fun _ _=>rfl) (fun i0=>fun r m=>by kernel_rfl))) (fun r m=>by kernel_rfl)))) (fun r m=>by kernel_rfl))) (fun r m=>by kernel_rfl))) (fun r m=>by kernel_rfl)) m
def Q1mq:En:=⟨Q102,Tryz.f49,Tryz.func49,by kernel_rfl,arg1 Q101,okarg1 Q1mx⟩
def Q15e (G:Gt)(p2:V)(m:M):R:=
  some (p2,m)
def Q1e5 (G:Gt)(p1:V)(m:M):R:=
  bp (pur (aFieldAddr 4 p1) m) fun x0 m=>
  bp (pur (aLoad false 1 x0 m) m) fun x1 m=>
  bp (pur (un .not x1) m) fun x2 m=>
  brb x2
  (bp (pur (aFieldAddr 3 p1) m) fun x3 m=>
  bp (pur (aLoad false 1 x3 m) m) fun x4 m=>
  bp (pur (bin .gtr true true .int x4 (.int .i64 0)) m) fun x5 m=>
  Q15e G x5 m)
  (Q15e G (.bool false) m)
def Q1a4 (G:Gt)(p0:V)(m:M):R:=
  bp (some (aNew Q1r (Value.cells p0).toList m)) fun x6 m=>
  Q1e5 G x6 m
theorem Q1sg (G:Gt)(a0:V)(m:M):ef G Tryz.f50 [a0] m = Q1a4 G a0 m:=
  evFn_of (r:=fun r m=>Q1a4 G (r 0) m) rfl rfl (tr (seqQ (f:=fun r m=>Q1e5 G (r 1) m) (tr (seqQ (f:=fun r m=>Q15e G (r 2) m) (fun r m=>by kernel_rfl)) (fun r m=>by kernel_rfl))) (fun r m=>by kernel_rfl)) m
def Q1se:En:=⟨Qt7,Tryz.f50,Tryz.func50,by kernel_rfl,arg1 Q1a4,okarg1 Q1sg⟩
def Q17q (G:Gt)(p0:V)(m:M):R:=
  bp (some (aNew Q1r (Value.cells p0).toList m)) fun x0 m=>
  bp (some (aNew Q66 Q2p m)) fun x1 m=>
  bp (pur (aFieldAddr 3 x0) m) fun x2 m=>
  bp (pur (aLoad false 1 x2 m) m) fun x3 m=>
  bp (pur (bin .eql true true .int x3 (.int .i64 0)) m) fun x4 m=>
  brb x4
  (bp (pur (aBuild Q2p [(0,1),(1,1)] []) m) fun x5 m=>
  bp (unt (aStore 2 x1 x5 m)) fun _ m=>
  ob (ob (aLoad true 2 x1 m) fun v=>ob (some []) fun l=>some (v :: l)) fun l=>some (resVal l,m))
  (bp (pur (aFieldAddr 2 x0) m) fun x6 m=>
  bp (pur (aLoad false 1 x6 m) m) fun x7 m=>
  bp (pur (aFieldAddr 3 x0) m) fun x8 m=>
  bp (pur (aLoad false 1 x8 m) m) fun x9 m=>
  bp (G.tab Q1gm [x7,x9] m) fun x10 m=>
  bp (pur (aExtract x10 0) m) fun x11 m=>
  bp (pur (aExtract x10 1) m) fun x12 m=>
  bp (some (aNew Q66 Q2p m)) fun x13 m=>
  bp (unt (aStore 2 x13 x11 m)) fun _ m=>
  bp (pur (aLoad true 2 x13 m) m) fun x14 m=>
  bp (unt (aStore 2 x1 x14 m)) fun _ m=>
  ob (ob (aLoad true 2 x1 m) fun v=>ob (some []) fun l=>some (v :: l)) fun l=>some (resVal l,m))
theorem Q1r3 (G:Gt)(a0:V)(m:M):ef G Tryz.f51 [a0] m = Q17q G a0 m:=
  evFn_of (r:=fun r m=>Q17q G (r 0) m) rfl rfl (fun r m=>by kernel_rfl) m
def Q1qw:En:=⟨Q1gn,Tryz.f51,Tryz.func51,by kernel_rfl,arg1 Q17q,okarg1 Q1r3⟩
def Qwj (G:Gt)(p0:V)(m:M):R:=
  bp (some (aNew Q1sh (Value.cells p0).toList m)) fun x0 m=>
  bp (some (aNew Q1bm [.nilFunc] m)) fun x1 m=>
  bp (unt (aStore 1 x1 (.func (.func Q14g) ⟨[]⟩ ⟨[x0]⟩) m)) fun _ m=>
  bp (pur (aLoad false 1 x1 m) m) fun x2 m=>
  bp (evCall G.tab x2 [(.func (.func Q1i8) ⟨[]⟩ ⟨[x0,x1]⟩)] m) fun x3 m=>
  some (.tuple ⟨[]⟩,m)
theorem Q1lf (G:Gt)(a0:V)(m:M):ef G Tryz.f52 [a0] m = Qwj G a0 m:=
  evFn_of (r:=fun r m=>Qwj G (r 0) m) rfl rfl (fun r m=>by kernel_rfl) m
def Q1la:En:=⟨Q18k,Tryz.f52,Tryz.func52,by kernel_rfl,arg1 Qwj,okarg1 Q1lf⟩
def Qfm (G:Gt)(p6:V)(m:M):R:=
  some (p6,m)
def Q18l (G:Gt)(p1 p0 p2:V)(m:M):R:=
  bp (pur (bin .geq true true .int p1 (.int .i64 0)) m) fun x0 m=>
  brb x0
  (bp (pur (aNilCheck p0) m) fun x1 m=>
  bp (pur (aFieldAddr 1 x1) m) fun x2 m=>
  bp (pur (aLoad false 1 x2 m) m) fun x3 m=>
  bp (pur (lenK 1 x3 m) m) fun x4 m=>
  bp (pur (bin .lss false true .int p1 x4) m) fun x5 m=>
  brb x5
  (bp (pur (bin .eql true true .str p2 (.string ⟨#[]⟩)) m) fun x6 m=>
  brb x6
  (Qfm G (.bool true) m)
  (bp (pur (aNilCheck p0) m) fun x7 m=>
  bp (pur (aFieldAddr 1 x7) m) fun x8 m=>
  bp (pur (aLoad false 1 x8 m) m) fun x9 m=>
  bp (pur (aIndexAddrSl 12 x9 p1) m) fun x10 m=>
  bp (pur (aFieldAddr 2 x10) m) fun x11 m=>
  bp (pur (aLoad false 1 x11 m) m) fun x12 m=>
  bp (G.tab Qwk [x12,p2] m) fun x13 m=>
  Qfm G x13 m))
  (Qfm G (.bool false) m))
  (Qfm G (.bool false) m)
def Q12u (G:Gt)(p1 p0 p2:V)(m:M):R:=
  Q18l G p1 p0 p2 m
theorem Q1o5 (G:Gt)(a0 a1 a2:V)(m:M):ef G Tryz.f53 [a0,a1,a2] m = Q12u G a1 a0 a2 m:=
  evFn_of (r:=fun r m=>Q12u G (r 1) (r 0) (r 2) m) rfl rfl (tr (seqQ (f:=fun r m=>Q18l G (r 1) (r 0) (r 2) m) (tr (seqQ (f:=fun r m=>Qfm G (r 6) m) (fun r m=>by kernel_rfl)) (fun r m=>by kernel_rfl))) (fun r m=>by kernel_rfl)) m
def Q1nw:En:=⟨Q12v,Tryz.f53,Tryz.func53,by kernel_rfl,arg3 (fun G a0 a1 a2 m=>Q12u G a1 a0 a2 m),okarg3 Q1o5⟩
def Q17r (G:Gt)(p0:V)(m:M):R:=
  bp (some (aNew Q1r4 [(.slice none 0 0)] m)) fun x0 m=>
  bp (G.tab Q1o6 [p0,(.func (.func Q1bz) ⟨[]⟩ ⟨[x0]⟩)] m) fun x1 m=>
  bp (pur (aLoad false 1 x0 m) m) fun x2 m=>
  some (x2,m)
theorem Q1r5 (G:Gt)(a0:V)(m:M):ef G Tryz.f54 [a0] m = Q17r G a0 m:=
  evFn_of (r:=fun r m=>Q17r G (r 0) m) rfl rfl (fun r m=>by kernel_rfl) m
def Q1r1:En:=⟨Q1go,Tryz.f54,Tryz.func54,by kernel_rfl,arg1 Q17r,okarg1 Q1r5⟩
end
end Go.Ab.Sh

set_option linter.unusedVariables false
set_option maxRecDepth 100000
namespace Go.Ab.Sh
open Go Go.Ab Go.Proofs
noncomputable section
def Q14h (G:Gt)(p6:V)(m:M):R:=
  some (.tuple ⟨[p6,(.int .i64 0)]⟩,m)
def Qqw (G:Gt)(k0:V → V → V → V → M → R)(p7 p3 p0 p6:V)(m:M):R:=
  bp (pur (bin .sub true true .int p7 (.int .i64 1)) m) fun x0 m=>
  k0 x0 p3 p0 p6 m
def Qqx (G:Gt)(k0:V → V → V → V → M → R)(p27 p7 p3 p0 p6:V)(m:M):R:=
  brb p27
  (Qqw G k0 p7 p3 p0 p6 m)
  (bp (pur (aNilCheck p0) m) fun x1 m=>
  bp (pur (aFieldAddr 0 x1) m) fun x2 m=>
  bp (pur (aLoad false 1 x2 m) m) fun x3 m=>
  bp (G.tab Qnz [p7] m) fun x4 m=>
  ckB (again (pur (aLoad false 1 x2 m) m) x3 && true)
  (bp (G.tab Q67 [x3,x4] m) fun x5 m=>
  bp (pur (aExtract x5 0) m) fun x6 m=>
  bp (pur (aExtract x5 1) m) fun x7 m=>
  bp (pur (bin .neq true true .int x7 (.int .i64 0)) m) fun x8 m=>
  brb x8
  (some (.tuple ⟨[(.int .i64 0),x7]⟩,m))
  (bp (pur (aNilCheck p0) m) fun x9 m=>
  bp (pur (aFieldAddr 0 x9) m) fun x10 m=>
  bp (pur (aLoad false 1 x10 m) m) fun x11 m=>
  bp (G.tab Q1o7 [p7] m) fun x12 m=>
  ckB (again (pur (aLoad false 1 x10 m) m) x11 && true)
  (bp (G.tab Q67 [x11,x12] m) fun x13 m=>
  bp (pur (aExtract x13 0) m) fun x14 m=>
  bp (pur (aExtract x13 1) m) fun x15 m=>
  bp (pur (bin .neq true true .int x15 (.int .i64 0)) m) fun x16 m=>
  brb x16
  (some (.tuple ⟨[(.int .i64 0),x15]⟩,m))
  (bp (pur (aNilCheck p0) m) fun x17 m=>
  bp (pur (aFieldAddr 0 x17) m) fun x18 m=>
  bp (pur (aLoad false 1 x18 m) m) fun x19 m=>
  bp (G.tab Q1a5 [x19,x6,x14] m) fun x20 m=>
  bp (pur (aExtract x20 0) m) fun x21 m=>
  bp (pur (aExtract x20 1) m) fun x22 m=>
  bp (pur (bin .neq true true .int x22 (.int .i64 0)) m) fun x23 m=>
  brb x23
  (some (.tuple ⟨[(.int .i64 0),x22]⟩,m))
  (bp (pur (aNilCheck p0) m) fun x24 m=>
  bp (pur (aFieldAddr 0 x24) m) fun x25 m=>
  bp (pur (aLoad false 1 x25 m) m) fun x26 m=>
  bp (G.tab Q2q [x26,x21,(.int .i64 0),p6] m) fun x27 m=>
  bp (pur (aExtract x27 0) m) fun x28 m=>
  bp (pur (aExtract x27 1) m) fun x29 m=>
  bp (pur (bin .neq true true .int x29 (.int .i64 0)) m) fun x30 m=>
  brb x30
  (some (.tuple ⟨[(.int .i64 0),x29]⟩,m))
  (Qqw G k0 p7 p3 p0 x28 m)))))))
def Q14i (G:Gt)(k0:V → V → V → V → M → R)(p7 p3 p0 p6:V)(m:M):R:=
  bp (pur (aFieldAddr 0 p3) m) fun x31 m=>
  bp (pur (aLoad false 1 x31 m) m) fun x32 m=>
  bp (pur (bin .geq false true .int p7 x32) m) fun x33 m=>
  brb x33
  (bp (pur (aFieldAddr 0 p3) m) fun x34 m=>
  bp (pur (aLoad false 1 x34 m) m) fun x35 m=>
  bp (pur (aFieldAddr 1 p3) m) fun x36 m=>
  bp (pur (aLoad false 1 x36 m) m) fun x37 m=>
  bp (pur (bin .add false true .int x35 x37) m) fun x38 m=>
  bp (pur (bin .lss false true .int p7 x38) m) fun x39 m=>
  Qqx G k0 x39 p7 p3 p0 p6 m)
  (Qqx G k0 (.bool false) p7 p3 p0 p6 m)
def Q7w (G:Gt):Nat → V → V → V → V → M → R
 | 0,_,_,_,_,_=>none
 | i + 1,p7,p3,p0,p6,m=>
  bp (pur (bin .geq true true .int p7 (.int .i64 0)) m) fun x40 m=>
  brb x40
  (Q14i G (Q7w G i) p7 p3 p0 p6 m)
  (Q14h G p6 m)
def Q14j (G:Gt)(p7 p3 p0 p6:V)(m:M):R:=
  Q7w G G.rds p7 p3 p0 p6 m
def Q14k (G:Gt)(p3 p0 p6:V)(m:M):R:=
  Q14j G (.int .i64 103) p3 p0 p6 m
def Q14l (G:Gt)(p3 p0:V)(m:M):R:=
  Q14k G p3 p0 (.int .i64 1) m
def Qwl (G:Gt)(p1 p0:V)(m:M):R:=
  bp (some (aNew Q1o8 (Value.cells p1).toList m)) fun x41 m=>
  Q14l G x41 p0 m
theorem Q1lg (G:Gt)(a0 a1:V)(m:M):ef G Tryz.f55 [a0,a1] m = Qwl G a1 a0 m:=
  evFn_of (r:=fun r m=>Qwl G (r 1) (r 0) m) rfl rfl (tr (seqQ (f:=fun r m=>Q14l G (r 3) (r 0) m) (tr (seqQ (f:=fun r m=>Q14k G (r 3) (r 0) (r 6) m) (tr (tr (seqQ (f:=fun r m=>Q14h G (r 6) m) (fun r m=>by kernel_rfl)) (seqQ (f:=fun r m=>Q14j G (r 7) (r 3) (r 0) (r 6) m) (tr (blockQ (loopQ (fun i r m=>Q7w G i (r 7) (r 3) (r 0) (r 6) m) (fun _ _=>rfl) (fun i0=>tr (seqQ (f:=fun r m=>Q14i G (Q7w G i0) (r 7) (r 3) (r 0) (r 6) m) (tr (tr (seqQ (f:=fun r m=>Qqw G (Q7w G i0) (r 7) (r 3) (r 0) (r 6) m) (fun r m=>by kernel_rfl)) (blockQ (tr seqD (seqQ (f:=fun r m=>Qqx G (Q7w G i0) (r 27) (r 7) (r 3) (r 0) (r 6) m) (fun r m=>by kernel_rfl))))) (fun r m=>by kernel_rfl))) (fun r m=>by kernel_rfl)))) (fun r m=>by kernel_rfl)))) (fun r m=>by kernel_rfl))) (fun r m=>by kernel_rfl))) (fun r m=>by kernel_rfl)) m
def Q1l5:En:=⟨Q18m,Tryz.f55,Tryz.func55,by kernel_rfl,arg2 (fun G a0 a1 m=>Qwl G a1 a0 m),okarg2 Q1lg⟩
def Qdc (G:Gt)(p1 p2 p0:V)(m:M):R:=
  bp (some (aNew Qx (Value.cells p1).toList m)) fun x0 m=>
  bp (pur (bin .eql true true .str p2 (.string ⟨#[]⟩)) m) fun x1 m=>
  brb x1
  (some ((.int .i64 1),m))
  (bp (pur (aFieldAddr 4 x0) m) fun x2 m=>
  bp (pur (aLoad false 1 x2 m) m) fun x3 m=>
  bp (G.tab Q1pm [x3,p2] m) fun x4 m=>
  bp (pur (aExtract x4 0) m) fun x5 m=>
  bp (pur (aExtract x4 1) m) fun x6 m=>
  bp (some (aNew Qtv Q12w m)) fun x7 m=>
  bp (unt (aStore 2 x7 x5 m)) fun _ m=>
  bp (pur (aNilCheck p0) m) fun x8 m=>
  bp (pur (aFieldAddr 0 x8) m) fun x9 m=>
  bp (pur (aLoad false 1 x9 m) m) fun x10 m=>
  bp (pur (aLoad true 2 x7 m) m) fun x11 m=>
  bp (G.tab Q1si [x10,x11] m) fun x12 m=>
  bp (pur (aExtract x12 0) m) fun x13 m=>
  bp (pur (aExtract x12 1) m) fun x14 m=>
  bp (G.tab Q1 [p0,x13,x14] m) fun x15 m=>
  some (x15,m))
theorem Q16y (G:Gt)(a0 a1 a2:V)(m:M):ef G Tryz.f56 [a0,a1,a2] m = Qdc G a1 a2 a0 m:=
  evFn_of (r:=fun r m=>Qdc G (r 1) (r 2) (r 0) m) rfl rfl (fun r m=>by kernel_rfl) m
def Q16f:En:=⟨Qd9,Tryz.f56,Tryz.func56,by kernel_rfl,arg3 (fun G a0 a1 a2 m=>Qdc G a1 a2 a0 m),okarg3 Q16y⟩
def Q103 (G:Gt)(p0 p1:V)(m:M):R:=
  bp (aBuildSlice Q7o [(.int .i64 0)] 1 1 [(0,p1)] m) fun x0 m=>
  bp (G.tab Qb2 [p0,x0,(.slice none 0 0)] m) fun x1 m=>
  bp (pur (bin .neq true true .int x1 (.int .i64 0)) m) fun x2 m=>
  brb x2
  (some (.tuple ⟨[(.int .i64 0),x1]⟩,m))
  (bp (pur (aNilCheck p0) m) fun x3 m=>
  bp (pur (aFieldAddr 0 x3) m) fun x4 m=>
  bp (pur (aLoad false 1 x4 m) m) fun x5 m=>
  bp (G.tab Qhk [x5,p1] m) fun x6 m=>
  bp (pur (aExtract x6 0) m) fun x7 m=>
  bp (pur (aExtract x6 1) m) fun x8 m=>
  some (.tuple ⟨[x7,x8]⟩,m))
theorem Q1my (G:Gt)(a0 a1:V)(m:M):ef G Tryz.f57 [a0,a1] m = Q103 G a0 a1 m:=
  evFn_of (r:=fun r m=>Q103 G (r 0) (r 1) m) rfl rfl (fun r m=>by kernel_rfl) m
def Q1ms:En:=⟨Qoo,Tryz.f57,Tryz.func57,by kernel_rfl,arg2 Q103,okarg2 Q1my⟩
def Qkn (G:Gt)(p1 p2 p0 p3:V)(m:M):R:=
  bp (some (aNew Qx (Value.cells p1).toList m)) fun x0 m=>
  bp (pur (un .not p2) m) fun x1 m=>
  brb x1
  (bp (pur (aNilCheck p0) m) fun x2 m=>
  bp (pur (aFieldAddr 3 x2) m) fun x3 m=>
  bp (pur (aLoad false 1 x3 m) m) fun x4 m=>
  some (x4,m))
  (bp (pur (aNilCheck p0) m) fun x5 m=>
  bp (pur (aFieldAddr 0 x5) m) fun x6 m=>
  bp (pur (aLoad false 1 x6 m) m) fun x7 m=>
  bp (pur (aFieldAddr 5 x0) m) fun x8 m=>
  bp (pur (aLoad false 1 x8 m) m) fun x9 m=>
  bp (pur (aFieldAddr 4 x0) m) fun x10 m=>
  bp (pur (aLoad false 1 x10 m) m) fun x11 m=>
  bp (G.tab Q1jn [x7,x9,x11,p3] m) fun x12 m=>
  bp (pur (aExtract x12 0) m) fun x13 m=>
  bp (pur (aExtract x12 1) m) fun x14 m=>
  bp (G.tab Q1 [p0,x13,x14] m) fun x15 m=>
  some (x15,m))
theorem Q1d0 (G:Gt)(a0 a1 a2 a3:V)(m:M):ef G Tryz.f58 [a0,a1,a2,a3] m = Qkn G a1 a2 a0 a3 m:=
  evFn_of (r:=fun r m=>Qkn G (r 1) (r 2) (r 0) (r 3) m) rfl rfl (fun r m=>by kernel_rfl) m
def Q1cu:En:=⟨Qd4,Tryz.f58,Tryz.func58,by kernel_rfl,arg4 (fun G a0 a1 a2 a3 m=>Qkn G a1 a2 a0 a3 m),okarg4 Q1d0⟩
def Qhl (G:Gt)(p1 p0 p2 p3:V)(m:M):R:=
  bp (some (aNew Q5b (Value.cells p1).toList m)) fun x0 m=>
  bp (pur (aLoad false 1 p2 m) m) fun x1 m=>
  bp (pur (aLoad false 1 p2 m) m) fun x2 m=>
  bp (pur (aNilCheck x2) m) fun x3 m=>
  bp (pur (aFieldAddr 0 x3) m) fun x4 m=>
  bp (pur (aLoad false 1 x4 m) m) fun x5 m=>
  bp (pur (aFieldAddr 0 p3) m) fun x6 m=>
  bp (pur (aIndexAddrArr 8 1 x6 p0) m) fun x7 m=>
  bp (pur (aLoad false 1 x7 m) m) fun x8 m=>
  bp (pur (aLoad false 1 p2 m) m) fun x9 m=>
  bp (pur (aLoad true 5 x0 m) m) fun x10 m=>
  bp (pur (aFieldAddr 0 p3) m) fun x11 m=>
  bp (G.tab Qd3 [x9,x10,(.int .i64 1)] m) fun x12 m=>
  ckB (again (pur (aLoad false 1 p2 m) m) x1 && (again (pur (aLoad false 1 p2 m) m) x2 && (again (pur (aLoad false 1 x4 m) m) x5 && (again (pur (aLoad false 1 x7 m) m) x8 && true))))
  (bp (G.tab Qsj [x5,x8,x12] m) fun x13 m=>
  ckB (again (pur (aLoad false 1 p2 m) m) x1 && true)
  (bp (pur (aExtract x13 0) m) fun x14 m=>
  bp (pur (aExtract x13 1) m) fun x15 m=>
  bp (G.tab Q1 [x1,x14,x15] m) fun x16 m=>
  bp (pur (aIndexAddrArr 8 1 x11 p0) m) fun x17 m=>
  bp (unt (aStore 1 x17 x16 m)) fun _ m=>
  some (.tuple ⟨[]⟩,m)))
theorem Q1a6 (G:Gt)(a0 a1 a2 a3:V)(m:M):ef G Tryz.f59 [a0,a1,a2,a3] m = Qhl G a1 a0 a2 a3 m:=
  evFn_of (r:=fun r m=>Qhl G (r 1) (r 0) (r 2) (r 3) m) rfl rfl (fun r m=>by kernel_rfl) m
def Q19y:En:=⟨Qtf,Tryz.f59,Tryz.func59,by kernel_rfl,arg4 (fun G a0 a1 a2 a3 m=>Qhl G a1 a0 a2 a3 m),okarg4 Q1a6⟩
def Qhm (G:Gt)(p2 p0 p3 p4 p1 p5:V)(m:M):R:=
  bp (pur (aLoad false 1 p2 m) m) fun x0 m=>
  bp (pur (aLoad false 1 p3 m) m) fun x1 m=>
  bp (pur (aLoad false 1 p4 m) m) fun x2 m=>
  bp (pur (aLoad false 1 p5 m) m) fun x3 m=>
  bp (pur (aNilCheck x3) m) fun x4 m=>
  bp (pur (aFieldAddr 3 x4) m) fun x5 m=>
  bp (pur (aLoad false 1 x5 m) m) fun x6 m=>
  bp (pur (aBuild Qhb [(0,1),(1,1),(2,1),(3,1),(4,1)] [(0,x1),(1,x2),(2,p1),(3,x6),(4,(.int .i64 1))]) m) fun x7 m=>
  bp (evCall G.tab x0 [p0,x7] m) fun x8 m=>
  some (.tuple ⟨[]⟩,m)
theorem Q1a7 (G:Gt)(a0 a1 a2 a3 a4 a5:V)(m:M):ef G Tryz.f60 [a0,a1,a2,a3,a4,a5] m = Qhm G a2 a0 a3 a4 a1 a5 m:=
  evFn_of (r:=fun r m=>Qhm G (r 2) (r 0) (r 3) (r 4) (r 1) (r 5) m) rfl rfl (fun r m=>by kernel_rfl) m
def Q1a2:En:=⟨Qtd,Tryz.f60,Tryz.func60,by kernel_rfl,arg6 (fun G a0 a1 a2 a3 a4 a5 m=>Qhm G a2 a0 a3 a4 a1 a5 m),okarg6 Q1a7⟩
def Qm9 (G:Gt)(p0 p1:V)(m:M):R:=
  bp (pur (aNilCheck p0) m) fun x0 m=>
  bp (pur (aFieldAddr 0 x0) m) fun x1 m=>
  bp (pur (aLoad false 1 x1 m) m) fun x2 m=>
  bp (pur (aBuild Q2p [(0,1),(1,1)] [(0,p1),(1,(.int .i64 32))]) m) fun x3 m=>
  bp (G.tab Qqn [x2,(.int .i64 1),x3] m) fun x4 m=>
  bp (pur (aExtract x4 0) m) fun x5 m=>
  bp (pur (aExtract x4 1) m) fun x6 m=>
  bp (G.tab Q1 [p0,x5,x6] m) fun x7 m=>
  some (x7,m)
theorem Q1e6 (G:Gt)(a0 a1:V)(m:M):ef G Tryz.f61 [a0,a1] m = Qm9 G a0 a1 m:=
  evFn_of (r:=fun r m=>Qm9 G (r 0) (r 1) m) rfl rfl (fun r m=>by kernel_rfl) m
def Q1dx:En:=⟨Qm6,Tryz.f61,Tryz.func61,by kernel_rfl,arg2 Qm9,okarg2 Q1e6⟩
def Q10u (G:Gt)(p8:V)(m:M):R:=
  some (.tuple ⟨[p8,(.int .i64 0)]⟩,m)
def Qma (G:Gt):Nat → V → V → V → V → M → R
 | 0,_,_,_,_,_=>none
 | i + 1,p29,p28,p27,p8,m=>
  bp (pur (bin .lss false true .int p29 p28) m) fun x0 m=>
  brb x0
  (bp (pur (aIndexAddrSl 4 p27 p29) m) fun x1 m=>
  bp (pur (aLoad true 4 x1 m) m) fun x2 m=>
  bp (some (aNew Q6w Qkh m)) fun x3 m=>
  bp (unt (aStore 4 x3 x2 m)) fun _ m=>
  bp (pur (aLoad true 4 x3 m) m) fun x4 m=>
  bp (G.tab Q1gp [x4] m) fun x5 m=>
  bp (aBuildSlice Q6w Qkh 4 1 [(0,x5)] m) fun x6 m=>
  bp (apS Q6w 4 48 p8 x6 m) fun x7 m=>
  bp (pur (bin .add true true .int p29 (.int .i64 1)) m) fun x8 m=>
  (Qma G i) x8 p28 p27 x7 m)
  (Q10u G p8 m)
def Q10v (G:Gt)(p29 p28 p27 p8:V)(m:M):R:=
  Qma G G.rds p29 p28 p27 p8 m
def Q10w (G:Gt)(p0 p1 p2 p8:V)(m:M):R:=
  bp (pur (aNilCheck p0) m) fun x9 m=>
  bp (pur (aFieldAddr 2 x9) m) fun x10 m=>
  bp (pur (aLoad false 1 x10 m) m) fun x11 m=>
  bp (pur (aBuild Q1fr [(0,1),(1,1)] [(0,p1),(1,p2)]) m) fun x12 m=>
  bp (pur (aLookup (.struct [(0,1,false,.int),(1,1,false,.str)]) (.slice none 0 0) false x11 x12 m) m) fun x13 m=>
  bp (pur (lenK 1 x13 m) m) fun x14 m=>
  Q10v G (.int .i64 0) x14 x13 p8 m
def Q10x (G:Gt)(p0 p1 p2:V)(m:M):R:=
  Q10w G p0 p1 p2 (.slice none 0 0) m
def Q10y (G:Gt)(p0 p1 p2:V)(m:M):R:=
  bp (pur (binP m .eql true true .ptr p0 (.pointer none)) m) fun x15 m=>
  brb x15
  (some (.tuple ⟨[(.slice none 0 0),(.int .i64 2)]⟩,m))
  (bp (G.tab Q12v [p0,p1,p2] m) fun x16 m=>
  bp (pur (un .not x16) m) fun x17 m=>
  brb x17
  (some (.tuple ⟨[(.slice none 0 0),(.int .i64 1)]⟩,m))
  (Q10x G p0 p1 p2 m))
def Qqy (G:Gt)(p0 p1 p2:V)(m:M):R:=
  Q10y G p0 p1 p2 m
theorem Q1i9 (G:Gt)(a0 a1 a2:V)(m:M):ef G Tryz.f62 [a0,a1,a2] m = Qqy G a0 a1 a2 m:=
  evFn_of (r:=fun r m=>Qqy G (r 0) (r 1) (r 2) m) rfl rfl (tr (seqQ (f:=fun r m=>Q10y G (r 0) (r 1) (r 2) m) (tr (seqQ (f:=fun r m=>Q10x G (r 0) (r 1) (r 2) m) (tr (seqQ (f:=fun r m=>Q10w G (r 0) (r 1) (r 2) (r 8) m) (tr (tr (seqQ (f:=fun r m=>Q10u G (r 8) m) (fun r m=>by kernel_rfl)) (seqQ (f:=fun r m=>Q10v G (r 29) (r 28) (r 27) (r 8) m) (tr (blockQ (loopQ (fun i r m=>Qma G i (r 29) (r 28) (r 27) (r 8) m) (fun _ _=>rfl) (fun i0=>fun r m=>by kernel_rfl))) (fun r m=>by kernel_rfl)))) (fun r m=>by kernel_rfl))) (fun r m=>by kernel_rfl))) (fun r m=>by kernel_rfl))) (fun r m=>by kernel_rfl)) m
def Q1i7:En:=⟨Q13z,Tryz.f62,Tryz.func62,by kernel_rfl,arg3 Qqy,okarg3 Q1i9⟩
def Q4u (G:Gt)(p0 p1:V)(m:M):R:=
  bp (pur (lenK 1 p0 m) m) fun x0 m=>
  bp (conv (.int .u64) x0 m) fun x1 m=>
  bp (G.tab Qb3 [x1] m) fun x2 m=>
  bp (G.tab Q3z [p0,(.int .i64 0),x0,x2,p1] m) fun x3 m=>
  some (.tuple ⟨[]⟩,m)
theorem Qoz (G:Gt)(a0 a1:V)(m:M):ef G Tryz.f63 [a0,a1] m = Q4u G a0 a1 m:=
  evFn_of (r:=fun r m=>Q4u G (r 0) (r 1) m) rfl rfl (fun r m=>by kernel_rfl) m
def Qop:En:=⟨Qb1,Tryz.f63,Tryz.func63,by kernel_rfl,arg2 Q4u,okarg2 Qoz⟩
def Qhn (G:Gt)(p0 p1:V)(m:M):R:=
  bp (some (aNew Q6w (Value.cells p0).toList m)) fun x0 m=>
  bp (some (aNew Q6w (Value.cells p1).toList m)) fun x1 m=>
  bp (pur (aFieldAddr 0 x1) m) fun x2 m=>
  bp (pur (aFieldAddr 1 x2) m) fun x3 m=>
  bp (pur (aLoad false 1 x3 m) m) fun x4 m=>
  bp (pur (aFieldAddr 0 x0) m) fun x5 m=>
  bp (pur (aFieldAddr 1 x5) m) fun x6 m=>
  bp (pur (aLoad false 1 x6 m) m) fun x7 m=>
  bp (G.tab Qtw [x4,x7] m) fun x8 m=>
  some (x8,m)
theorem Q1a8 (G:Gt)(a0 a1:V)(m:M):ef G Tryz.f64 [a0,a1] m = Qhn G a0 a1 m:=
  evFn_of (r:=fun r m=>Qhn G (r 0) (r 1) m) rfl rfl (fun r m=>by kernel_rfl) m
def Q1a1:En:=⟨Qt9,Tryz.f64,Tryz.func64,by kernel_rfl,arg2 Qhn,okarg2 Q1a8⟩
def Qtx (G:Gt)(p0 p1:V)(m:M):R:=
  bp (G.tab Qa0 [p0] m) fun x0 m=>
  bp (G.tab Qa0 [p1] m) fun x1 m=>
  brb x0
  (brb x1
  (some ((.int .i64 0),m))
  (some ((.int .i64 (-1)),m)))
  (brb x1
  (some ((.int .i64 1),m))
  (bp (pur (bin .lss false true .int p0 p1) m) fun x2 m=>
  brb x2
  (some ((.int .i64 (-1)),m))
  (bp (pur (bin .gtr false true .int p0 p1) m) fun x3 m=>
  brb x3
  (some ((.int .i64 1),m))
  (some ((.int .i64 0),m)))))
theorem Q1jo (G:Gt)(a0 a1:V)(m:M):ef G Tryz.f65 [a0,a1] m = Qtx G a0 a1 m:=
  evFn_of (r:=fun r m=>Qtx G (r 0) (r 1) m) rfl rfl (fun r m=>by kernel_rfl) m
def Q1j8:En:=⟨Qtw,Tryz.f65,Tryz.func65,by kernel_rfl,arg2 Qtx,okarg2 Q1jo⟩
def Qmb (G:Gt)(p16 p5 p0 p1:V)(m:M):R:=
  brb p16
  (some (.tuple ⟨[(.int .i64 0),(.int .i64 1)]⟩,m))
  (bp (pur (aLoad true 2 p5 m) m) fun x0 m=>
  bp (G.tab Q1a9 [x0] m) fun x1 m=>
  bp (pur (bin .neq true true .int x1 (.int .i64 0)) m) fun x2 m=>
  brb x2
  (some (.tuple ⟨[(.int .i64 0),x1]⟩,m))
  (bp (pur (aFieldAddr 1 p5) m) fun x3 m=>
  bp (pur (aLoad false 1 x3 m) m) fun x4 m=>
  bp (pur (aFieldAddr 0 p5) m) fun x5 m=>
  bp (pur (aLoad false 1 x5 m) m) fun x6 m=>
  bp (conv (.int .u64) x6 m) fun x7 m=>
  bp (pur (aFieldAddr 1 p5) m) fun x8 m=>
  bp (pur (aLoad false 1 x8 m) m) fun x9 m=>
  bp (pur (bin .sub true true .int (.int .i64 32) x9) m) fun x10 m=>
  bp (pur (bin .shr false true .int x7 x10) m) fun x11 m=>
  bp (G.tab Q1me [] m) fun x12 m=>
  ckB (again (pur (aLoad false 1 x3 m) m) x4 && (again (pur (aLoad false 1 x5 m) m) x6 && (again (pur (aLoad false 1 x8 m) m) x9 && true)))
  (bp (pur (aIndexAddrSl 2 x12 p1) m) fun x13 m=>
  bp (pur (aFieldAddr 0 x13) m) fun x14 m=>
  bp (pur (aLoad false 1 x14 m) m) fun x15 m=>
  bp (G.tab Q18n [p0,x15,x4,x11,(.func (.func Qnz) #[] #[])] m) fun x16 m=>
  bp (pur (aExtract x16 0) m) fun x17 m=>
  bp (pur (aExtract x16 1) m) fun x18 m=>
  some (.tuple ⟨[x17,x18]⟩,m))))
def Q10z (G:Gt)(p1 p5 p0:V)(m:M):R:=
  bp (pur (bin .neq true true .int p1 (.int .i64 0)) m) fun x19 m=>
  brb x19
  (bp (pur (bin .neq true true .int p1 (.int .i64 1)) m) fun x20 m=>
  Qmb G x20 p5 p0 p1 m)
  (Qmb G (.bool false) p5 p0 p1 m)
def Q110 (G:Gt)(p0 p1 p5:V)(m:M):R:=
  bp (pur (binP m .eql true true .ptr p0 (.pointer none)) m) fun x21 m=>
  brb x21
  (some (.tuple ⟨[(.int .i64 0),(.int .i64 2)]⟩,m))
  (Q10z G p1 p5 p0 m)
def Qqz (G:Gt)(p2 p0 p1:V)(m:M):R:=
  bp (some (aNew Q66 (Value.cells p2).toList m)) fun x22 m=>
  Q110 G p0 p1 x22 m
theorem Q1ia (G:Gt)(a0 a1 a2:V)(m:M):ef G Tryz.f66 [a0,a1,a2] m = Qqz G a2 a0 a1 m:=
  evFn_of (r:=fun r m=>Qqz G (r 2) (r 0) (r 1) m) rfl rfl (tr (seqQ (f:=fun r m=>Q110 G (r 0) (r 1) (r 5) m) (tr (seqQ (f:=fun r m=>Q10z G (r 1) (r 5) (r 0) m) (tr (tr seqD (seqQ (f:=fun r m=>Qmb G (r 16) (r 5) (r 0) (r 1) m) (fun r m=>by kernel_rfl))) (fun r m=>by kernel_rfl))) (fun r m=>by kernel_rfl))) (fun r m=>by kernel_rfl)) m
def Q1i4:En:=⟨Qqn,Tryz.f66,Tryz.func66,by kernel_rfl,arg3 (fun G a0 a1 a2 m=>Qqz G a2 a0 a1 m),okarg3 Q1ia⟩
def Qwm (G:Gt)(p0 p1 p2:V)(m:M):R:=
  bp (some (aNew Q1sj (Value.cells p0).toList m)) fun x0 m=>
  bp (pur (aLoad false 1 x0 m) m) fun x1 m=>
  bp (G.tab Qov [x1,p1,p2,(.func (.func Q14m) ⟨[]⟩ ⟨[x0]⟩)] m) fun x2 m=>
  bp (pur (aExtract x2 0) m) fun x3 m=>
  bp (pur (aExtract x2 1) m) fun x4 m=>
  some (.tuple ⟨[x3,x4]⟩,m)
theorem Q1lh (G:Gt)(a0 a1 a2:V)(m:M):ef G Tryz.f67 [a0,a1,a2] m = Qwm G a0 a1 a2 m:=
  evFn_of (r:=fun r m=>Qwm G (r 0) (r 1) (r 2) m) rfl rfl (fun r m=>by kernel_rfl) m
def Q1l6:En:=⟨Qwa,Tryz.f67,Tryz.func67,by kernel_rfl,arg3 Qwm,okarg3 Q1lh⟩
end
end Go.Ab.Sh
