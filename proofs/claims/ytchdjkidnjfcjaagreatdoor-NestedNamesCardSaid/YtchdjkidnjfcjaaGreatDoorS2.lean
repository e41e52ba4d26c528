/-
  Functions of the program as plain definitions, each with the theorem that it is what the evaluator makes of the code. No conditions.
-/
import Derived.Test.YtchdjkidnjfcjaaGreatDoorAb5
import Derived.Test.YtchdjkidnjfcjaaGreatDoorZ
import Derived.KernelRfl
import Derived.Test.YtchdjkidnjfcjaaGreatDoorProg
set_option linter.unusedVariables false
set_option maxRecDepth 100000
namespace Go.Ab.Sh
open Go Go.Ab Go.Proofs
noncomputable section
def Q1bg (G : Gt) (p5 : V) (m : M) : R :=
  some (p5, m)
def Qv2 (G : Gt) (k0 : V → V → V → V → M → R) (p178 p177 p176 p5 : V) (m : M) : R :=
  bp (pur (bin .add true true .int p178 (.int .i64 1)) m) fun x0 m =>
  k0 x0 p177 p176 p5 m
def Q169 (G : Gt) (k0 : V → V → V → V → M → R) (p176 p178 p5 p177 : V) (m : M) : R :=
  bp (pur (aIndexAddrSl 6 p176 p178) m) fun x1 m =>
  bp (pur (aLoad true 6 x1 m) m) fun x2 m =>
  bp (some (aNew Qgd Qrp m)) fun x3 m =>
  bp (unt (aStore 6 x3 x2 m)) fun _ m =>
  brb p5
  (bp (pur (aFieldAddr 5 x3) m) fun x4 m =>
  bp (pur (aLoad false 1 x4 m) m) fun x5 m =>
  bp (G.tab Qsz [x5] m) fun x6 m =>
  Qv2 G k0 p178 p177 p176 x6 m)
  (Qv2 G k0 p178 p177 p176 (.bool false) m)
def Q16a (G : Gt) (k0 : V → V → V → V → M → R) (p179 p176 p178 p5 p177 : V) (m : M) : R :=
  brb p179
  (Q169 G k0 p176 p178 p5 p177 m)
  (Q1bg G p5 m)
def Q85 (G : Gt) : Nat → V → V → V → V → M → R
 | 0, _, _, _, _, _ => none
 | i + 1, p178, p177, p176, p5, m =>
  bp (pur (bin .lss false true .int p178 p177) m) fun x7 m =>
  Q16a G (Q85 G i) x7 p176 p178 p5 p177 m
def Q16b (G : Gt) (p178 p177 p176 p5 : V) (m : M) : R :=
  Q85 G G.rds p178 p177 p176 p5 m
def Q1bh (G : Gt) (p1 p5 : V) (m : M) : R :=
  bp (pur (aFieldAddr 11 p1) m) fun x8 m =>
  bp (pur (aLoad false 1 x8 m) m) fun x9 m =>
  bp (pur (lenK 1 x9 m) m) fun x10 m =>
  Q16b G (.int .i64 0) x10 x9 p5 m
def Qv3 (G : Gt) (k0 : V → V → V → V → V → M → R) (p164 p163 p162 p5 p1 : V) (m : M) : R :=
  bp (pur (bin .add true true .int p164 (.int .i64 1)) m) fun x11 m =>
  k0 x11 p163 p162 p5 p1 m
def Q16c (G : Gt) (k0 : V → V → V → V → V → M → R) (p162 p164 p5 p163 p1 : V) (m : M) : R :=
  bp (pur (aIndexAddrSl 3 p162 p164) m) fun x12 m =>
  bp (pur (aLoad true 3 x12 m) m) fun x13 m =>
  bp (some (aNew Qh4 Qt8 m)) fun x14 m =>
  bp (unt (aStore 3 x14 x13 m)) fun _ m =>
  brb p5
  (bp (pur (aFieldAddr 2 x14) m) fun x15 m =>
  bp (pur (aLoad false 1 x15 m) m) fun x16 m =>
  bp (G.tab Qsz [x16] m) fun x17 m =>
  Qv3 G k0 p164 p163 p162 x17 p1 m)
  (Qv3 G k0 p164 p163 p162 (.bool false) p1 m)
def Q16d (G : Gt) (k0 : V → V → V → V → V → M → R) (p165 p162 p164 p5 p163 p1 : V) (m : M) : R :=
  brb p165
  (Q16c G k0 p162 p164 p5 p163 p1 m)
  (Q1bh G p1 p5 m)
def Q86 (G : Gt) : Nat → V → V → V → V → V → M → R
 | 0, _, _, _, _, _, _ => none
 | i + 1, p164, p163, p162, p5, p1, m =>
  bp (pur (bin .lss false true .int p164 p163) m) fun x18 m =>
  Q16d G (Q86 G i) x18 p162 p164 p5 p163 p1 m
def Q16e (G : Gt) (p164 p163 p162 p5 p1 : V) (m : M) : R :=
  Q86 G G.rds p164 p163 p162 p5 p1 m
def Q1bi (G : Gt) (p1 p5 : V) (m : M) : R :=
  bp (pur (aFieldAddr 10 p1) m) fun x19 m =>
  bp (pur (aLoad false 1 x19 m) m) fun x20 m =>
  bp (pur (lenK 1 x20 m) m) fun x21 m =>
  Q16e G (.int .i64 0) x21 x20 p5 p1 m
def Qv4 (G : Gt) (k0 : V → V → V → V → V → M → R) (p130 p129 p128 p5 p1 : V) (m : M) : R :=
  bp (pur (bin .add true true .int p130 (.int .i64 1)) m) fun x22 m =>
  k0 x22 p129 p128 p5 p1 m
def Q16f (G : Gt) (k0 : V → V → V → V → V → M → R) (p5 p18 p130 p129 p128 p1 : V) (m : M) : R :=
  brb p5
  (bp (G.tab Qp4 [p18] m) fun x23 m =>
  bp (pur (un .not x23) m) fun x24 m =>
  Qv4 G k0 p130 p129 p128 x24 p1 m)
  (Qv4 G k0 p130 p129 p128 (.bool false) p1 m)
def Qv5 (G : Gt) (k1 : V → V → V → V → V → V → V → V → V → M → R) (p18 p20 p137 p136 p135 p5 p130 p129 p128 p1 : V) (m : M) : R :=
  bp (pur (aLoad true 2 p20 m) m) fun x25 m =>
  bp (G.tab Qsy [x25] m) fun x26 m =>
  bp (aBuildSlice Q1 [(.string ⟨#[]⟩)] 1 1 [(0, x26)] m) fun x27 m =>
  bp (apS Q1 1 16 p18 x27 m) fun x28 m =>
  bp (pur (bin .add true true .int p137 (.int .i64 1)) m) fun x29 m =>
  k1 x29 p136 p135 p5 x28 p130 p129 p128 p1 m
def Q16g (G : Gt) (k1 : V → V → V → V → V → V → V → V → V → M → R) (p5 p20 p18 p137 p136 p135 p130 p129 p128 p1 : V) (m : M) : R :=
  brb p5
  (bp (pur (aFieldAddr 1 p20) m) fun x30 m =>
  bp (pur (aLoad false 1 x30 m) m) fun x31 m =>
  bp (pur (lenK 1 x31 m) m) fun x32 m =>
  bp (pur (bin .gtr true true .int x32 (.int .i64 0)) m) fun x33 m =>
  Qv5 G k1 p18 p20 p137 p136 p135 x33 p130 p129 p128 p1 m)
  (Qv5 G k1 p18 p20 p137 p136 p135 (.bool false) p130 p129 p128 p1 m)
def Q16h (G : Gt) (k1 : V → V → V → V → V → V → V → V → V → M → R) (p135 p137 p5 p18 p136 p130 p129 p128 p1 : V) (m : M) : R :=
  bp (pur (aIndexAddrSl 2 p135 p137) m) fun x34 m =>
  bp (pur (aLoad true 2 x34 m) m) fun x35 m =>
  bp (some (aNew Qe8 Qt9 m)) fun x36 m =>
  bp (unt (aStore 2 x36 x35 m)) fun _ m =>
  Q16g G k1 p5 x36 p18 p137 p136 p135 p130 p129 p128 p1 m
def Q16i (G : Gt) (k1 : V → V → V → V → V → V → V → V → V → M → R) (k0 : V → V → V → V → V → M → R) (p138 p135 p137 p5 p18 p136 p130 p129 p128 p1 : V) (m : M) : R :=
  brb p138
  (Q16h G k1 p135 p137 p5 p18 p136 p130 p129 p128 p1 m)
  (Q16f G k0 p5 p18 p130 p129 p128 p1 m)
def Q62 (G : Gt) (k0 : V → V → V → V → V → M → R) : Nat → V → V → V → V → V → V → V → V → V → M → R
 | 0, _, _, _, _, _, _, _, _, _, _ => none
 | i + 1, p137, p136, p135, p5, p18, p130, p129, p128, p1, m =>
  bp (pur (bin .lss false true .int p137 p136) m) fun x37 m =>
  Q16i G (Q62 G k0 i) k0 x37 p135 p137 p5 p18 p136 p130 p129 p128 p1 m
def Q16j (G : Gt) (k0 : V → V → V → V → V → M → R) (p137 p136 p135 p5 p18 p130 p129 p128 p1 : V) (m : M) : R :=
  Q62 G k0 G.rds p137 p136 p135 p5 p18 p130 p129 p128 p1 m
def Q16k (G : Gt) (k0 : V → V → V → V → V → M → R) (p17 p5 p18 p130 p129 p128 p1 : V) (m : M) : R :=
  bp (pur (aFieldAddr 1 p17) m) fun x38 m =>
  bp (pur (aLoad false 1 x38 m) m) fun x39 m =>
  bp (pur (lenK 1 x39 m) m) fun x40 m =>
  Q16j G k0 (.int .i64 0) x40 x39 p5 p18 p130 p129 p128 p1 m
def Q16l (G : Gt) (k0 : V → V → V → V → V → M → R) (p17 p5 p130 p129 p128 p1 : V) (m : M) : R :=
  Q16k G k0 p17 p5 (.slice none 0 0) p130 p129 p128 p1 m
def Q16m (G : Gt) (k0 : V → V → V → V → V → M → R) (p128 p130 p5 p129 p1 : V) (m : M) : R :=
  bp (pur (aIndexAddrSl 2 p128 p130) m) fun x41 m =>
  bp (pur (aLoad true 2 x41 m) m) fun x42 m =>
  bp (some (aNew Q2f Q4d m)) fun x43 m =>
  bp (unt (aStore 2 x43 x42 m)) fun _ m =>
  Q16l G k0 x43 p5 p130 p129 p128 p1 m
def Q16n (G : Gt) (k0 : V → V → V → V → V → M → R) (p131 p128 p130 p5 p129 p1 : V) (m : M) : R :=
  brb p131
  (Q16m G k0 p128 p130 p5 p129 p1 m)
  (Q1bi G p1 p5 m)
def Qu (G : Gt) : Nat → V → V → V → V → V → M → R
 | 0, _, _, _, _, _, _ => none
 | i + 1, p130, p129, p128, p5, p1, m =>
  bp (pur (bin .lss false true .int p130 p129) m) fun x44 m =>
  Q16n G (Qu G i) x44 p128 p130 p5 p129 p1 m
def Q16o (G : Gt) (p130 p129 p128 p5 p1 : V) (m : M) : R :=
  Qu G G.rds p130 p129 p128 p5 p1 m
def Q1bj (G : Gt) (p1 p5 : V) (m : M) : R :=
  bp (pur (aFieldAddr 8 p1) m) fun x45 m =>
  bp (pur (aLoad false 1 x45 m) m) fun x46 m =>
  bp (pur (lenK 1 x46 m) m) fun x47 m =>
  Q16o G (.int .i64 0) x47 x46 p5 p1 m
def Qv6 (G : Gt) (k0 : V → V → V → V → V → M → R) (p115 p114 p113 p5 p1 : V) (m : M) : R :=
  bp (pur (bin .add true true .int p115 (.int .i64 1)) m) fun x48 m =>
  k0 x48 p114 p113 p5 p1 m
def Q16p (G : Gt) (k0 : V → V → V → V → V → M → R) (p113 p115 p5 p114 p1 : V) (m : M) : R :=
  bp (pur (aIndexAddrSl 2 p113 p115) m) fun x49 m =>
  bp (pur (aLoad true 2 x49 m) m) fun x50 m =>
  bp (some (aNew Q3p Q6z m)) fun x51 m =>
  bp (unt (aStore 2 x51 x50 m)) fun _ m =>
  brb p5
  (bp (pur (aFieldAddr 1 x51) m) fun x52 m =>
  bp (pur (aLoad false 1 x52 m) m) fun x53 m =>
  bp (G.tab Qjf [x53] m) fun x54 m =>
  bp (pur (un .not x54) m) fun x55 m =>
  Qv6 G k0 p115 p114 p113 x55 p1 m)
  (Qv6 G k0 p115 p114 p113 (.bool false) p1 m)
def Q16q (G : Gt) (k0 : V → V → V → V → V → M → R) (p116 p113 p115 p5 p114 p1 : V) (m : M) : R :=
  brb p116
  (Q16p G k0 p113 p115 p5 p114 p1 m)
  (Q1bj G p1 p5 m)
def Q87 (G : Gt) : Nat → V → V → V → V → V → M → R
 | 0, _, _, _, _, _, _ => none
 | i + 1, p115, p114, p113, p5, p1, m =>
  bp (pur (bin .lss false true .int p115 p114) m) fun x56 m =>
  Q16q G (Q87 G i) x56 p113 p115 p5 p114 p1 m
def Q16r (G : Gt) (p115 p114 p113 p5 p1 : V) (m : M) : R :=
  Q87 G G.rds p115 p114 p113 p5 p1 m
def Q1bk (G : Gt) (p1 p5 : V) (m : M) : R :=
  bp (pur (aFieldAddr 7 p1) m) fun x57 m =>
  bp (pur (aLoad false 1 x57 m) m) fun x58 m =>
  bp (pur (lenK 1 x58 m) m) fun x59 m =>
  Q16r G (.int .i64 0) x59 x58 p5 p1 m
def Q16s (G : Gt) (k0 : V → V → V → V → V → M → R) (p84 p83 p82 p5 p1 : V) (m : M) : R :=
  bp (pur (bin .add true true .int p84 (.int .i64 1)) m) fun x60 m =>
  k0 x60 p83 p82 p5 p1 m
def Qk4 (G : Gt) (k1 : V → V → V → V → V → V → V → V → M → R) (p91 p90 p89 p5 p84 p83 p82 p1 : V) (m : M) : R :=
  bp (pur (bin .add true true .int p91 (.int .i64 1)) m) fun x61 m =>
  k1 x61 p90 p89 p5 p84 p83 p82 p1 m
def Q16t (G : Gt) (k1 : V → V → V → V → V → V → V → V → M → R) (p91 p89 p5 p90 p84 p83 p82 p1 : V) (m : M) : R :=
  bp (pur (aIndexAddrSl 15 p89 p91) m) fun x62 m =>
  bp (pur (aLoad true 15 x62 m) m) fun x63 m =>
  bp (some (aNew Qai Qe9 m)) fun x64 m =>
  bp (unt (aStore 15 x64 x63 m)) fun _ m =>
  brb p5
  (bp (pur (aFieldAddr 14 x64) m) fun x65 m =>
  bp (pur (aLoad false 1 x65 m) m) fun x66 m =>
  bp (pur (bin .eql true true .int x66 (.int .i64 0)) m) fun x67 m =>
  brb x67
  (bp (pur (aFieldAddr 0 x64) m) fun x68 m =>
  bp (pur (aLoad false 1 x68 m) m) fun x69 m =>
  bp (pur (bin .add true true .int p91 (.int .i64 1)) m) fun x70 m =>
  bp (pur (bin .mul true true .int (.int .i64 10) x70) m) fun x71 m =>
  bp (pur (bin .eql false true .int x69 x71) m) fun x72 m =>
  Qk4 G k1 p91 p90 p89 x72 p84 p83 p82 p1 m)
  (Qk4 G k1 p91 p90 p89 (.bool false) p84 p83 p82 p1 m))
  (Qk4 G k1 p91 p90 p89 (.bool false) p84 p83 p82 p1 m)
def Q16u (G : Gt) (k1 : V → V → V → V → V → V → V → V → M → R) (k0 : V → V → V → V → V → M → R) (p92 p91 p89 p5 p90 p84 p83 p82 p1 : V) (m : M) : R :=
  brb p92
  (Q16t G k1 p91 p89 p5 p90 p84 p83 p82 p1 m)
  (Q16s G k0 p84 p83 p82 p5 p1 m)
def Q88 (G : Gt) (k0 : V → V → V → V → V → M → R) : Nat → V → V → V → V → V → V → V → V → M → R
 | 0, _, _, _, _, _, _, _, _, _ => none
 | i + 1, p91, p90, p89, p5, p84, p83, p82, p1, m =>
  bp (pur (bin .lss false true .int p91 p90) m) fun x73 m =>
  Q16u G (Q88 G k0 i) k0 x73 p91 p89 p5 p90 p84 p83 p82 p1 m
def Q16v (G : Gt) (k0 : V → V → V → V → V → M → R) (p91 p90 p89 p5 p84 p83 p82 p1 : V) (m : M) : R :=
  Q88 G k0 G.rds p91 p90 p89 p5 p84 p83 p82 p1 m
def Q16w (G : Gt) (k0 : V → V → V → V → V → M → R) (p11 p5 p84 p83 p82 p1 : V) (m : M) : R :=
  bp (pur (aFieldAddr 1 p11) m) fun x74 m =>
  bp (pur (aLoad false 1 x74 m) m) fun x75 m =>
  bp (pur (lenK 1 x75 m) m) fun x76 m =>
  Q16v G k0 (.int .i64 0) x76 x75 p5 p84 p83 p82 p1 m
def Q16x (G : Gt) (k0 : V → V → V → V → V → M → R) (p82 p84 p5 p83 p1 : V) (m : M) : R :=
  bp (pur (aIndexAddrSl 3 p82 p84) m) fun x77 m =>
  bp (pur (aLoad true 3 x77 m) m) fun x78 m =>
  bp (some (aNew Q7l Qea m)) fun x79 m =>
  bp (unt (aStore 3 x79 x78 m)) fun _ m =>
  Q16w G k0 x79 p5 p84 p83 p82 p1 m
def Q16y (G : Gt) (k0 : V → V → V → V → V → M → R) (p85 p82 p84 p5 p83 p1 : V) (m : M) : R :=
  brb p85
  (Q16x G k0 p82 p84 p5 p83 p1 m)
  (Q1bk G p1 p5 m)
def Q1b (G : Gt) : Nat → V → V → V → V → V → M → R
 | 0, _, _, _, _, _, _ => none
 | i + 1, p84, p83, p82, p5, p1, m =>
  bp (pur (bin .lss false true .int p84 p83) m) fun x80 m =>
  Q16y G (Q1b G i) x80 p82 p84 p5 p83 p1 m
def Q16z (G : Gt) (p84 p83 p82 p5 p1 : V) (m : M) : R :=
  Q1b G G.rds p84 p83 p82 p5 p1 m
def Q1bl (G : Gt) (p1 p5 : V) (m : M) : R :=
  bp (pur (aFieldAddr 9 p1) m) fun x81 m =>
  bp (pur (aLoad false 1 x81 m) m) fun x82 m =>
  bp (pur (lenK 1 x82 m) m) fun x83 m =>
  Q16z G (.int .i64 0) x83 x82 p5 p1 m
def Qv7 (G : Gt) (k0 : V → V → V → V → V → M → R) (p70 p69 p68 p5 p1 : V) (m : M) : R :=
  bp (pur (bin .add true true .int p70 (.int .i64 1)) m) fun x84 m =>
  k0 x84 p69 p68 p5 p1 m
def Q170 (G : Gt) (k0 : V → V → V → V → V → M → R) (p68 p70 p5 p69 p1 : V) (m : M) : R :=
  bp (pur (aIndexAddrSl 3 p68 p70) m) fun x85 m =>
  bp (pur (aLoad true 3 x85 m) m) fun x86 m =>
  bp (some (aNew Qc6 Qc7 m)) fun x87 m =>
  bp (unt (aStore 3 x87 x86 m)) fun _ m =>
  brb p5
  (bp (pur (aFieldAddr 1 x87) m) fun x88 m =>
  bp (pur (aLoad false 1 x88 m) m) fun x89 m =>
  bp (pur (bin .neq true true .str x89 (.string ⟨#[]⟩)) m) fun x90 m =>
  Qv7 G k0 p70 p69 p68 x90 p1 m)
  (Qv7 G k0 p70 p69 p68 (.bool false) p1 m)
def Q171 (G : Gt) (k0 : V → V → V → V → V → M → R) (p71 p68 p70 p5 p69 p1 : V) (m : M) : R :=
  brb p71
  (Q170 G k0 p68 p70 p5 p69 p1 m)
  (Q1bl G p1 p5 m)
def Q89 (G : Gt) : Nat → V → V → V → V → V → M → R
 | 0, _, _, _, _, _, _ => none
 | i + 1, p70, p69, p68, p5, p1, m =>
  bp (pur (bin .lss false true .int p70 p69) m) fun x91 m =>
  Q171 G (Q89 G i) x91 p68 p70 p5 p69 p1 m
def Q172 (G : Gt) (p70 p69 p68 p5 p1 : V) (m : M) : R :=
  Q89 G G.rds p70 p69 p68 p5 p1 m
def Q1bm (G : Gt) (p1 p5 : V) (m : M) : R :=
  bp (pur (aFieldAddr 5 p1) m) fun x92 m =>
  bp (pur (aLoad false 1 x92 m) m) fun x93 m =>
  bp (pur (lenK 1 x93 m) m) fun x94 m =>
  Q172 G (.int .i64 0) x94 x93 p5 p1 m
def Qv8 (G : Gt) (k0 : V → V → V → V → V → M → R) (p56 p55 p54 p5 p1 : V) (m : M) : R :=
  bp (pur (bin .add true true .int p56 (.int .i64 1)) m) fun x95 m =>
  k0 x95 p55 p54 p5 p1 m
def Q173 (G : Gt) (k0 : V → V → V → V → V → M → R) (p54 p56 p5 p55 p1 : V) (m : M) : R :=
  bp (pur (aIndexAddrSl 11 p54 p56) m) fun x96 m =>
  bp (pur (aLoad true 11 x96 m) m) fun x97 m =>
  bp (some (aNew Q9v Qik m)) fun x98 m =>
  bp (unt (aStore 11 x98 x97 m)) fun _ m =>
  brb p5
  (bp (pur (aFieldAddr 0 x98) m) fun x99 m =>
  bp (pur (aLoad false 1 x99 m) m) fun x100 m =>
  bp (pur (bin .neq true true .str x100 (.string ⟨#[97,112,112,108,121,45,103,114,111,117,112,115]⟩)) m) fun x101 m =>
  Qv8 G k0 p56 p55 p54 x101 p1 m)
  (Qv8 G k0 p56 p55 p54 (.bool false) p1 m)
def Q174 (G : Gt) (k0 : V → V → V → V → V → M → R) (p57 p54 p56 p5 p55 p1 : V) (m : M) : R :=
  brb p57
  (Q173 G k0 p54 p56 p5 p55 p1 m)
  (Q1bm G p1 p5 m)
def Q8a (G : Gt) : Nat → V → V → V → V → V → M → R
 | 0, _, _, _, _, _, _ => none
 | i + 1, p56, p55, p54, p5, p1, m =>
  bp (pur (bin .lss false true .int p56 p55) m) fun x102 m =>
  Q174 G (Q8a G i) x102 p54 p56 p5 p55 p1 m
def Q175 (G : Gt) (p56 p55 p54 p5 p1 : V) (m : M) : R :=
  Q8a G G.rds p56 p55 p54 p5 p1 m
def Qmo (G : Gt) (p1 p5 : V) (m : M) : R :=
  bp (pur (aFieldAddr 3 p1) m) fun x103 m =>
  bp (pur (aLoad false 1 x103 m) m) fun x104 m =>
  bp (pur (lenK 1 x104 m) m) fun x105 m =>
  Q175 G (.int .i64 0) x105 x104 p5 p1 m
def Q1bn (G : Gt) (p1 : V) (m : M) : R :=
  bp (pur (aFieldAddr 6 p1) m) fun x106 m =>
  bp (pur (aLoad false 1 x106 m) m) fun x107 m =>
  bp (G.tab Qhw [x107] m) fun x108 m =>
  bp (pur (un .not x108) m) fun x109 m =>
  brb x109
  (bp (pur (aFieldAddr 5 p1) m) fun x110 m =>
  bp (pur (aLoad false 1 x110 m) m) fun x111 m =>
  bp (G.tab Qg7 [x111] m) fun x112 m =>
  bp (pur (un .not x112) m) fun x113 m =>
  brb x113
  (bp (pur (aFieldAddr 2 p1) m) fun x114 m =>
  bp (pur (aLoad false 1 x114 m) m) fun x115 m =>
  bp (G.tab Q3z [x115, (.string ⟨#[97,112,112,108,121,45,103,114,111,117,112,115]⟩)] m) fun x116 m =>
  bp (pur (un .not x116) m) fun x117 m =>
  Qmo G p1 x117 m)
  (Qmo G p1 (.bool false) m))
  (Qmo G p1 (.bool false) m)
def Qv9 (G : Gt) (p36 p1 : V) (m : M) : R :=
  brb p36
  (some ((.bool false), m))
  (Q1bn G p1 m)
def Q176 (G : Gt) (p4 p1 : V) (m : M) : R :=
  bp (pur (bin .neq true true .int p4 (.int .i64 0)) m) fun x118 m =>
  brb x118
  (Qv9 G (.bool true) p1 m)
  (bp (pur (aFieldAddr 1 p1) m) fun x119 m =>
  bp (pur (aLoad false 1 x119 m) m) fun x120 m =>
  bp (pur (bin .neq true true .int x120 (.int .u8 2)) m) fun x121 m =>
  Qv9 G x121 p1 m)
def Q1bo (G : Gt) (p1 : V) (m : M) : R :=
  bp (pur (aLoad true 12 p1 m) m) fun x122 m =>
  bp (G.tab Q1di [x122] m) fun x123 m =>
  bp (pur (aExtract x123 0) m) fun x124 m =>
  bp (pur (aExtract x123 1) m) fun x125 m =>
  Q176 G x125 p1 m
def Q146 (G : Gt) (p0 : V) (m : M) : R :=
  bp (some (aNew Ql (Value.cells p0).toList m)) fun x126 m =>
  Q1bo G x126 m
theorem Q1nf (G : Gt) (a0 : V) (m : M) : evFn Tryz.prog G.tab G.rds (drOf Tryz.prog G.tab) Tryz.f11 [a0] m = Q146 G a0 m :=
  evFn_of (r := fun ρ m => Q146 G (ρ 0) m) rfl rfl (tr (seqQ (f := fun ρ m => Q1bo G (ρ 1) m) (tr (tr (seqQ (f := fun ρ m => Q1bn G (ρ 1) m) (tr (seqQ (f := fun ρ m => Qmo G (ρ 1) (ρ 5) m) (tr (tr (seqQ (f := fun ρ m => Q1bm G (ρ 1) (ρ 5) m) (tr (tr (seqQ (f := fun ρ m => Q1bl G (ρ 1) (ρ 5) m) (tr (tr (seqQ (f := fun ρ m => Q1bk G (ρ 1) (ρ 5) m) (tr (tr (seqQ (f := fun ρ m => Q1bj G (ρ 1) (ρ 5) m) (tr (tr (seqQ (f := fun ρ m => Q1bi G (ρ 1) (ρ 5) m) (tr (tr (seqQ (f := fun ρ m => Q1bh G (ρ 1) (ρ 5) m) (tr (tr (seqQ (f := fun ρ m => Q1bg G (ρ 5) m) (fun ρ m => by kernel_rfl)) (seqQ (f := fun ρ m => Q16b G (ρ 178) (ρ 177) (ρ 176) (ρ 5) m) (tr (blockQ (loopQ (fun i ρ m => Q85 G i (ρ 178) (ρ 177) (ρ 176) (ρ 5) m) (fun _ _ => rfl) (fun i0 => tr (seqQ (f := fun ρ m => Q16a G (Q85 G i0) (ρ 179) (ρ 176) (ρ 178) (ρ 5) (ρ 177) m) (tr (seqQ (f := fun ρ m => Q169 G (Q85 G i0) (ρ 176) (ρ 178) (ρ 5) (ρ 177) m) (tr (seqQ (f := fun ρ m => Qv2 G (Q85 G i0) (ρ 178) (ρ 177) (ρ 176) (ρ 5) m) (fun ρ m => by kernel_rfl)) (fun ρ m => by kernel_rfl))) (fun ρ m => by kernel_rfl))) (fun ρ m => by kernel_rfl)))) (fun ρ m => by kernel_rfl)))) (fun ρ m => by kernel_rfl))) (seqQ (f := fun ρ m => Q16e G (ρ 164) (ρ 163) (ρ 162) (ρ 5) (ρ 1) m) (tr (blockQ (loopQ (fun i ρ m => Q86 G i (ρ 164) (ρ 163) (ρ 162) (ρ 5) (ρ 1) m) (fun _ _ => rfl) (fun i0 => tr (seqQ (f := fun ρ m => Q16d G (Q86 G i0) (ρ 165) (ρ 162) (ρ 164) (ρ 5) (ρ 163) (ρ 1) m) (tr (seqQ (f := fun ρ m => Q16c G (Q86 G i0) (ρ 162) (ρ 164) (ρ 5) (ρ 163) (ρ 1) m) (tr (seqQ (f := fun ρ m => Qv3 G (Q86 G i0) (ρ 164) (ρ 163) (ρ 162) (ρ 5) (ρ 1) m) (fun ρ m => by kernel_rfl)) (fun ρ m => by kernel_rfl))) (fun ρ m => by kernel_rfl))) (fun ρ m => by kernel_rfl)))) (fun ρ m => by kernel_rfl)))) (fun ρ m => by kernel_rfl))) (seqQ (f := fun ρ m => Q16o G (ρ 130) (ρ 129) (ρ 128) (ρ 5) (ρ 1) m) (tr (blockQ (loopQ (fun i ρ m => Qu G i (ρ 130) (ρ 129) (ρ 128) (ρ 5) (ρ 1) m) (fun _ _ => rfl) (fun i0 => tr (seqQ (f := fun ρ m => Q16n G (Qu G i0) (ρ 131) (ρ 128) (ρ 130) (ρ 5) (ρ 129) (ρ 1) m) (tr (seqQ (f := fun ρ m => Q16m G (Qu G i0) (ρ 128) (ρ 130) (ρ 5) (ρ 129) (ρ 1) m) (tr (tr (seqQ (f := fun ρ m => Qv4 G (Qu G i0) (ρ 130) (ρ 129) (ρ 128) (ρ 5) (ρ 1) m) (fun ρ m => by kernel_rfl)) (blockQ (seqQ (f := fun ρ m => Q16l G (Qu G i0) (ρ 17) (ρ 5) (ρ 130) (ρ 129) (ρ 128) (ρ 1) m) (tr (seqQ (f := fun ρ m => Q16k G (Qu G i0) (ρ 17) (ρ 5) (ρ 18) (ρ 130) (ρ 129) (ρ 128) (ρ 1) m) (tr (tr (seqQ (f := fun ρ m => Q16f G (Qu G i0) (ρ 5) (ρ 18) (ρ 130) (ρ 129) (ρ 128) (ρ 1) m) (fun ρ m => by kernel_rfl)) (seqQ (f := fun ρ m => Q16j G (Qu G i0) (ρ 137) (ρ 136) (ρ 135) (ρ 5) (ρ 18) (ρ 130) (ρ 129) (ρ 128) (ρ 1) m) (tr (blockQ (loopQ (fun i ρ m => Q62 G (Qu G i0) i (ρ 137) (ρ 136) (ρ 135) (ρ 5) (ρ 18) (ρ 130) (ρ 129) (ρ 128) (ρ 1) m) (fun _ _ => rfl) (fun i1 => tr (seqQ (f := fun ρ m => Q16i G (Q62 G (Qu G i0) i1) (Qu G i0) (ρ 138) (ρ 135) (ρ 137) (ρ 5) (ρ 18) (ρ 136) (ρ 130) (ρ 129) (ρ 128) (ρ 1) m) (tr (seqQ (f := fun ρ m => Q16h G (Q62 G (Qu G i0) i1) (ρ 135) (ρ 137) (ρ 5) (ρ 18) (ρ 136) (ρ 130) (ρ 129) (ρ 128) (ρ 1) m) (tr (tr seqD (blockQ (seqQ (f := fun ρ m => Q16g G (Q62 G (Qu G i0) i1) (ρ 5) (ρ 20) (ρ 18) (ρ 137) (ρ 136) (ρ 135) (ρ 130) (ρ 129) (ρ 128) (ρ 1) m) (tr (seqQ (f := fun ρ m => Qv5 G (Q62 G (Qu G i0) i1) (ρ 18) (ρ 20) (ρ 137) (ρ 136) (ρ 135) (ρ 5) (ρ 130) (ρ 129) (ρ 128) (ρ 1) m) (fun ρ m => by kernel_rfl)) (fun ρ m => by kernel_rfl))))) (fun ρ m => by kernel_rfl))) (fun ρ m => by kernel_rfl))) (fun ρ m => by kernel_rfl)))) (fun ρ m => by kernel_rfl)))) (fun ρ m => by kernel_rfl))) (fun ρ m => by kernel_rfl))))) (fun ρ m => by kernel_rfl))) (fun ρ m => by kernel_rfl))) (fun ρ m => by kernel_rfl)))) (fun ρ m => by kernel_rfl)))) (fun ρ m => by kernel_rfl))) (seqQ (f := fun ρ m => Q16r G (ρ 115) (ρ 114) (ρ 113) (ρ 5) (ρ 1) m) (tr (blockQ (loopQ (fun i ρ m => Q87 G i (ρ 115) (ρ 114) (ρ 113) (ρ 5) (ρ 1) m) (fun _ _ => rfl) (fun i0 => tr (seqQ (f := fun ρ m => Q16q G (Q87 G i0) (ρ 116) (ρ 113) (ρ 115) (ρ 5) (ρ 114) (ρ 1) m) (tr (seqQ (f := fun ρ m => Q16p G (Q87 G i0) (ρ 113) (ρ 115) (ρ 5) (ρ 114) (ρ 1) m) (tr (seqQ (f := fun ρ m => Qv6 G (Q87 G i0) (ρ 115) (ρ 114) (ρ 113) (ρ 5) (ρ 1) m) (fun ρ m => by kernel_rfl)) (fun ρ m => by kernel_rfl))) (fun ρ m => by kernel_rfl))) (fun ρ m => by kernel_rfl)))) (fun ρ m => by kernel_rfl)))) (fun ρ m => by kernel_rfl))) (seqQ (f := fun ρ m => Q16z G (ρ 84) (ρ 83) (ρ 82) (ρ 5) (ρ 1) m) (tr (blockQ (loopQ (fun i ρ m => Q1b G i (ρ 84) (ρ 83) (ρ 82) (ρ 5) (ρ 1) m) (fun _ _ => rfl) (fun i0 => tr (seqQ (f := fun ρ m => Q16y G (Q1b G i0) (ρ 85) (ρ 82) (ρ 84) (ρ 5) (ρ 83) (ρ 1) m) (tr (seqQ (f := fun ρ m => Q16x G (Q1b G i0) (ρ 82) (ρ 84) (ρ 5) (ρ 83) (ρ 1) m) (tr (tr (seqQ (f := fun ρ m => Q16s G (Q1b G i0) (ρ 84) (ρ 83) (ρ 82) (ρ 5) (ρ 1) m) (fun ρ m => by kernel_rfl)) (blockQ (seqQ (f := fun ρ m => Q16w G (Q1b G i0) (ρ 11) (ρ 5) (ρ 84) (ρ 83) (ρ 82) (ρ 1) m) (tr (seqQ (f := fun ρ m => Q16v G (Q1b G i0) (ρ 91) (ρ 90) (ρ 89) (ρ 5) (ρ 84) (ρ 83) (ρ 82) (ρ 1) m) (tr (blockQ (loopQ (fun i ρ m => Q88 G (Q1b G i0) i (ρ 91) (ρ 90) (ρ 89) (ρ 5) (ρ 84) (ρ 83) (ρ 82) (ρ 1) m) (fun _ _ => rfl) (fun i1 => tr (seqQ (f := fun ρ m => Q16u G (Q88 G (Q1b G i0) i1) (Q1b G i0) (ρ 92) (ρ 91) (ρ 89) (ρ 5) (ρ 90) (ρ 84) (ρ 83) (ρ 82) (ρ 1) m) (tr (seqQ (f := fun ρ m => Q16t G (Q88 G (Q1b G i0) i1) (ρ 91) (ρ 89) (ρ 5) (ρ 90) (ρ 84) (ρ 83) (ρ 82) (ρ 1) m) (tr (seqQ (f := fun ρ m => Qk4 G (Q88 G (Q1b G i0) i1) (ρ 91) (ρ 90) (ρ 89) (ρ 5) (ρ 84) (ρ 83) (ρ 82) (ρ 1) m) (fun ρ m => by kernel_rfl)) (fun ρ m => by kernel_rfl))) (fun ρ m => by kernel_rfl))) (fun ρ m => by kernel_rfl)))) (fun ρ m => by kernel_rfl))) (fun ρ m => by kernel_rfl))))) (fun ρ m => by kernel_rfl))) (fun ρ m => by kernel_rfl))) (fun ρ m => by kernel_rfl)))) (fun ρ m => by kernel_rfl)))) (fun ρ m => by kernel_rfl))) (seqQ (f := fun ρ m => Q172 G (ρ 70) (ρ 69) (ρ 68) (ρ 5) (ρ 1) m) (tr (blockQ (loopQ (fun i ρ m => Q89 G i (ρ 70) (ρ 69) (ρ 68) (ρ 5) (ρ 1) m) (fun _ _ => rfl) (fun i0 => tr (seqQ (f := fun ρ m => Q171 G (Q89 G i0) (ρ 71) (ρ 68) (ρ 70) (ρ 5) (ρ 69) (ρ 1) m) (tr (seqQ (f := fun ρ m => Q170 G (Q89 G i0) (ρ 68) (ρ 70) (ρ 5) (ρ 69) (ρ 1) m) (tr (seqQ (f := fun ρ m => Qv7 G (Q89 G i0) (ρ 70) (ρ 69) (ρ 68) (ρ 5) (ρ 1) m) (fun ρ m => by kernel_rfl)) (fun ρ m => by kernel_rfl))) (fun ρ m => by kernel_rfl))) (fun ρ m => by kernel_rfl)))) (fun ρ m => by kernel_rfl)))) (fun ρ m => by kernel_rfl))) (seqQ (f := fun ρ m => Q175 G (ρ 56) (ρ 55) (ρ 54) (ρ 5) (ρ 1) m) (tr (blockQ (loopQ (fun i ρ m => Q8a G i (ρ 56) (ρ 55) (ρ 54) (ρ 5) (ρ 1) m) (fun _ _ => rfl) (fun i0 => tr (seqQ (f := fun ρ m => Q174 G (Q8a G i0) (ρ 57) (ρ 54) (ρ 56) (ρ 5) (ρ 55) (ρ 1) m) (tr (seqQ (f := fun ρ m => Q173 G (Q8a G i0) (ρ 54) (ρ 56) (ρ 5) (ρ 55) (ρ 1) m) (tr (seqQ (f := fun ρ m => Qv8 G (Q8a G i0) (ρ 56) (ρ 55) (ρ 54) (ρ 5) (ρ 1) m) (fun ρ m => by kernel_rfl)) (fun ρ m => by kernel_rfl))) (fun ρ m => by kernel_rfl))) (fun ρ m => by kernel_rfl)))) (fun ρ m => by kernel_rfl)))) (fun ρ m => by kernel_rfl))) (fun ρ m => by kernel_rfl))) (seqQ (f := fun ρ m => Q176 G (ρ 4) (ρ 1) m) (tr (seqQ (f := fun ρ m => Qv9 G (ρ 36) (ρ 1) m) (fun ρ m => by kernel_rfl)) (fun ρ m => by kernel_rfl)))) (fun ρ m => by kernel_rfl))) (fun ρ m => by kernel_rfl)) m
def Q1ng : Entry Tryz.prog := ⟨Q1fb, Tryz.f11, Tryz.func11, by kernel_rfl, arg1 (fun G a0 m => Q146 G a0 m), okarg1 Q1nf⟩
end
end Go.Ab.Sh

set_option linter.unusedVariables false
set_option maxRecDepth 100000
namespace Go.Ab.Sh
open Go Go.Ab Go.Proofs
noncomputable section
def Q106 (G : Gt) (p1 p0 : V) (m : M) : R :=
  bp (some (aNew Q2 Q4 m)) fun x0 m =>
  bp (G.tab Qc5 [p1] m) fun x1 m =>
  bp (some (aNew Q2 Q4 m)) fun x2 m =>
  bp (unt (aStore 4 x2 x1 m)) fun _ m =>
  bp (pur (aFieldAddr 2 x2) m) fun x3 m =>
  bp (unt (aStore 1 x3 (.bool true) m)) fun _ m =>
  bp (pur (aFieldAddr 3 x2) m) fun x4 m =>
  bp (unt (aStore 1 x4 p0 m)) fun _ m =>
  bp (pur (aLoad true 4 x2 m) m) fun x5 m =>
  bp (unt (aStore 4 x0 x5 m)) fun _ m =>
  ob (ob (aLoad true 4 x0 m) fun v => ob (some []) fun l => some (v :: l)) fun l => some (resVal l, m)
theorem Q1lq (G : Gt) (a0 a1 : V) (m : M) : evFn Tryz.prog G.tab G.rds (drOf Tryz.prog G.tab) Tryz.f12 [a0, a1] m = Q106 G a1 a0 m :=
  evFn_of (r := fun ρ m => Q106 G (ρ 1) (ρ 0) m) rfl rfl (fun ρ m => by kernel_rfl) m
def Q1lr : Entry Tryz.prog := ⟨Qn, Tryz.f12, Tryz.func12, by kernel_rfl, arg2 (fun G a0 a1 m => Q106 G a1 a0 m), okarg2 Q1lq⟩
def Q107 (G : Gt) (p0 : V) (m : M) : R :=
  bp (some (aNew Q2 Q4 m)) fun x0 m =>
  bp (some (aNew Q2 Q4 m)) fun x1 m =>
  bp (G.tab Qa8 [p0, (.string ⟨#[32]⟩)] m) fun x2 m =>
  bp (G.tab Q12u [x2] m) fun x3 m =>
  bp (pur (aFieldAddr 0 x1) m) fun x4 m =>
  bp (unt (aStore 1 x4 x3 m)) fun _ m =>
  bp (pur (aLoad true 4 x1 m) m) fun x5 m =>
  bp (unt (aStore 4 x0 x5 m)) fun _ m =>
  ob (ob (aLoad true 4 x0 m) fun v => ob (some []) fun l => some (v :: l)) fun l => some (resVal l, m)
theorem Q1ls (G : Gt) (a0 : V) (m : M) : evFn Tryz.prog G.tab G.rds (drOf Tryz.prog G.tab) Tryz.f13 [a0] m = Q107 G a0 m :=
  evFn_of (r := fun ρ m => Q107 G (ρ 0) m) rfl rfl (fun ρ m => by kernel_rfl) m
def Q1lt : Entry Tryz.prog := ⟨Qc5, Tryz.f13, Tryz.func13, by kernel_rfl, arg1 (fun G a0 m => Q107 G a0 m), okarg1 Q1ls⟩
def Qlx (G : Gt) (p1 p0 p2 : V) (m : M) : R :=
  brb p1
  (bp (pur (aNilCheck p0) m) fun x0 m =>
  bp (pur (aFieldAddr 0 x0) m) fun x1 m =>
  bp (pur (aLoad false 1 x1 m) m) fun x2 m =>
  bp (pur (lenK 1 x2 m) m) fun x3 m =>
  bp (aBuildSlice Q2 Q4 4 1 [(0, (.agg #[(.slice none 0 0), (.slice none 0 0), (.bool false), (.slice none 0 0)]))] m) fun x4 m =>
  bp (G.tab Qc5 [p2] m) fun x5 m =>
  ckB (again (pur (aLoad false 1 x1 m) m) x2 && true)
  (bp (apS Q2 4 80 x2 x4 m) fun x6 m =>
  bp (pur (aIndexAddrSl 4 x6 x3) m) fun x7 m =>
  bp (pur (aNilCheck p0) m) fun x8 m =>
  bp (pur (aFieldAddr 0 x8) m) fun x9 m =>
  dfB x7 x9
  (bp (unt (aStore 4 x7 x5 m)) fun _ m =>
  bp (unt (aStore 1 x9 x6 m)) fun _ m =>
  some (.tuple ⟨[]⟩, m))))
  (some (.tuple ⟨[]⟩, m))
theorem Q1ge (G : Gt) (a0 a1 a2 : V) (m : M) : evFn Tryz.prog G.tab G.rds (drOf Tryz.prog G.tab) Tryz.f14 [a0, a1, a2] m = Qlx G a1 a0 a2 m :=
  evFn_of (r := fun ρ m => Qlx G (ρ 1) (ρ 0) (ρ 2) m) rfl rfl (fun ρ m => by kernel_rfl) m
def Q1gf : Entry Tryz.prog := ⟨Q3, Tryz.f14, Tryz.func14, by kernel_rfl, arg3 (fun G a0 a1 a2 m => Qlx G a1 a0 a2 m), okarg3 Q1ge⟩
def Qqy (G : Gt) (p0 : V) (m : M) : R :=
  brb p0
  (some ((.int .i64 1), m))
  (some ((.int .i64 0), m))
theorem Q1id (G : Gt) (a0 : V) (m : M) : evFn Tryz.prog G.tab G.rds (drOf Tryz.prog G.tab) Tryz.f15 [a0] m = Qqy G a0 m :=
  evFn_of (r := fun ρ m => Qqy G (ρ 0) m) rfl rfl (fun ρ m => by kernel_rfl) m
def Q1ie : Entry Tryz.prog := ⟨Qad, Tryz.f15, Tryz.func15, by kernel_rfl, arg1 (fun G a0 m => Qqy G a0 m), okarg1 Q1id⟩
def Q1e2 (G : Gt) (p3 : V) (m : M) : R :=
  bp (pur (aSliceArr 4 1 p3 none none m) m) fun x0 m =>
  bp (G.tab Qa8 [x0, (.string ⟨#[46]⟩)] m) fun x1 m =>
  some (x1, m)
def Q108 (G : Gt) : Nat → V → V → V → M → R
 | 0, _, _, _, _ => none
 | i + 1, p5, p0, p3, m =>
  bp (pur (bin .lss true true .int p5 (.int .i64 4)) m) fun x2 m =>
  brb x2
  (bp (pur (bin .mul true true .int (.int .i64 8) p5) m) fun x3 m =>
  bp (pur (bin .sub true true .int (.int .i64 24) x3) m) fun x4 m =>
  bp (pur (bin .shr false true .int p0 x4) m) fun x5 m =>
  bp (pur (bin .and true true .int x5 (.int .u32 255)) m) fun x6 m =>
  bp (conv (.int .i64) x6 m) fun x7 m =>
  bp (G.tab Q2j [x7] m) fun x8 m =>
  bp (pur (aIndexAddrArr 4 1 p3 p5) m) fun x9 m =>
  bp (unt (aStore 1 x9 x8 m)) fun _ m =>
  bp (pur (bin .add true true .int p5 (.int .i64 1)) m) fun x10 m =>
  (Q108 G i) x10 p0 p3 m)
  (Q1e2 G p3 m)
def Q1e3 (G : Gt) (p5 p0 p3 : V) (m : M) : R :=
  Q108 G G.rds p5 p0 p3 m
def Q1e4 (G : Gt) (p0 p3 : V) (m : M) : R :=
  Q1e3 G (.int .i64 0) p0 p3 m
def Q1e5 (G : Gt) (p0 : V) (m : M) : R :=
  bp (some (aNew Q1o9 Q1of m)) fun x11 m =>
  Q1e4 G p0 x11 m
def Q18n (G : Gt) (p0 : V) (m : M) : R :=
  Q1e5 G p0 m
theorem Q1ol (G : Gt) (a0 : V) (m : M) : evFn Tryz.prog G.tab G.rds (drOf Tryz.prog G.tab) Tryz.f16 [a0] m = Q18n G a0 m :=
  evFn_of (r := fun ρ m => Q18n G (ρ 0) m) rfl rfl (tr (seqQ (f := fun ρ m => Q1e5 G (ρ 0) m) (tr (seqQ (f := fun ρ m => Q1e4 G (ρ 0) (ρ 3) m) (tr (tr (seqQ (f := fun ρ m => Q1e2 G (ρ 3) m) (fun ρ m => by kernel_rfl)) (seqQ (f := fun ρ m => Q1e3 G (ρ 5) (ρ 0) (ρ 3) m) (tr (blockQ (loopQ (fun i ρ m => Q108 G i (ρ 5) (ρ 0) (ρ 3) m) (fun _ _ => rfl) (fun i0 => fun ρ m => by kernel_rfl))) (fun ρ m => by kernel_rfl)))) (fun ρ m => by kernel_rfl))) (fun ρ m => by kernel_rfl))) (fun ρ m => by kernel_rfl)) m
def Q1om : Entry Tryz.prog := ⟨Q7e, Tryz.f16, Tryz.func16, by kernel_rfl, arg1 (fun G a0 m => Q18n G a0 m), okarg1 Q1ol⟩
def Qol (G : Gt) (p0 : V) (m : M) : R :=
  bp (some (aNew Q3o (Value.cells p0).toList m)) fun x0 m =>
  bp (pur (aFieldAddr 0 x0) m) fun x1 m =>
  bp (pur (aLoad false 1 x1 m) m) fun x2 m =>
  bp (pur (aFieldAddr 1 x0) m) fun x3 m =>
  bp (pur (aLoad false 1 x3 m) m) fun x4 m =>
  bp (G.tab Q7e [x2] m) fun x5 m =>
  ckB (again (pur (aLoad false 1 x3 m) m) x4 && true)
  (bp (pur (bin .add true true .str x5 (.string ⟨#[47]⟩)) m) fun x6 m =>
  bp (G.tab Q2j [x4] m) fun x7 m =>
  bp (pur (bin .add false true .str x6 x7) m) fun x8 m =>
  some (x8, m))
theorem Q1hj (G : Gt) (a0 : V) (m : M) : evFn Tryz.prog G.tab G.rds (drOf Tryz.prog G.tab) Tryz.f17 [a0] m = Qol G a0 m :=
  evFn_of (r := fun ρ m => Qol G (ρ 0) m) rfl rfl (fun ρ m => by kernel_rfl) m
def Q1hk : Entry Tryz.prog := ⟨Q67, Tryz.f17, Tryz.func17, by kernel_rfl, arg1 (fun G a0 m => Qol G a0 m), okarg1 Q1hj⟩
def Q147 (G : Gt) (p0 p1 : V) (m : M) : R :=
  bp (pur (un .not p0) m) fun x0 m =>
  brb x0
  (some ((.string ⟨#[]⟩), m))
  (bp (G.tab Qa8 [p1, (.string ⟨#[32]⟩)] m) fun x1 m =>
  some (x1, m))
theorem Q1nh (G : Gt) (a0 a1 : V) (m : M) : evFn Tryz.prog G.tab G.rds (drOf Tryz.prog G.tab) Tryz.f18 [a0, a1] m = Q147 G a0 a1 m :=
  evFn_of (r := fun ρ m => Q147 G (ρ 0) (ρ 1) m) rfl rfl (fun ρ m => by kernel_rfl) m
def Q1ni : Entry Tryz.prog := ⟨Q7j, Tryz.f18, Tryz.func18, by kernel_rfl, arg2 (fun G a0 a1 m => Q147 G a0 a1 m), okarg2 Q1nh⟩
def Qva (G : Gt) (p0 : V) (m : M) : R :=
  bp (G.tab Q2j [p0] m) fun x0 m =>
  some (x0, m)
theorem Q1j3 (G : Gt) (a0 : V) (m : M) : evFn Tryz.prog G.tab G.rds (drOf Tryz.prog G.tab) Tryz.f19 [a0] m = Qva G a0 m :=
  evFn_of (r := fun ρ m => Qva G (ρ 0) m) rfl rfl (fun ρ m => by kernel_rfl) m
def Q1j4 : Entry Tryz.prog := ⟨Qg, Tryz.f19, Tryz.func19, by kernel_rfl, arg1 (fun G a0 m => Qva G a0 m), okarg1 Q1j3⟩
def Q11d (G : Gt) (p3 p2 : V) (m : M) : R :=
  bp (aBuildSlice Q1 [(.string ⟨#[]⟩)] 1 1 [(0, (.string ⟨#[105,110,116,101,114,102,97,99,101,115]⟩))] m) fun x0 m =>
  bp (G.tab Qn [p3, x0] m) fun x1 m =>
  bp (unt (aStore 4 p2 x1 m)) fun _ m =>
  ob (ob (aLoad true 4 p2 m) fun v => ob (some []) fun l => some (v :: l)) fun l => some (resVal l, m)
def Qom (G : Gt) : Nat → V → V → V → V → V → M → R
 | 0, _, _, _, _, _, _ => none
 | i + 1, p10, p9, p8, p3, p2, m =>
  bp (pur (bin .lss false true .int p10 p9) m) fun x2 m =>
  brb x2
  (bp (pur (aIndexAddrSl 11 p8 p10) m) fun x3 m =>
  bp (pur (aLoad true 11 x3 m) m) fun x4 m =>
  bp (some (aNew Q9v Qik m)) fun x5 m =>
  bp (unt (aStore 11 x5 x4 m)) fun _ m =>
  bp (some (aNew Q1r [(.slice none 0 0)] m)) fun x6 m =>
  bp (pur (aFieldAddr 1 x5) m) fun x7 m =>
  bp (pur (aLoad false 1 x7 m) m) fun x8 m =>
  bp (pur (bin .neq true true .str x8 (.string ⟨#[]⟩)) m) fun x9 m =>
  bp (pur (aFieldAddr 1 x5) m) fun x10 m =>
  bp (pur (aLoad false 1 x10 m) m) fun x11 m =>
  bp (aBuildSlice Q1 [(.string ⟨#[]⟩)] 1 2 [(0, (.string ⟨#[105,110,115,116,97,110,99,101]⟩)), (1, x11)] m) fun x12 m =>
  bp (G.tab Q3 [x6, x9, x12] m) fun x13 m =>
  bp (pur (aFieldAddr 3 x5) m) fun x14 m =>
  bp (pur (aLoad false 1 x14 m) m) fun x15 m =>
  bp (pur (bin .gtr true true .int x15 (.int .i64 0)) m) fun x16 m =>
  bp (pur (aFieldAddr 2 x5) m) fun x17 m =>
  bp (pur (aLoad false 1 x17 m) m) fun x18 m =>
  bp (pur (aFieldAddr 3 x5) m) fun x19 m =>
  bp (pur (aLoad false 1 x19 m) m) fun x20 m =>
  bp (G.tab Q7e [x18] m) fun x21 m =>
  ckB (again (pur (aLoad false 1 x14 m) m) x15 && (again (pur (aLoad false 1 x19 m) m) x20 && true))
  (bp (pur (bin .add true true .str x21 (.string ⟨#[47]⟩)) m) fun x22 m =>
  bp (G.tab Qg [x20] m) fun x23 m =>
  ckB (again (pur (aLoad false 1 x14 m) m) x15 && true)
  (bp (pur (bin .add false true .str x22 x23) m) fun x24 m =>
  bp (aBuildSlice Q1 [(.string ⟨#[]⟩)] 1 2 [(0, (.string ⟨#[97,100,100,114,101,115,115]⟩)), (1, x24)] m) fun x25 m =>
  bp (G.tab Q3 [x6, x16, x25] m) fun x26 m =>
  bp (pur (aFieldAddr 5 x5) m) fun x27 m =>
  bp (pur (aLoad false 1 x27 m) m) fun x28 m =>
  bp (pur (bin .neq true true .str x28 (.string ⟨#[]⟩)) m) fun x29 m =>
  bp (pur (aFieldAddr 5 x5) m) fun x30 m =>
  bp (pur (aLoad false 1 x30 m) m) fun x31 m =>
  bp (aBuildSlice Q1 [(.string ⟨#[]⟩)] 1 3 [(0, (.string ⟨#[102,105,108,116,101,114]⟩)), (1, (.string ⟨#[105,110,112,117,116]⟩)), (2, x31)] m) fun x32 m =>
  bp (G.tab Q3 [x6, x29, x32] m) fun x33 m =>
  bp (pur (aFieldAddr 6 x5) m) fun x34 m =>
  bp (pur (aLoad false 1 x34 m) m) fun x35 m =>
  bp (pur (bin .neq true true .str x35 (.string ⟨#[]⟩)) m) fun x36 m =>
  bp (pur (aFieldAddr 6 x5) m) fun x37 m =>
  bp (pur (aLoad false 1 x37 m) m) fun x38 m =>
  bp (aBuildSlice Q1 [(.string ⟨#[]⟩)] 1 3 [(0, (.string ⟨#[102,105,108,116,101,114]⟩)), (1, (.string ⟨#[111,117,116,112,117,116]⟩)), (2, x38)] m) fun x39 m =>
  bp (G.tab Q3 [x6, x36, x39] m) fun x40 m =>
  bp (pur (aFieldAddr 7 x5) m) fun x41 m =>
  bp (pur (aLoad false 1 x41 m) m) fun x42 m =>
  bp (pur (bin .eql true true .int x42 (.int .u8 1)) m) fun x43 m =>
  bp (aBuildSlice Q1 [(.string ⟨#[]⟩)] 1 2 [(0, (.string ⟨#[110,97,116]⟩)), (1, (.string ⟨#[105,110,115,105,100,101]⟩))] m) fun x44 m =>
  bp (G.tab Q3 [x6, x43, x44] m) fun x45 m =>
  bp (pur (aFieldAddr 7 x5) m) fun x46 m =>
  bp (pur (aLoad false 1 x46 m) m) fun x47 m =>
  bp (pur (bin .eql true true .int x47 (.int .u8 2)) m) fun x48 m =>
  bp (aBuildSlice Q1 [(.string ⟨#[]⟩)] 1 2 [(0, (.string ⟨#[110,97,116]⟩)), (1, (.string ⟨#[111,117,116,115,105,100,101]⟩))] m) fun x49 m =>
  bp (G.tab Q3 [x6, x48, x49] m) fun x50 m =>
  bp (pur (aFieldAddr 8 x5) m) fun x51 m =>
  bp (pur (aLoad false 1 x51 m) m) fun x52 m =>
  bp (pur (bin .geq true true .int x52 (.int .i64 0)) m) fun x53 m =>
  bp (pur (aFieldAddr 8 x5) m) fun x54 m =>
  bp (pur (aLoad false 1 x54 m) m) fun x55 m =>
  bp (G.tab Qg [x55] m) fun x56 m =>
  ckB (again (pur (aLoad false 1 x51 m) m) x52 && true)
  (bp (aBuildSlice Q1 [(.string ⟨#[]⟩)] 1 2 [(0, (.string ⟨#[97,114,101,97]⟩)), (1, x56)] m) fun x57 m =>
  bp (G.tab Q3 [x6, x53, x57] m) fun x58 m =>
  bp (pur (aFieldAddr 9 x5) m) fun x59 m =>
  bp (pur (aLoad false 1 x59 m) m) fun x60 m =>
  bp (G.tab Qg [x60] m) fun x61 m =>
  bp (aBuildSlice Q1 [(.string ⟨#[]⟩)] 1 2 [(0, (.string ⟨#[109,101,116,114,105,99]⟩)), (1, x61)] m) fun x62 m =>
  bp (G.tab Q3 [x6, (.bool true), x62] m) fun x63 m =>
  bp (pur (aFieldAddr 10 x5) m) fun x64 m =>
  bp (pur (aLoad false 1 x64 m) m) fun x65 m =>
  bp (aBuildSlice Q1 [(.string ⟨#[]⟩)] 1 1 [(0, (.string ⟨#[112,97,115,115,105,118,101]⟩))] m) fun x66 m =>
  bp (G.tab Q3 [x6, x65, x66] m) fun x67 m =>
  bp (pur (aFieldAddr 4 x5) m) fun x68 m =>
  bp (pur (aLoad false 1 x68 m) m) fun x69 m =>
  bp (aBuildSlice Q1 [(.string ⟨#[]⟩)] 1 1 [(0, (.string ⟨#[100,105,115,97,98,108,101]⟩))] m) fun x70 m =>
  bp (G.tab Q3 [x6, x69, x70] m) fun x71 m =>
  bp (pur (aFieldAddr 0 x6) m) fun x72 m =>
  bp (pur (aLoad false 1 x72 m) m) fun x73 m =>
  bp (pur (aFieldAddr 0 x5) m) fun x74 m =>
  bp (pur (aLoad false 1 x74 m) m) fun x75 m =>
  bp (aBuildSlice Q1 [(.string ⟨#[]⟩)] 1 1 [(0, x75)] m) fun x76 m =>
  bp (G.tab Qn [x73, x76] m) fun x77 m =>
  bp (aBuildSlice Q2 Q4 4 1 [(0, x77)] m) fun x78 m =>
  bp (apS Q2 4 80 p3 x78 m) fun x79 m =>
  bp (pur (bin .add true true .int p10 (.int .i64 1)) m) fun x80 m =>
  (Qom G i) x80 p9 p8 x79 p2 m))))
  (Q11d G p3 p2 m)
def Q11e (G : Gt) (p10 p9 p8 p3 p2 : V) (m : M) : R :=
  Qom G G.rds p10 p9 p8 p3 p2 m
def Q11f (G : Gt) (p1 p3 p2 : V) (m : M) : R :=
  bp (pur (aFieldAddr 3 p1) m) fun x81 m =>
  bp (pur (aLoad false 1 x81 m) m) fun x82 m =>
  bp (pur (lenK 1 x82 m) m) fun x83 m =>
  Q11e G (.int .i64 0) x83 x82 p3 p2 m
def Q11g (G : Gt) (p1 p2 : V) (m : M) : R :=
  Q11f G p1 (.slice none 0 0) p2 m
def Qvb (G : Gt) (p0 : V) (m : M) : R :=
  bp (some (aNew Ql (Value.cells p0).toList m)) fun x84 m =>
  bp (some (aNew Q2 Q4 m)) fun x85 m =>
  Q11g G x84 x85 m
theorem Q1j5 (G : Gt) (a0 : V) (m : M) : evFn Tryz.prog G.tab G.rds (drOf Tryz.prog G.tab) Tryz.f20 [a0] m = Qvb G a0 m :=
  evFn_of (r := fun ρ m => Qvb G (ρ 0) m) rfl rfl (tr (seqQ (f := fun ρ m => Q11g G (ρ 1) (ρ 2) m) (tr (seqQ (f := fun ρ m => Q11f G (ρ 1) (ρ 3) (ρ 2) m) (tr (tr (seqQ (f := fun ρ m => Q11d G (ρ 3) (ρ 2) m) (fun ρ m => by kernel_rfl)) (seqQ (f := fun ρ m => Q11e G (ρ 10) (ρ 9) (ρ 8) (ρ 3) (ρ 2) m) (tr (blockQ (loopQ (fun i ρ m => Qom G i (ρ 10) (ρ 9) (ρ 8) (ρ 3) (ρ 2) m) (fun _ _ => rfl) (fun i0 => fun ρ m => by kernel_rfl))) (fun ρ m => by kernel_rfl)))) (fun ρ m => by kernel_rfl))) (fun ρ m => by kernel_rfl))) (fun ρ m => by kernel_rfl)) m
def Q1j6 : Entry Tryz.prog := ⟨Q15n, Tryz.f20, Tryz.func20, by kernel_rfl, arg1 (fun G a0 m => Qvb G a0 m), okarg1 Q1j5⟩
def Qwu (G : Gt) (p3 p2 : V) (m : M) : R :=
  bp (aBuildSlice Q1 [(.string ⟨#[]⟩)] 1 1 [(0, (.string ⟨#[102,105,114,101,119,97,108,108]⟩))] m) fun x0 m =>
  bp (G.tab Qn [p3, x0] m) fun x1 m =>
  bp (unt (aStore 4 p2 x1 m)) fun _ m =>
  ob (ob (aLoad true 4 p2 m) fun v => ob (some []) fun l => some (v :: l)) fun l => some (resVal l, m)
def Qwv (G : Gt) (k0 : V → V → V → V → V → M → R) (p3 p6 p5 p13 p12 p11 p2 : V) (m : M) : R :=
  bp (pur (aFieldAddr 0 p5) m) fun x2 m =>
  bp (pur (aLoad false 1 x2 m) m) fun x3 m =>
  bp (aBuildSlice Q1 [(.string ⟨#[]⟩)] 1 2 [(0, (.string ⟨#[102,105,108,116,101,114]⟩)), (1, x3)] m) fun x4 m =>
  bp (G.tab Qn [p6, x4] m) fun x5 m =>
  bp (aBuildSlice Q2 Q4 4 1 [(0, x5)] m) fun x6 m =>
  bp (apS Q2 4 80 p3 x6 m) fun x7 m =>
  bp (pur (bin .add true true .int p13 (.int .i64 1)) m) fun x8 m =>
  k0 x8 p12 p11 x7 p2 m
def Qhl (G : Gt) (k0 : V → V → V → V → V → M → R) : Nat → V → V → V → V → V → V → V → V → V → V → M → R
 | 0, _, _, _, _, _, _, _, _, _, _, _ => none
 | i + 1, p20, p19, p18, p6, p3, p5, p13, p12, p11, p2, m =>
  bp (pur (bin .lss false true .int p20 p19) m) fun x9 m =>
  brb x9
  (bp (pur (aIndexAddrSl 10 p18 p20) m) fun x10 m =>
  bp (pur (aLoad true 10 x10 m) m) fun x11 m =>
  bp (some (aNew Qmi Q11k m)) fun x12 m =>
  bp (unt (aStore 10 x12 x11 m)) fun _ m =>
  bp (some (aNew Q1r [(.slice none 0 0)] m)) fun x13 m =>
  bp (pur (aFieldAddr 1 x12) m) fun x14 m =>
  bp (pur (aLoad false 1 x14 m) m) fun x15 m =>
  bp (pur (bin .geq true true .int x15 (.int .i64 0)) m) fun x16 m =>
  bp (pur (aFieldAddr 1 x12) m) fun x17 m =>
  bp (pur (aLoad false 1 x17 m) m) fun x18 m =>
  bp (G.tab Qg [x18] m) fun x19 m =>
  ckB (again (pur (aLoad false 1 x14 m) m) x15 && true)
  (bp (aBuildSlice Q1 [(.string ⟨#[]⟩)] 1 2 [(0, (.string ⟨#[112,114,111,116,111,99,111,108]⟩)), (1, x19)] m) fun x20 m =>
  bp (G.tab Q3 [x13, x16, x20] m) fun x21 m =>
  bp (pur (aFieldAddr 2 x12) m) fun x22 m =>
  bp (pur (aLoad true 2 x22 m) m) fun x23 m =>
  bp (G.tab Q67 [x23] m) fun x24 m =>
  bp (aBuildSlice Q1 [(.string ⟨#[]⟩)] 1 2 [(0, (.string ⟨#[115,111,117,114,99,101]⟩)), (1, x24)] m) fun x25 m =>
  bp (G.tab Q3 [x13, (.bool true), x25] m) fun x26 m =>
  bp (pur (aFieldAddr 4 x12) m) fun x27 m =>
  bp (pur (aLoad true 2 x27 m) m) fun x28 m =>
  bp (G.tab Q67 [x28] m) fun x29 m =>
  bp (aBuildSlice Q1 [(.string ⟨#[]⟩)] 1 2 [(0, (.string ⟨#[100,101,115,116,105,110,97,116,105,111,110]⟩)), (1, x29)] m) fun x30 m =>
  bp (G.tab Q3 [x13, (.bool true), x30] m) fun x31 m =>
  bp (pur (aFieldAddr 6 x12) m) fun x32 m =>
  bp (pur (aLoad true 2 x32 m) m) fun x33 m =>
  bp (G.tab Qx9 [x33] m) fun x34 m =>
  bp (aBuildSlice Q1 [(.string ⟨#[]⟩)] 1 2 [(0, (.string ⟨#[115,111,117,114,99,101,45,112,111,114,116]⟩)), (1, x34)] m) fun x35 m =>
  bp (G.tab Q3 [x13, (.bool true), x35] m) fun x36 m =>
  bp (pur (aFieldAddr 8 x12) m) fun x37 m =>
  bp (pur (aLoad true 2 x37 m) m) fun x38 m =>
  bp (G.tab Qx9 [x38] m) fun x39 m =>
  bp (aBuildSlice Q1 [(.string ⟨#[]⟩)] 1 2 [(0, (.string ⟨#[100,101,115,116,105,110,97,116,105,111,110,45,112,111,114,116]⟩)), (1, x39)] m) fun x40 m =>
  bp (G.tab Q3 [x13, (.bool true), x40] m) fun x41 m =>
  bp (pur (aFieldAddr 0 x13) m) fun x42 m =>
  bp (pur (aLoad false 1 x42 m) m) fun x43 m =>
  bp (aBuildSlice Q1 [(.string ⟨#[]⟩)] 1 1 [(0, (.string ⟨#[102,114,111,109]⟩))] m) fun x44 m =>
  bp (pur (aBuildArr Qy6 1 [(0, (.string ⟨#[100,105,115,99,97,114,100]⟩)), (1, (.string ⟨#[97,99,99,101,112,116]⟩))]) m) fun x45 m =>
  bp (pur (aFieldAddr 0 x12) m) fun x46 m =>
  bp (pur (aLoad false 1 x46 m) m) fun x47 m =>
  bp (G.tab Qn [x43, x44] m) fun x48 m =>
  ckB (again (pur (aLoad false 1 x46 m) m) x47 && true)
  (bp (G.tab Qad [x47] m) fun x49 m =>
  bp (pur (aIndexArr 2 1 false x45 x49) m) fun x50 m =>
  bp (aBuildSlice Q1 [(.string ⟨#[]⟩)] 1 2 [(0, (.string ⟨#[116,104,101,110]⟩)), (1, x50)] m) fun x51 m =>
  bp (G.tab Qc5 [x51] m) fun x52 m =>
  bp (aBuildSlice Q2 Q4 4 2 [(0, x48), (1, x52)] m) fun x53 m =>
  bp (G.tab Qg [p20] m) fun x54 m =>
  bp (pur (bin .add true true .str (.string ⟨#[116]⟩) x54) m) fun x55 m =>
  bp (aBuildSlice Q1 [(.string ⟨#[]⟩)] 1 2 [(0, (.string ⟨#[116,101,114,109]⟩)), (1, x55)] m) fun x56 m =>
  bp (G.tab Qn [x53, x56] m) fun x57 m =>
  bp (aBuildSlice Q2 Q4 4 1 [(0, x57)] m) fun x58 m =>
  bp (apS Q2 4 80 p6 x58 m) fun x59 m =>
  bp (pur (bin .add true true .int p20 (.int .i64 1)) m) fun x60 m =>
  (Qhl G k0 i) x60 p19 p18 x59 p3 p5 p13 p12 p11 p2 m)))
  (Qwv G k0 p3 p6 p5 p13 p12 p11 p2 m)
def Qvc (G : Gt) (k0 : V → V → V → V → V → M → R) (p20 p19 p18 p6 p3 p5 p13 p12 p11 p2 : V) (m : M) : R :=
  Qhl G k0 G.rds p20 p19 p18 p6 p3 p5 p13 p12 p11 p2 m
def Qww (G : Gt) (k0 : V → V → V → V → V → M → R) (p5 p6 p3 p13 p12 p11 p2 : V) (m : M) : R :=
  bp (pur (aFieldAddr 1 p5) m) fun x61 m =>
  bp (pur (aLoad false 1 x61 m) m) fun x62 m =>
  bp (pur (lenK 1 x62 m) m) fun x63 m =>
  Qvc G k0 (.int .i64 0) x63 x62 p6 p3 p5 p13 p12 p11 p2 m
def Qwx (G : Gt) (k0 : V → V → V → V → V → M → R) (p5 p3 p13 p12 p11 p2 : V) (m : M) : R :=
  Qww G k0 p5 (.slice none 0 0) p3 p13 p12 p11 p2 m
def Qwy (G : Gt) (k0 : V → V → V → V → V → M → R) (p11 p13 p3 p12 p2 : V) (m : M) : R :=
  bp (pur (aIndexAddrSl 2 p11 p13) m) fun x64 m =>
  bp (pur (aLoad true 2 x64 m) m) fun x65 m =>
  bp (some (aNew Q7g Qke m)) fun x66 m =>
  bp (unt (aStore 2 x66 x65 m)) fun _ m =>
  Qwx G k0 x66 p3 p13 p12 p11 p2 m
def Qwz (G : Gt) (k0 : V → V → V → V → V → M → R) (p14 p11 p13 p3 p12 p2 : V) (m : M) : R :=
  brb p14
  (Qwy G k0 p11 p13 p3 p12 p2 m)
  (Qwu G p3 p2 m)
def Q1e (G : Gt) : Nat → V → V → V → V → V → M → R
 | 0, _, _, _, _, _, _ => none
 | i + 1, p13, p12, p11, p3, p2, m =>
  bp (pur (bin .lss false true .int p13 p12) m) fun x67 m =>
  Qwz G (Q1e G i) x67 p11 p13 p3 p12 p2 m
def Qx0 (G : Gt) (p13 p12 p11 p3 p2 : V) (m : M) : R :=
  Q1e G G.rds p13 p12 p11 p3 p2 m
def Qx1 (G : Gt) (p1 p3 p2 : V) (m : M) : R :=
  bp (pur (aFieldAddr 4 p1) m) fun x68 m =>
  bp (pur (aLoad false 1 x68 m) m) fun x69 m =>
  bp (pur (lenK 1 x69 m) m) fun x70 m =>
  Qx0 G (.int .i64 0) x70 x69 p3 p2 m
def Qx2 (G : Gt) (p1 p2 : V) (m : M) : R :=
  Qx1 G p1 (.slice none 0 0) p2 m
def Qon (G : Gt) (p0 : V) (m : M) : R :=
  bp (some (aNew Ql (Value.cells p0).toList m)) fun x71 m =>
  bp (some (aNew Q2 Q4 m)) fun x72 m =>
  Qx2 G x71 x72 m
theorem Q1hl (G : Gt) (a0 : V) (m : M) : evFn Tryz.prog G.tab G.rds (drOf Tryz.prog G.tab) Tryz.f21 [a0] m = Qon G a0 m :=
  evFn_of (r := fun ρ m => Qon G (ρ 0) m) rfl rfl (tr (seqQ (f := fun ρ m => Qx2 G (ρ 1) (ρ 2) m) (tr (seqQ (f := fun ρ m => Qx1 G (ρ 1) (ρ 3) (ρ 2) m) (tr (tr (seqQ (f := fun ρ m => Qwu G (ρ 3) (ρ 2) m) (fun ρ m => by kernel_rfl)) (seqQ (f := fun ρ m => Qx0 G (ρ 13) (ρ 12) (ρ 11) (ρ 3) (ρ 2) m) (tr (blockQ (loopQ (fun i ρ m => Q1e G i (ρ 13) (ρ 12) (ρ 11) (ρ 3) (ρ 2) m) (fun _ _ => rfl) (fun i0 => tr (seqQ (f := fun ρ m => Qwz G (Q1e G i0) (ρ 14) (ρ 11) (ρ 13) (ρ 3) (ρ 12) (ρ 2) m) (tr (seqQ (f := fun ρ m => Qwy G (Q1e G i0) (ρ 11) (ρ 13) (ρ 3) (ρ 12) (ρ 2) m) (tr (tr seqD (blockQ (seqQ (f := fun ρ m => Qwx G (Q1e G i0) (ρ 5) (ρ 3) (ρ 13) (ρ 12) (ρ 11) (ρ 2) m) (tr (seqQ (f := fun ρ m => Qww G (Q1e G i0) (ρ 5) (ρ 6) (ρ 3) (ρ 13) (ρ 12) (ρ 11) (ρ 2) m) (tr (tr (seqQ (f := fun ρ m => Qwv G (Q1e G i0) (ρ 3) (ρ 6) (ρ 5) (ρ 13) (ρ 12) (ρ 11) (ρ 2) m) (fun ρ m => by kernel_rfl)) (seqQ (f := fun ρ m => Qvc G (Q1e G i0) (ρ 20) (ρ 19) (ρ 18) (ρ 6) (ρ 3) (ρ 5) (ρ 13) (ρ 12) (ρ 11) (ρ 2) m) (tr (blockQ (loopQ (fun i ρ m => Qhl G (Q1e G i0) i (ρ 20) (ρ 19) (ρ 18) (ρ 6) (ρ 3) (ρ 5) (ρ 13) (ρ 12) (ρ 11) (ρ 2) m) (fun _ _ => rfl) (fun i1 => fun ρ m => by kernel_rfl))) (fun ρ m => by kernel_rfl)))) (fun ρ m => by kernel_rfl))) (fun ρ m => by kernel_rfl))))) (fun ρ m => by kernel_rfl))) (fun ρ m => by kernel_rfl))) (fun ρ m => by kernel_rfl)))) (fun ρ m => by kernel_rfl)))) (fun ρ m => by kernel_rfl))) (fun ρ m => by kernel_rfl))) (fun ρ m => by kernel_rfl)) m
def Q1hm : Entry Tryz.prog := ⟨Q10q, Tryz.f21, Tryz.func21, by kernel_rfl, arg1 (fun G a0 m => Qon G a0 m), okarg1 Q1hl⟩
end
end Go.Ab.Sh
