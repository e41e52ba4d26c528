/-
  Functions of the program as plain definitions, each with the theorem that it is what the evaluator makes of the code. No conditions.
-/
import Derived.Test.YtchdjkidnjfcjaaGreatDoorAb5
import Derived.Test.YtchdjkidnjfcjaaGreatDoorZ
import Derived.KernelRfl
import Derived.Test.YtchdjkidnjfcjaaGreatDoorProg
set_option linter.unusedVariables false
set_option maxRecDepth 100000
namespace Go.Ab.Sh
open Go Go.Ab Go.Proofs
noncomputable section
def Qvy (G : Gt) (p3 p2 : V) (m : M) : R :=
  bp (aBuildSlice Q1 [(.string ⟨#[]⟩)] 1 1 [(0, (.string ⟨#[112,111,108,105,99,121]⟩))] m) fun x0 m =>
  bp (G.tab Qn [p3, x0] m) fun x1 m =>
  bp (unt (aStore 4 p2 x1 m)) fun _ m =>
  ob (ob (aLoad true 4 p2 m) fun v => ob (some []) fun l => some (v :: l)) fun l => some (resVal l, m)
def Qtb (G : Gt) (k0 : V → V → V → V → V → M → R) (p3 p16 p15 p92 p91 p90 p2 : V) (m : M) : R :=
  bp (pur (aFieldAddr 0 p15) m) fun x2 m =>
  bp (pur (aLoad false 1 x2 m) m) fun x3 m =>
  bp (aBuildSlice Q1 [(.string ⟨#[]⟩)] 1 2 [(0, (.string ⟨#[115,116,97,116,101,109,101,110,116]⟩)), (1, x3)] m) fun x4 m =>
  bp (G.tab Qn [p16, x4] m) fun x5 m =>
  bp (aBuildSlice Q2 Q4 4 1 [(0, x5)] m) fun x6 m =>
  bp (apS Q2 4 80 p3 x6 m) fun x7 m =>
  bp (pur (bin .add true true .int p92 (.int .i64 1)) m) fun x8 m =>
  k0 x8 p91 p90 x7 p2 m
def Qh5 (G : Gt) (k0 : V → V → V → V → V → M → R) : Nat → V → V → V → V → V → V → V → V → V → V → M → R
 | 0, _, _, _, _, _, _, _, _, _, _, _ => none
 | i + 1, p107, p106, p105, p16, p3, p15, p92, p91, p90, p2, m =>
  bp (pur (bin .lss false true .int p107 p106) m) fun x9 m =>
  brb x9
  (bp (pur (aIndexAddrSl 15 p105 p107) m) fun x10 m =>
  bp (pur (aLoad true 15 x10 m) m) fun x11 m =>
  bp (some (aNew Qai Qe9 m)) fun x12 m =>
  bp (unt (aStore 15 x12 x11 m)) fun _ m =>
  bp (pur (aLoad true 15 x12 m) m) fun x13 m =>
  bp (G.tab Q1dj [x13] m) fun x14 m =>
  bp (aBuildSlice Q2 Q4 4 1 [(0, x14)] m) fun x15 m =>
  bp (apS Q2 4 80 p16 x15 m) fun x16 m =>
  bp (pur (bin .add true true .int p107 (.int .i64 1)) m) fun x17 m =>
  (Qh5 G k0 i) x17 p106 p105 x16 p3 p15 p92 p91 p90 p2 m)
  (Qtb G k0 p3 p16 p15 p92 p91 p90 p2 m)
def Qtc (G : Gt) (k0 : V → V → V → V → V → M → R) (p107 p106 p105 p16 p3 p15 p92 p91 p90 p2 : V) (m : M) : R :=
  Qh5 G k0 G.rds p107 p106 p105 p16 p3 p15 p92 p91 p90 p2 m
def Qtd (G : Gt) (k0 : V → V → V → V → V → M → R) (p15 p16 p3 p92 p91 p90 p2 : V) (m : M) : R :=
  bp (pur (aFieldAddr 1 p15) m) fun x18 m =>
  bp (pur (aLoad false 1 x18 m) m) fun x19 m =>
  bp (pur (lenK 1 x19 m) m) fun x20 m =>
  Qtc G k0 (.int .i64 0) x20 x19 p16 p3 p15 p92 p91 p90 p2 m
def Qvz (G : Gt) (k0 : V → V → V → V → V → M → R) (p15 p3 p92 p91 p90 p2 : V) (m : M) : R :=
  bp (pur (aBuildArr Qy6 1 [(0, (.string ⟨#[114,101,106,101,99,116]⟩)), (1, (.string ⟨#[97,99,99,101,112,116]⟩))]) m) fun x21 m =>
  bp (pur (aFieldAddr 2 p15) m) fun x22 m =>
  bp (pur (aLoad false 1 x22 m) m) fun x23 m =>
  bp (G.tab Qad [x23] m) fun x24 m =>
  bp (pur (aIndexArr 2 1 false x21 x24) m) fun x25 m =>
  bp (aBuildSlice Q1 [(.string ⟨#[]⟩)] 1 2 [(0, (.string ⟨#[100,101,102,97,117,108,116]⟩)), (1, x25)] m) fun x26 m =>
  bp (G.tab Qc5 [x26] m) fun x27 m =>
  bp (aBuildSlice Q2 Q4 4 1 [(0, x27)] m) fun x28 m =>
  Qtd G k0 p15 x28 p3 p92 p91 p90 p2 m
def Qw0 (G : Gt) (k0 : V → V → V → V → V → M → R) (p90 p92 p3 p91 p2 : V) (m : M) : R :=
  bp (pur (aIndexAddrSl 3 p90 p92) m) fun x29 m =>
  bp (pur (aLoad true 3 x29 m) m) fun x30 m =>
  bp (some (aNew Q7l Qea m)) fun x31 m =>
  bp (unt (aStore 3 x31 x30 m)) fun _ m =>
  Qvz G k0 x31 p3 p92 p91 p90 p2 m
def Qw1 (G : Gt) (k0 : V → V → V → V → V → M → R) (p93 p90 p92 p3 p91 p2 : V) (m : M) : R :=
  brb p93
  (Qw0 G k0 p90 p92 p3 p91 p2 m)
  (Qvy G p3 p2 m)
def Q1d (G : Gt) : Nat → V → V → V → V → V → M → R
 | 0, _, _, _, _, _, _ => none
 | i + 1, p92, p91, p90, p3, p2, m =>
  bp (pur (bin .lss false true .int p92 p91) m) fun x32 m =>
  Qw1 G (Q1d G i) x32 p90 p92 p3 p91 p2 m
def Qw2 (G : Gt) (p92 p91 p90 p3 p2 : V) (m : M) : R :=
  Q1d G G.rds p92 p91 p90 p3 p2 m
def Qw3 (G : Gt) (p1 p3 p2 : V) (m : M) : R :=
  bp (pur (aFieldAddr 9 p1) m) fun x33 m =>
  bp (pur (aLoad false 1 x33 m) m) fun x34 m =>
  bp (pur (lenK 1 x34 m) m) fun x35 m =>
  Qw2 G (.int .i64 0) x35 x34 p3 p2 m
def Qte (G : Gt) (k0 : V → V → V → V → V → V → M → R) (p3 p11 p10 p63 p62 p61 p1 p2 : V) (m : M) : R :=
  bp (pur (aFieldAddr 0 p11) m) fun x36 m =>
  bp (pur (aLoad false 1 x36 m) m) fun x37 m =>
  bp (pur (aFieldAddr 0 p10) m) fun x38 m =>
  bp (pur (aLoad false 1 x38 m) m) fun x39 m =>
  bp (aBuildSlice Q1 [(.string ⟨#[]⟩)] 1 2 [(0, (.string ⟨#[99,111,109,109,117,110,105,116,121]⟩)), (1, x39)] m) fun x40 m =>
  bp (G.tab Qn [x37, x40] m) fun x41 m =>
  bp (aBuildSlice Q2 Q4 4 1 [(0, x41)] m) fun x42 m =>
  bp (apS Q2 4 80 p3 x42 m) fun x43 m =>
  bp (pur (bin .add true true .int p63 (.int .i64 1)) m) fun x44 m =>
  k0 x44 p62 p61 x43 p1 p2 m
def Qh6 (G : Gt) (k0 : V → V → V → V → V → V → M → R) : Nat → V → V → V → V → V → V → V → V → V → V → V → M → R
 | 0, _, _, _, _, _, _, _, _, _, _, _, _ => none
 | i + 1, p70, p69, p68, p11, p3, p10, p63, p62, p61, p1, p2, m =>
  bp (pur (bin .lss false true .int p70 p69) m) fun x45 m =>
  brb x45
  (bp (pur (aIndexAddrSl 2 p68 p70) m) fun x46 m =>
  bp (pur (aLoad true 2 x46 m) m) fun x47 m =>
  bp (some (aNew Qe8 Qt9 m)) fun x48 m =>
  bp (unt (aStore 2 x48 x47 m)) fun _ m =>
  bp (pur (aLoad true 2 x48 m) m) fun x49 m =>
  bp (G.tab Qsy [x49] m) fun x50 m =>
  bp (aBuildSlice Q1 [(.string ⟨#[]⟩)] 1 1 [(0, x50)] m) fun x51 m =>
  bp (G.tab Q3 [p11, (.bool true), x51] m) fun x52 m =>
  bp (pur (bin .add true true .int p70 (.int .i64 1)) m) fun x53 m =>
  (Qh6 G k0 i) x53 p69 p68 p11 p3 p10 p63 p62 p61 p1 p2 m)
  (Qte G k0 p3 p11 p10 p63 p62 p61 p1 p2 m)
def Qtf (G : Gt) (k0 : V → V → V → V → V → V → M → R) (p70 p69 p68 p11 p3 p10 p63 p62 p61 p1 p2 : V) (m : M) : R :=
  Qh6 G k0 G.rds p70 p69 p68 p11 p3 p10 p63 p62 p61 p1 p2 m
def Qtg (G : Gt) (k0 : V → V → V → V → V → V → M → R) (p10 p11 p3 p63 p62 p61 p1 p2 : V) (m : M) : R :=
  bp (pur (aFieldAddr 1 p10) m) fun x54 m =>
  bp (pur (aLoad false 1 x54 m) m) fun x55 m =>
  bp (pur (lenK 1 x55 m) m) fun x56 m =>
  Qtf G k0 (.int .i64 0) x56 x55 p11 p3 p10 p63 p62 p61 p1 p2 m
def Qth (G : Gt) (k0 : V → V → V → V → V → V → M → R) (p10 p3 p63 p62 p61 p1 p2 : V) (m : M) : R :=
  bp (some (aNew Q1r [(.slice none 0 0)] m)) fun x57 m =>
  Qtg G k0 p10 x57 p3 p63 p62 p61 p1 p2 m
def Qti (G : Gt) (k0 : V → V → V → V → V → V → M → R) (p61 p63 p3 p62 p1 p2 : V) (m : M) : R :=
  bp (pur (aIndexAddrSl 2 p61 p63) m) fun x58 m =>
  bp (pur (aLoad true 2 x58 m) m) fun x59 m =>
  bp (some (aNew Q2f Q4d m)) fun x60 m =>
  bp (unt (aStore 2 x60 x59 m)) fun _ m =>
  Qth G k0 x60 p3 p63 p62 p61 p1 p2 m
def Qtj (G : Gt) (k0 : V → V → V → V → V → V → M → R) (p64 p61 p63 p3 p62 p1 p2 : V) (m : M) : R :=
  brb p64
  (Qti G k0 p61 p63 p3 p62 p1 p2 m)
  (Qw3 G p1 p3 p2 m)
def Q16 (G : Gt) : Nat → V → V → V → V → V → V → M → R
 | 0, _, _, _, _, _, _, _ => none
 | i + 1, p63, p62, p61, p3, p1, p2, m =>
  bp (pur (bin .lss false true .int p63 p62) m) fun x61 m =>
  Qtj G (Q16 G i) x61 p61 p63 p3 p62 p1 p2 m
def Qtk (G : Gt) (p63 p62 p61 p3 p1 p2 : V) (m : M) : R :=
  Q16 G G.rds p63 p62 p61 p3 p1 p2 m
def Qw4 (G : Gt) (p1 p3 p2 : V) (m : M) : R :=
  bp (pur (aFieldAddr 8 p1) m) fun x62 m =>
  bp (pur (aLoad false 1 x62 m) m) fun x63 m =>
  bp (pur (lenK 1 x63 m) m) fun x64 m =>
  Qtk G (.int .i64 0) x64 x63 p3 p1 p2 m
def Qtl (G : Gt) (k0 : V → V → V → V → V → V → M → R) (p3 p6 p5 p22 p21 p20 p1 p2 : V) (m : M) : R :=
  bp (pur (aFieldAddr 0 p6) m) fun x65 m =>
  bp (pur (aLoad false 1 x65 m) m) fun x66 m =>
  bp (pur (aFieldAddr 0 p5) m) fun x67 m =>
  bp (pur (aLoad false 1 x67 m) m) fun x68 m =>
  bp (aBuildSlice Q1 [(.string ⟨#[]⟩)] 1 2 [(0, (.string ⟨#[112,114,101,102,105,120,45,108,105,115,116]⟩)), (1, x68)] m) fun x69 m =>
  bp (G.tab Qn [x66, x69] m) fun x70 m =>
  bp (aBuildSlice Q2 Q4 4 1 [(0, x70)] m) fun x71 m =>
  bp (apS Q2 4 80 p3 x71 m) fun x72 m =>
  bp (pur (bin .add true true .int p22 (.int .i64 1)) m) fun x73 m =>
  k0 x73 p21 p20 x72 p1 p2 m
def Qh7 (G : Gt) (k0 : V → V → V → V → V → V → M → R) : Nat → V → V → V → V → V → V → V → V → V → V → V → M → R
 | 0, _, _, _, _, _, _, _, _, _, _, _, _ => none
 | i + 1, p29, p28, p27, p6, p3, p5, p22, p21, p20, p1, p2, m =>
  bp (pur (bin .lss false true .int p29 p28) m) fun x74 m =>
  brb x74
  (bp (pur (aIndexAddrSl 5 p27 p29) m) fun x75 m =>
  bp (pur (aLoad true 5 x75 m) m) fun x76 m =>
  bp (some (aNew Qcm Qil m)) fun x77 m =>
  bp (unt (aStore 5 x77 x76 m)) fun _ m =>
  bp (pur (aFieldAddr 1 x77) m) fun x78 m =>
  bp (pur (aLoad true 2 x78 m) m) fun x79 m =>
  bp (pur (aFieldAddr 4 x77) m) fun x80 m =>
  bp (pur (aLoad false 1 x80 m) m) fun x81 m =>
  bp (pur (aFieldAddr 3 x77) m) fun x82 m =>
  bp (pur (aLoad false 1 x82 m) m) fun x83 m =>
  bp (pur (aFieldAddr 0 x77) m) fun x84 m =>
  bp (pur (aLoad false 1 x84 m) m) fun x85 m =>
  bp (pur (un .not x85) m) fun x86 m =>
  bp (aBuildSlice Q1 [(.string ⟨#[]⟩)] 1 1 [(0, (.string ⟨#[114,101,106,101,99,116]⟩))] m) fun x87 m =>
  bp (G.tab Q67 [x79] m) fun x88 m =>
  ckB (again (pur (aLoad false 1 x80 m) m) x81 && (again (pur (aLoad false 1 x82 m) m) x83 && (again (pur (aLoad false 1 x84 m) m) x85 && true)))
  (bp (G.tab Qg [x81] m) fun x89 m =>
  ckB (again (pur (aLoad false 1 x82 m) m) x83 && (again (pur (aLoad false 1 x84 m) m) x85 && true))
  (bp (G.tab Qg [x83] m) fun x90 m =>
  ckB (again (pur (aLoad false 1 x84 m) m) x85 && true)
  (bp (G.tab Q7j [x86, x87] m) fun x91 m =>
  bp (aBuildSlice Q1 [(.string ⟨#[]⟩)] 1 6 [(0, x88), (1, (.string ⟨#[117,112,116,111]⟩)), (2, x89), (3, (.string ⟨#[102,114,111,109]⟩)), (4, x90), (5, x91)] m) fun x92 m =>
  bp (G.tab Q3 [p6, (.bool true), x92] m) fun x93 m =>
  bp (pur (bin .add true true .int p29 (.int .i64 1)) m) fun x94 m =>
  (Qh7 G k0 i) x94 p28 p27 p6 p3 p5 p22 p21 p20 p1 p2 m))))
  (Qtl G k0 p3 p6 p5 p22 p21 p20 p1 p2 m)
def Qtm (G : Gt) (k0 : V → V → V → V → V → V → M → R) (p29 p28 p27 p6 p3 p5 p22 p21 p20 p1 p2 : V) (m : M) : R :=
  Qh7 G k0 G.rds p29 p28 p27 p6 p3 p5 p22 p21 p20 p1 p2 m
def Qtn (G : Gt) (k0 : V → V → V → V → V → V → M → R) (p5 p6 p3 p22 p21 p20 p1 p2 : V) (m : M) : R :=
  bp (pur (aFieldAddr 1 p5) m) fun x95 m =>
  bp (pur (aLoad false 1 x95 m) m) fun x96 m =>
  bp (pur (lenK 1 x96 m) m) fun x97 m =>
  Qtm G k0 (.int .i64 0) x97 x96 p6 p3 p5 p22 p21 p20 p1 p2 m
def Qto (G : Gt) (k0 : V → V → V → V → V → V → M → R) (p5 p3 p22 p21 p20 p1 p2 : V) (m : M) : R :=
  bp (some (aNew Q1r [(.slice none 0 0)] m)) fun x98 m =>
  Qtn G k0 p5 x98 p3 p22 p21 p20 p1 p2 m
def Qtp (G : Gt) (k0 : V → V → V → V → V → V → M → R) (p20 p22 p3 p21 p1 p2 : V) (m : M) : R :=
  bp (pur (aIndexAddrSl 2 p20 p22) m) fun x99 m =>
  bp (pur (aLoad true 2 x99 m) m) fun x100 m =>
  bp (some (aNew Q3p Q6z m)) fun x101 m =>
  bp (unt (aStore 2 x101 x100 m)) fun _ m =>
  Qto G k0 x101 p3 p22 p21 p20 p1 p2 m
def Qtq (G : Gt) (k0 : V → V → V → V → V → V → M → R) (p23 p20 p22 p3 p21 p1 p2 : V) (m : M) : R :=
  brb p23
  (Qtp G k0 p20 p22 p3 p21 p1 p2 m)
  (Qw4 G p1 p3 p2 m)
def Q17 (G : Gt) : Nat → V → V → V → V → V → V → M → R
 | 0, _, _, _, _, _, _, _ => none
 | i + 1, p22, p21, p20, p3, p1, p2, m =>
  bp (pur (bin .lss false true .int p22 p21) m) fun x102 m =>
  Qtq G (Q17 G i) x102 p20 p22 p3 p21 p1 p2 m
def Qtr (G : Gt) (p22 p21 p20 p3 p1 p2 : V) (m : M) : R :=
  Q17 G G.rds p22 p21 p20 p3 p1 p2 m
def Qw5 (G : Gt) (p1 p3 p2 : V) (m : M) : R :=
  bp (pur (aFieldAddr 7 p1) m) fun x103 m =>
  bp (pur (aLoad false 1 x103 m) m) fun x104 m =>
  bp (pur (lenK 1 x104 m) m) fun x105 m =>
  Qtr G (.int .i64 0) x105 x104 p3 p1 p2 m
def Qw6 (G : Gt) (p1 p2 : V) (m : M) : R :=
  Qw5 G p1 (.slice none 0 0) p2 m
def Qo1 (G : Gt) (p0 : V) (m : M) : R :=
  bp (some (aNew Ql (Value.cells p0).toList m)) fun x106 m =>
  bp (some (aNew Q2 Q4 m)) fun x107 m =>
  Qw6 G x106 x107 m
theorem Q1gv (G : Gt) (a0 : V) (m : M) : evFn Tryz.prog G.tab G.rds (drOf Tryz.prog G.tab) Tryz.f22 [a0] m = Qo1 G a0 m :=
  evFn_of (r := fun ρ m => Qo1 G (ρ 0) m) rfl rfl (tr (seqQ (f := fun ρ m => Qw6 G (ρ 1) (ρ 2) m) (tr (seqQ (f := fun ρ m => Qw5 G (ρ 1) (ρ 3) (ρ 2) m) (tr (tr (seqQ (f := fun ρ m => Qw4 G (ρ 1) (ρ 3) (ρ 2) m) (tr (tr (seqQ (f := fun ρ m => Qw3 G (ρ 1) (ρ 3) (ρ 2) m) (tr (tr (seqQ (f := fun ρ m => Qvy G (ρ 3) (ρ 2) m) (fun ρ m => by kernel_rfl)) (seqQ (f := fun ρ m => Qw2 G (ρ 92) (ρ 91) (ρ 90) (ρ 3) (ρ 2) m) (tr (blockQ (loopQ (fun i ρ m => Q1d G i (ρ 92) (ρ 91) (ρ 90) (ρ 3) (ρ 2) m) (fun _ _ => rfl) (fun i0 => tr (seqQ (f := fun ρ m => Qw1 G (Q1d G i0) (ρ 93) (ρ 90) (ρ 92) (ρ 3) (ρ 91) (ρ 2) m) (tr (seqQ (f := fun ρ m => Qw0 G (Q1d G i0) (ρ 90) (ρ 92) (ρ 3) (ρ 91) (ρ 2) m) (tr (tr seqD (blockQ (seqQ (f := fun ρ m => Qvz G (Q1d G i0) (ρ 15) (ρ 3) (ρ 92) (ρ 91) (ρ 90) (ρ 2) m) (tr (seqQ (f := fun ρ m => Qtd G (Q1d G i0) (ρ 15) (ρ 16) (ρ 3) (ρ 92) (ρ 91) (ρ 90) (ρ 2) m) (tr (tr (seqQ (f := fun ρ m => Qtb G (Q1d G i0) (ρ 3) (ρ 16) (ρ 15) (ρ 92) (ρ 91) (ρ 90) (ρ 2) m) (fun ρ m => by kernel_rfl)) (seqQ (f := fun ρ m => Qtc G (Q1d G i0) (ρ 107) (ρ 106) (ρ 105) (ρ 16) (ρ 3) (ρ 15) (ρ 92) (ρ 91) (ρ 90) (ρ 2) m) (tr (blockQ (loopQ (fun i ρ m => Qh5 G (Q1d G i0) i (ρ 107) (ρ 106) (ρ 105) (ρ 16) (ρ 3) (ρ 15) (ρ 92) (ρ 91) (ρ 90) (ρ 2) m) (fun _ _ => rfl) (fun i1 => fun ρ m => by kernel_rfl))) (fun ρ m => by kernel_rfl)))) (fun ρ m => by kernel_rfl))) (fun ρ m => by kernel_rfl))))) (fun ρ m => by kernel_rfl))) (fun ρ m => by kernel_rfl))) (fun ρ m => by kernel_rfl)))) (fun ρ m => by kernel_rfl)))) (fun ρ m => by kernel_rfl))) (seqQ (f := fun ρ m => Qtk G (ρ 63) (ρ 62) (ρ 61) (ρ 3) (ρ 1) (ρ 2) m) (tr (blockQ (loopQ (fun i ρ m => Q16 G i (ρ 63) (ρ 62) (ρ 61) (ρ 3) (ρ 1) (ρ 2) m) (fun _ _ => rfl) (fun i0 => tr (seqQ (f := fun ρ m => Qtj G (Q16 G i0) (ρ 64) (ρ 61) (ρ 63) (ρ 3) (ρ 62) (ρ 1) (ρ 2) m) (tr (seqQ (f := fun ρ m => Qti G (Q16 G i0) (ρ 61) (ρ 63) (ρ 3) (ρ 62) (ρ 1) (ρ 2) m) (tr (tr seqD (blockQ (seqQ (f := fun ρ m => Qth G (Q16 G i0) (ρ 10) (ρ 3) (ρ 63) (ρ 62) (ρ 61) (ρ 1) (ρ 2) m) (tr (seqQ (f := fun ρ m => Qtg G (Q16 G i0) (ρ 10) (ρ 11) (ρ 3) (ρ 63) (ρ 62) (ρ 61) (ρ 1) (ρ 2) m) (tr (tr (seqQ (f := fun ρ m => Qte G (Q16 G i0) (ρ 3) (ρ 11) (ρ 10) (ρ 63) (ρ 62) (ρ 61) (ρ 1) (ρ 2) m) (fun ρ m => by kernel_rfl)) (seqQ (f := fun ρ m => Qtf G (Q16 G i0) (ρ 70) (ρ 69) (ρ 68) (ρ 11) (ρ 3) (ρ 10) (ρ 63) (ρ 62) (ρ 61) (ρ 1) (ρ 2) m) (tr (blockQ (loopQ (fun i ρ m => Qh6 G (Q16 G i0) i (ρ 70) (ρ 69) (ρ 68) (ρ 11) (ρ 3) (ρ 10) (ρ 63) (ρ 62) (ρ 61) (ρ 1) (ρ 2) m) (fun _ _ => rfl) (fun i1 => fun ρ m => by kernel_rfl))) (fun ρ m => by kernel_rfl)))) (fun ρ m => by kernel_rfl))) (fun ρ m => by kernel_rfl))))) (fun ρ m => by kernel_rfl))) (fun ρ m => by kernel_rfl))) (fun ρ m => by kernel_rfl)))) (fun ρ m => by kernel_rfl)))) (fun ρ m => by kernel_rfl))) (seqQ (f := fun ρ m => Qtr G (ρ 22) (ρ 21) (ρ 20) (ρ 3) (ρ 1) (ρ 2) m) (tr (blockQ (loopQ (fun i ρ m => Q17 G i (ρ 22) (ρ 21) (ρ 20) (ρ 3) (ρ 1) (ρ 2) m) (fun _ _ => rfl) (fun i0 => tr (seqQ (f := fun ρ m => Qtq G (Q17 G i0) (ρ 23) (ρ 20) (ρ 22) (ρ 3) (ρ 21) (ρ 1) (ρ 2) m) (tr (seqQ (f := fun ρ m => Qtp G (Q17 G i0) (ρ 20) (ρ 22) (ρ 3) (ρ 21) (ρ 1) (ρ 2) m) (tr (tr seqD (blockQ (seqQ (f := fun ρ m => Qto G (Q17 G i0) (ρ 5) (ρ 3) (ρ 22) (ρ 21) (ρ 20) (ρ 1) (ρ 2) m) (tr (seqQ (f := fun ρ m => Qtn G (Q17 G i0) (ρ 5) (ρ 6) (ρ 3) (ρ 22) (ρ 21) (ρ 20) (ρ 1) (ρ 2) m) (tr (tr (seqQ (f := fun ρ m => Qtl G (Q17 G i0) (ρ 3) (ρ 6) (ρ 5) (ρ 22) (ρ 21) (ρ 20) (ρ 1) (ρ 2) m) (fun ρ m => by kernel_rfl)) (seqQ (f := fun ρ m => Qtm G (Q17 G i0) (ρ 29) (ρ 28) (ρ 27) (ρ 6) (ρ 3) (ρ 5) (ρ 22) (ρ 21) (ρ 20) (ρ 1) (ρ 2) m) (tr (blockQ (loopQ (fun i ρ m => Qh7 G (Q17 G i0) i (ρ 29) (ρ 28) (ρ 27) (ρ 6) (ρ 3) (ρ 5) (ρ 22) (ρ 21) (ρ 20) (ρ 1) (ρ 2) m) (fun _ _ => rfl) (fun i1 => fun ρ m => by kernel_rfl))) (fun ρ m => by kernel_rfl)))) (fun ρ m => by kernel_rfl))) (fun ρ m => by kernel_rfl))))) (fun ρ m => by kernel_rfl))) (fun ρ m => by kernel_rfl))) (fun ρ m => by kernel_rfl)))) (fun ρ m => by kernel_rfl)))) (fun ρ m => by kernel_rfl))) (fun ρ m => by kernel_rfl))) (fun ρ m => by kernel_rfl)) m
def Q1gw : Entry Tryz.prog := ⟨Q10r, Tryz.f22, Tryz.func22, by kernel_rfl, arg1 (fun G a0 m => Qo1 G a0 m), okarg1 Q1gv⟩
end
end Go.Ab.Sh

set_option linter.unusedVariables false
set_option maxRecDepth 100000
namespace Go.Ab.Sh
open Go Go.Ab Go.Proofs
noncomputable section
def Qts (G : Gt) (p3 p2 : V) (m : M) : R :=
  bp (aBuildSlice Q1 [(.string ⟨#[]⟩)] 1 1 [(0, (.string ⟨#[112,114,111,116,111,99,111,108,115]⟩))] m) fun x0 m =>
  bp (G.tab Qn [p3, x0] m) fun x1 m =>
  bp (unt (aStore 4 p2 x1 m)) fun _ m =>
  ob (ob (aLoad true 4 p2 m) fun v => ob (some []) fun l => some (v :: l)) fun l => some (resVal l, m)
def Qrq (G : Gt) (k0 : V → V → V → V → V → M → R) (p8 p9 p3 p43 p42 p41 p2 : V) (m : M) : R :=
  bp (pur (aFieldAddr 5 p8) m) fun x2 m =>
  bp (pur (aLoad false 1 x2 m) m) fun x3 m =>
  bp (G.tab Qch [p9, x3, (.string ⟨#[111,115,112,102]⟩), (.bool false)] m) fun x4 m =>
  bp (pur (aFieldAddr 0 p9) m) fun x5 m =>
  bp (pur (aLoad false 1 x5 m) m) fun x6 m =>
  bp (pur (aFieldAddr 0 p8) m) fun x7 m =>
  bp (pur (aLoad false 1 x7 m) m) fun x8 m =>
  bp (aBuildSlice Q1 [(.string ⟨#[]⟩)] 1 2 [(0, (.string ⟨#[98,103,112]⟩)), (1, x8)] m) fun x9 m =>
  bp (G.tab Qn [x6, x9] m) fun x10 m =>
  bp (aBuildSlice Q2 Q4 4 1 [(0, x10)] m) fun x11 m =>
  bp (apS Q2 4 80 p3 x11 m) fun x12 m =>
  bp (pur (bin .add true true .int p43 (.int .i64 1)) m) fun x13 m =>
  k0 x13 p42 p41 x12 p2 m
def Qeb (G : Gt) (k0 : V → V → V → V → V → M → R) : Nat → V → V → V → V → V → V → V → V → V → V → M → R
 | 0, _, _, _, _, _, _, _, _, _, _, _ => none
 | i + 1, p73, p72, p71, p9, p8, p3, p43, p42, p41, p2, m =>
  bp (pur (bin .lss false true .int p73 p72) m) fun x14 m =>
  brb x14
  (bp (pur (aIndexAddrSl 6 p71 p73) m) fun x15 m =>
  bp (pur (aLoad true 6 x15 m) m) fun x16 m =>
  bp (some (aNew Qt6 Qta m)) fun x17 m =>
  bp (unt (aStore 6 x17 x16 m)) fun _ m =>
  bp (some (aNew Q1r [(.slice none 0 0)] m)) fun x18 m =>
  bp (pur (aFieldAddr 1 x17) m) fun x19 m =>
  bp (pur (aLoad false 1 x19 m) m) fun x20 m =>
  bp (conv (.int .i64) x20 m) fun x21 m =>
  bp (G.tab Qg [x21] m) fun x22 m =>
  bp (aBuildSlice Q1 [(.string ⟨#[]⟩)] 1 2 [(0, (.string ⟨#[112,101,101,114,45,97,115]⟩)), (1, x22)] m) fun x23 m =>
  bp (G.tab Q3 [x18, (.bool true), x23] m) fun x24 m =>
  bp (pur (aFieldAddr 2 x17) m) fun x25 m =>
  bp (pur (aLoad false 1 x25 m) m) fun x26 m =>
  bp (pur (bin .neq true true .str x26 (.string ⟨#[]⟩)) m) fun x27 m =>
  bp (pur (aFieldAddr 2 x17) m) fun x28 m =>
  bp (pur (aLoad false 1 x28 m) m) fun x29 m =>
  bp (aBuildSlice Q1 [(.string ⟨#[]⟩)] 1 2 [(0, (.string ⟨#[105,109,112,111,114,116]⟩)), (1, x29)] m) fun x30 m =>
  bp (G.tab Q3 [x18, x27, x30] m) fun x31 m =>
  bp (pur (aFieldAddr 3 x17) m) fun x32 m =>
  bp (pur (aLoad false 1 x32 m) m) fun x33 m =>
  bp (pur (bin .neq true true .str x33 (.string ⟨#[]⟩)) m) fun x34 m =>
  bp (pur (aFieldAddr 3 x17) m) fun x35 m =>
  bp (pur (aLoad false 1 x35 m) m) fun x36 m =>
  bp (aBuildSlice Q1 [(.string ⟨#[]⟩)] 1 2 [(0, (.string ⟨#[101,120,112,111,114,116]⟩)), (1, x36)] m) fun x37 m =>
  bp (G.tab Q3 [x18, x34, x37] m) fun x38 m =>
  bp (pur (aFieldAddr 4 x17) m) fun x39 m =>
  bp (pur (aLoad false 1 x39 m) m) fun x40 m =>
  bp (aBuildSlice Q1 [(.string ⟨#[]⟩)] 1 1 [(0, (.string ⟨#[99,108,105,101,110,116]⟩))] m) fun x41 m =>
  bp (G.tab Q3 [x18, x40, x41] m) fun x42 m =>
  bp (pur (aFieldAddr 5 x17) m) fun x43 m =>
  bp (pur (aLoad false 1 x43 m) m) fun x44 m =>
  bp (aBuildSlice Q1 [(.string ⟨#[]⟩)] 1 1 [(0, (.string ⟨#[110,101,120,116,45,104,111,112,45,115,101,108,102]⟩))] m) fun x45 m =>
  bp (G.tab Q3 [x18, x44, x45] m) fun x46 m =>
  bp (pur (aFieldAddr 0 p9) m) fun x47 m =>
  bp (pur (aLoad false 1 x47 m) m) fun x48 m =>
  bp (pur (aFieldAddr 0 x18) m) fun x49 m =>
  bp (pur (aLoad false 1 x49 m) m) fun x50 m =>
  bp (pur (aFieldAddr 0 x17) m) fun x51 m =>
  bp (pur (aLoad false 1 x51 m) m) fun x52 m =>
  bp (pur (lenK 1 x48 m) m) fun x53 m =>
  bp (aBuildSlice Q2 Q4 4 1 [(0, (.agg #[(.slice none 0 0), (.slice none 0 0), (.bool false), (.slice none 0 0)]))] m) fun x54 m =>
  bp (G.tab Q7e [x52] m) fun x55 m =>
  ckB (again (pur (aLoad false 1 x47 m) m) x48 && (again (pur (aLoad false 1 x49 m) m) x50 && true))
  (bp (aBuildSlice Q1 [(.string ⟨#[]⟩)] 1 2 [(0, (.string ⟨#[110,101,105,103,104,98,111,114]⟩)), (1, x55)] m) fun x56 m =>
  bp (G.tab Qn [x50, x56] m) fun x57 m =>
  ckB (again (pur (aLoad false 1 x47 m) m) x48 && true)
  (bp (apS Q2 4 80 x48 x54 m) fun x58 m =>
  bp (pur (aIndexAddrSl 4 x58 x53) m) fun x59 m =>
  bp (pur (aFieldAddr 0 p9) m) fun x60 m =>
  dfB x59 x60
  (bp (unt (aStore 4 x59 x57 m)) fun _ m =>
  bp (unt (aStore 1 x60 x58 m)) fun _ m =>
  bp (pur (bin .add true true .int p73 (.int .i64 1)) m) fun x61 m =>
  (Qeb G k0 i) x61 p72 p71 p9 p8 p3 p43 p42 p41 p2 m))))
  (Qrq G k0 p8 p9 p3 p43 p42 p41 p2 m)
def Qrr (G : Gt) (k0 : V → V → V → V → V → M → R) (p73 p72 p71 p9 p8 p3 p43 p42 p41 p2 : V) (m : M) : R :=
  Qeb G k0 G.rds p73 p72 p71 p9 p8 p3 p43 p42 p41 p2 m
def Qrs (G : Gt) (k0 : V → V → V → V → V → M → R) (p8 p9 p3 p43 p42 p41 p2 : V) (m : M) : R :=
  bp (pur (aFieldAddr 4 p8) m) fun x62 m =>
  bp (pur (aLoad false 1 x62 m) m) fun x63 m =>
  bp (pur (lenK 1 x63 m) m) fun x64 m =>
  Qrr G k0 (.int .i64 0) x64 x63 p9 p8 p3 p43 p42 p41 p2 m
def Qec (G : Gt) (k0 : V → V → V → V → V → M → R) : Nat → V → V → V → V → V → V → V → V → V → V → M → R
 | 0, _, _, _, _, _, _, _, _, _, _, _ => none
 | i + 1, p61, p60, p59, p9, p8, p3, p43, p42, p41, p2, m =>
  bp (pur (bin .lss false true .int p61 p60) m) fun x65 m =>
  brb x65
  (bp (pur (aIndexAddrSl 2 p59 p61) m) fun x66 m =>
  bp (pur (aLoad true 2 x66 m) m) fun x67 m =>
  bp (some (aNew Q3o Q4n m)) fun x68 m =>
  bp (unt (aStore 2 x68 x67 m)) fun _ m =>
  bp (pur (aLoad true 2 x68 m) m) fun x69 m =>
  bp (G.tab Q67 [x69] m) fun x70 m =>
  bp (aBuildSlice Q1 [(.string ⟨#[]⟩)] 1 2 [(0, (.string ⟨#[110,101,116,119,111,114,107]⟩)), (1, x70)] m) fun x71 m =>
  bp (G.tab Q3 [p9, (.bool true), x71] m) fun x72 m =>
  bp (pur (bin .add true true .int p61 (.int .i64 1)) m) fun x73 m =>
  (Qec G k0 i) x73 p60 p59 p9 p8 p3 p43 p42 p41 p2 m)
  (Qrs G k0 p8 p9 p3 p43 p42 p41 p2 m)
def Qrt (G : Gt) (k0 : V → V → V → V → V → M → R) (p61 p60 p59 p9 p8 p3 p43 p42 p41 p2 : V) (m : M) : R :=
  Qec G k0 G.rds p61 p60 p59 p9 p8 p3 p43 p42 p41 p2 m
def Qru (G : Gt) (k0 : V → V → V → V → V → M → R) (p8 p9 p3 p43 p42 p41 p2 : V) (m : M) : R :=
  bp (pur (aFieldAddr 3 p8) m) fun x74 m =>
  bp (pur (aLoad false 1 x74 m) m) fun x75 m =>
  bp (pur (lenK 1 x75 m) m) fun x76 m =>
  Qrt G k0 (.int .i64 0) x76 x75 p9 p8 p3 p43 p42 p41 p2 m
def Qrv (G : Gt) (k0 : V → V → V → V → V → M → R) (p8 p9 p3 p43 p42 p41 p2 : V) (m : M) : R :=
  bp (pur (aFieldAddr 2 p8) m) fun x77 m =>
  bp (pur (aLoad false 1 x77 m) m) fun x78 m =>
  bp (G.tab Q7e [x78] m) fun x79 m =>
  bp (aBuildSlice Q1 [(.string ⟨#[]⟩)] 1 2 [(0, (.string ⟨#[114,111,117,116,101,114,45,105,100]⟩)), (1, x79)] m) fun x80 m =>
  bp (G.tab Q3 [p9, (.bool true), x80] m) fun x81 m =>
  Qru G k0 p8 p9 p3 p43 p42 p41 p2 m
def Qtt (G : Gt) (k0 : V → V → V → V → V → M → R) (p8 p9 p3 p43 p42 p41 p2 : V) (m : M) : R :=
  bp (pur (aFieldAddr 1 p8) m) fun x82 m =>
  bp (pur (aLoad false 1 x82 m) m) fun x83 m =>
  bp (conv (.int .i64) x83 m) fun x84 m =>
  bp (G.tab Qg [x84] m) fun x85 m =>
  bp (aBuildSlice Q1 [(.string ⟨#[]⟩)] 1 2 [(0, (.string ⟨#[108,111,99,97,108,45,97,115]⟩)), (1, x85)] m) fun x86 m =>
  bp (G.tab Q3 [p9, (.bool true), x86] m) fun x87 m =>
  Qrv G k0 p8 p9 p3 p43 p42 p41 p2 m
def Qtu (G : Gt) (k0 : V → V → V → V → V → M → R) (p8 p3 p43 p42 p41 p2 : V) (m : M) : R :=
  bp (some (aNew Q1r [(.slice none 0 0)] m)) fun x88 m =>
  Qtt G k0 p8 x88 p3 p43 p42 p41 p2 m
def Qtv (G : Gt) (k0 : V → V → V → V → V → M → R) (p41 p43 p3 p42 p2 : V) (m : M) : R :=
  bp (pur (aIndexAddrSl 6 p41 p43) m) fun x89 m =>
  bp (pur (aLoad true 6 x89 m) m) fun x90 m =>
  bp (some (aNew Qgd Qrp m)) fun x91 m =>
  bp (unt (aStore 6 x91 x90 m)) fun _ m =>
  Qtu G k0 x91 p3 p43 p42 p41 p2 m
def Qtw (G : Gt) (k0 : V → V → V → V → V → M → R) (p44 p41 p43 p3 p42 p2 : V) (m : M) : R :=
  brb p44
  (Qtv G k0 p41 p43 p3 p42 p2 m)
  (Qts G p3 p2 m)
def Qk (G : Gt) : Nat → V → V → V → V → V → M → R
 | 0, _, _, _, _, _, _ => none
 | i + 1, p43, p42, p41, p3, p2, m =>
  bp (pur (bin .lss false true .int p43 p42) m) fun x92 m =>
  Qtw G (Qk G i) x92 p41 p43 p3 p42 p2 m
def Qtx (G : Gt) (p43 p42 p41 p3 p2 : V) (m : M) : R :=
  Qk G G.rds p43 p42 p41 p3 p2 m
def Qty (G : Gt) (p1 p3 p2 : V) (m : M) : R :=
  bp (pur (aFieldAddr 11 p1) m) fun x93 m =>
  bp (pur (aLoad false 1 x93 m) m) fun x94 m =>
  bp (pur (lenK 1 x94 m) m) fun x95 m =>
  Qtx G (.int .i64 0) x95 x94 p3 p2 m
def Qed (G : Gt) : Nat → V → V → V → V → V → V → M → R
 | 0, _, _, _, _, _, _, _ => none
 | i + 1, p18, p17, p16, p3, p1, p2, m =>
  bp (pur (bin .lss false true .int p18 p17) m) fun x96 m =>
  brb x96
  (bp (pur (aIndexAddrSl 3 p16 p18) m) fun x97 m =>
  bp (pur (aLoad true 3 x97 m) m) fun x98 m =>
  bp (some (aNew Qh4 Qt8 m)) fun x99 m =>
  bp (unt (aStore 3 x99 x98 m)) fun _ m =>
  bp (some (aNew Q1r [(.slice none 0 0)] m)) fun x100 m =>
  bp (pur (aFieldAddr 1 x99) m) fun x101 m =>
  bp (pur (aLoad false 1 x101 m) m) fun x102 m =>
  bp (G.tab Q7e [x102] m) fun x103 m =>
  bp (aBuildSlice Q1 [(.string ⟨#[]⟩)] 1 2 [(0, (.string ⟨#[114,111,117,116,101,114,45,105,100]⟩)), (1, x103)] m) fun x104 m =>
  bp (G.tab Q3 [x100, (.bool true), x104] m) fun x105 m =>
  bp (pur (aFieldAddr 2 x99) m) fun x106 m =>
  bp (pur (aLoad false 1 x106 m) m) fun x107 m =>
  bp (G.tab Qch [x100, x107, (.string ⟨#[98,103,112]⟩), (.bool true)] m) fun x108 m =>
  bp (pur (aFieldAddr 0 x100) m) fun x109 m =>
  bp (pur (aLoad false 1 x109 m) m) fun x110 m =>
  bp (pur (aFieldAddr 0 x99) m) fun x111 m =>
  bp (pur (aLoad false 1 x111 m) m) fun x112 m =>
  bp (aBuildSlice Q1 [(.string ⟨#[]⟩)] 1 2 [(0, (.string ⟨#[111,115,112,102]⟩)), (1, x112)] m) fun x113 m =>
  bp (G.tab Qn [x110, x113] m) fun x114 m =>
  bp (aBuildSlice Q2 Q4 4 1 [(0, x114)] m) fun x115 m =>
  bp (apS Q2 4 80 p3 x115 m) fun x116 m =>
  bp (pur (bin .add true true .int p18 (.int .i64 1)) m) fun x117 m =>
  (Qed G i) x117 p17 p16 x116 p1 p2 m)
  (Qty G p1 p3 p2 m)
def Qrw (G : Gt) (p18 p17 p16 p3 p1 p2 : V) (m : M) : R :=
  Qed G G.rds p18 p17 p16 p3 p1 p2 m
def Qtz (G : Gt) (p1 p3 p2 : V) (m : M) : R :=
  bp (pur (aFieldAddr 10 p1) m) fun x118 m =>
  bp (pur (aLoad false 1 x118 m) m) fun x119 m =>
  bp (pur (lenK 1 x119 m) m) fun x120 m =>
  Qrw G (.int .i64 0) x120 x119 p3 p1 p2 m
def Qu0 (G : Gt) (p1 p2 : V) (m : M) : R :=
  Qtz G p1 (.slice none 0 0) p2 m
def Qkp (G : Gt) (p0 : V) (m : M) : R :=
  bp (some (aNew Ql (Value.cells p0).toList m)) fun x121 m =>
  bp (some (aNew Q2 Q4 m)) fun x122 m =>
  Qu0 G x121 x122 m
theorem Q1fl (G : Gt) (a0 : V) (m : M) : evFn Tryz.prog G.tab G.rds (drOf Tryz.prog G.tab) Tryz.f23 [a0] m = Qkp G a0 m :=
  evFn_of (r := fun ρ m => Qkp G (ρ 0) m) rfl rfl (tr (seqQ (f := fun ρ m => Qu0 G (ρ 1) (ρ 2) m) (tr (seqQ (f := fun ρ m => Qtz G (ρ 1) (ρ 3) (ρ 2) m) (tr (tr (seqQ (f := fun ρ m => Qty G (ρ 1) (ρ 3) (ρ 2) m) (tr (tr (seqQ (f := fun ρ m => Qts G (ρ 3) (ρ 2) m) (fun ρ m => by kernel_rfl)) (seqQ (f := fun ρ m => Qtx G (ρ 43) (ρ 42) (ρ 41) (ρ 3) (ρ 2) m) (tr (blockQ (loopQ (fun i ρ m => Qk G i (ρ 43) (ρ 42) (ρ 41) (ρ 3) (ρ 2) m) (fun _ _ => rfl) (fun i0 => tr (seqQ (f := fun ρ m => Qtw G (Qk G i0) (ρ 44) (ρ 41) (ρ 43) (ρ 3) (ρ 42) (ρ 2) m) (tr (seqQ (f := fun ρ m => Qtv G (Qk G i0) (ρ 41) (ρ 43) (ρ 3) (ρ 42) (ρ 2) m) (tr (tr seqD (blockQ (seqQ (f := fun ρ m => Qtu G (Qk G i0) (ρ 8) (ρ 3) (ρ 43) (ρ 42) (ρ 41) (ρ 2) m) (tr (seqQ (f := fun ρ m => Qtt G (Qk G i0) (ρ 8) (ρ 9) (ρ 3) (ρ 43) (ρ 42) (ρ 41) (ρ 2) m) (tr (seqQ (f := fun ρ m => Qrv G (Qk G i0) (ρ 8) (ρ 9) (ρ 3) (ρ 43) (ρ 42) (ρ 41) (ρ 2) m) (tr (seqQ (f := fun ρ m => Qru G (Qk G i0) (ρ 8) (ρ 9) (ρ 3) (ρ 43) (ρ 42) (ρ 41) (ρ 2) m) (tr (tr (seqQ (f := fun ρ m => Qrs G (Qk G i0) (ρ 8) (ρ 9) (ρ 3) (ρ 43) (ρ 42) (ρ 41) (ρ 2) m) (tr (tr (seqQ (f := fun ρ m => Qrq G (Qk G i0) (ρ 8) (ρ 9) (ρ 3) (ρ 43) (ρ 42) (ρ 41) (ρ 2) m) (fun ρ m => by kernel_rfl)) (seqQ (f := fun ρ m => Qrr G (Qk G i0) (ρ 73) (ρ 72) (ρ 71) (ρ 9) (ρ 8) (ρ 3) (ρ 43) (ρ 42) (ρ 41) (ρ 2) m) (tr (blockQ (loopQ (fun i ρ m => Qeb G (Qk G i0) i (ρ 73) (ρ 72) (ρ 71) (ρ 9) (ρ 8) (ρ 3) (ρ 43) (ρ 42) (ρ 41) (ρ 2) m) (fun _ _ => rfl) (fun i1 => fun ρ m => by kernel_rfl))) (fun ρ m => by kernel_rfl)))) (fun ρ m => by kernel_rfl))) (seqQ (f := fun ρ m => Qrt G (Qk G i0) (ρ 61) (ρ 60) (ρ 59) (ρ 9) (ρ 8) (ρ 3) (ρ 43) (ρ 42) (ρ 41) (ρ 2) m) (tr (blockQ (loopQ (fun i ρ m => Qec G (Qk G i0) i (ρ 61) (ρ 60) (ρ 59) (ρ 9) (ρ 8) (ρ 3) (ρ 43) (ρ 42) (ρ 41) (ρ 2) m) (fun _ _ => rfl) (fun i1 => fun ρ m => by kernel_rfl))) (fun ρ m => by kernel_rfl)))) (fun ρ m => by kernel_rfl))) (fun ρ m => by kernel_rfl))) (fun ρ m => by kernel_rfl))) (fun ρ m => by kernel_rfl))))) (fun ρ m => by kernel_rfl))) (fun ρ m => by kernel_rfl))) (fun ρ m => by kernel_rfl)))) (fun ρ m => by kernel_rfl)))) (fun ρ m => by kernel_rfl))) (seqQ (f := fun ρ m => Qrw G (ρ 18) (ρ 17) (ρ 16) (ρ 3) (ρ 1) (ρ 2) m) (tr (blockQ (loopQ (fun i ρ m => Qed G i (ρ 18) (ρ 17) (ρ 16) (ρ 3) (ρ 1) (ρ 2) m) (fun _ _ => rfl) (fun i0 => fun ρ m => by kernel_rfl))) (fun ρ m => by kernel_rfl)))) (fun ρ m => by kernel_rfl))) (fun ρ m => by kernel_rfl))) (fun ρ m => by kernel_rfl)) m
def Q1fm : Entry Tryz.prog := ⟨Qy8, Tryz.f23, Tryz.func23, by kernel_rfl, arg1 (fun G a0 m => Qkp G a0 m), okarg1 Q1fl⟩
def Q136 (G : Gt) (p0 : V) (m : M) : R :=
  bp (some (aNew Qo0 Q119 m)) fun x0 m =>
  bp (G.tab Q12v [x0, p0, (.int .i64 0)] m) fun x1 m =>
  bp (pur (un .not x1) m) fun x2 m =>
  brb x2
  (some (.tuple ⟨[(.string ⟨#[]⟩), (.int .i64 1)]⟩, m))
  (bp (G.tab Q5e [x0] m) fun x3 m =>
  some (.tuple ⟨[x3, (.int .i64 0)]⟩, m))
theorem Q1mx (G : Gt) (a0 : V) (m : M) : evFn Tryz.prog G.tab G.rds (drOf Tryz.prog G.tab) Tryz.f24 [a0] m = Q136 G a0 m :=
  evFn_of (r := fun ρ m => Q136 G (ρ 0) m) rfl rfl (fun ρ m => by kernel_rfl) m
def Q1my : Entry Tryz.prog := ⟨Q1fc, Tryz.f24, Tryz.func24, by kernel_rfl, arg1 (fun G a0 m => Q136 G a0 m), okarg1 Q1mx⟩
def Qrx (G : Gt) (p5 : V) (m : M) : R :=
  bp (pur (bin .add true true .str p5 (.string ⟨#[41]⟩)) m) fun x0 m =>
  some (x0, m)
def Qee (G : Gt) : Nat → V → V → V → M → R
 | 0, _, _, _, _ => none
 | i + 1, p7, p1, p5, m =>
  bp (pur (lenK 1 p1 m) m) fun x1 m =>
  bp (pur (bin .lss false true .int p7 x1) m) fun x2 m =>
  brb x2
  (bp (pur (aIndexAddrSl 1 p1 p7) m) fun x3 m =>
  bp (pur (aLoad false 1 x3 m) m) fun x4 m =>
  bp (pur (lenK 0 x4 m) m) fun x5 m =>
  bp (pur (aIndexAddrSl 1 p1 p7) m) fun x6 m =>
  bp (pur (aLoad false 1 x6 m) m) fun x7 m =>
  bp (G.tab Qe5 [x5] m) fun x8 m =>
  ckB (again (pur (aLoad false 1 x6 m) m) x7 && true)
  (bp (pur (bin .add false true .str p5 x8) m) fun x9 m =>
  bp (pur (bin .add true true .str x9 (.string ⟨#[58]⟩)) m) fun x10 m =>
  bp (pur (bin .add false true .str x10 x7) m) fun x11 m =>
  bp (pur (bin .add true true .int p7 (.int .i64 1)) m) fun x12 m =>
  (Qee G i) x12 p1 x11 m))
  (Qrx G p5 m)
def Qry (G : Gt) (p7 p1 p5 : V) (m : M) : R :=
  Qee G G.rds p7 p1 p5 m
def Qrz (G : Gt) (p1 p5 : V) (m : M) : R :=
  Qry G (.int .i64 0) p1 p5 m
def Qef (G : Gt) : Nat → V → V → V → V → M → R
 | 0, _, _, _, _, _ => none
 | i + 1, p6, p0, p5, p1, m =>
  bp (pur (lenK 1 p0 m) m) fun x13 m =>
  bp (pur (bin .lss false true .int p6 x13) m) fun x14 m =>
  brb x14
  (bp (pur (aIndexAddrSl 1 p0 p6) m) fun x15 m =>
  bp (pur (aLoad false 1 x15 m) m) fun x16 m =>
  bp (G.tab Qe5 [x16] m) fun x17 m =>
  bp (pur (bin .add false true .str p5 x17) m) fun x18 m =>
  bp (pur (bin .add true true .str x18 (.string ⟨#[44]⟩)) m) fun x19 m =>
  bp (pur (bin .add true true .int p6 (.int .i64 1)) m) fun x20 m =>
  (Qef G i) x20 p0 x19 p1 m)
  (Qrz G p1 p5 m)
def Qs0 (G : Gt) (p6 p0 p5 p1 : V) (m : M) : R :=
  Qef G G.rds p6 p0 p5 p1 m
def Qs1 (G : Gt) (p0 p5 p1 : V) (m : M) : R :=
  Qs0 G (.int .i64 0) p0 p5 p1 m
def Qs2 (G : Gt) (p0 p1 : V) (m : M) : R :=
  Qs1 G p0 (.string ⟨#[40]⟩) p1 m
def Qiv (G : Gt) (p0 p1 : V) (m : M) : R :=
  Qs2 G p0 p1 m
theorem Q1ej (G : Gt) (a0 a1 : V) (m : M) : evFn Tryz.prog G.tab G.rds (drOf Tryz.prog G.tab) Tryz.f25 [a0, a1] m = Qiv G a0 a1 m :=
  evFn_of (r := fun ρ m => Qiv G (ρ 0) (ρ 1) m) rfl rfl (tr (seqQ (f := fun ρ m => Qs2 G (ρ 0) (ρ 1) m) (tr (seqQ (f := fun ρ m => Qs1 G (ρ 0) (ρ 5) (ρ 1) m) (tr (tr (seqQ (f := fun ρ m => Qrz G (ρ 1) (ρ 5) m) (tr (tr (seqQ (f := fun ρ m => Qrx G (ρ 5) m) (fun ρ m => by kernel_rfl)) (seqQ (f := fun ρ m => Qry G (ρ 7) (ρ 1) (ρ 5) m) (tr (blockQ (loopQ (fun i ρ m => Qee G i (ρ 7) (ρ 1) (ρ 5) m) (fun _ _ => rfl) (fun i0 => fun ρ m => by kernel_rfl))) (fun ρ m => by kernel_rfl)))) (fun ρ m => by kernel_rfl))) (seqQ (f := fun ρ m => Qs0 G (ρ 6) (ρ 0) (ρ 5) (ρ 1) m) (tr (blockQ (loopQ (fun i ρ m => Qef G i (ρ 6) (ρ 0) (ρ 5) (ρ 1) m) (fun _ _ => rfl) (fun i0 => fun ρ m => by kernel_rfl))) (fun ρ m => by kernel_rfl)))) (fun ρ m => by kernel_rfl))) (fun ρ m => by kernel_rfl))) (fun ρ m => by kernel_rfl)) m
def Q1ek : Entry Tryz.prog := ⟨Qd, Tryz.f25, Tryz.func25, by kernel_rfl, arg2 (fun G a0 a1 m => Qiv G a0 a1 m), okarg2 Q1ej⟩
def Qkq (G : Gt) (p0 : V) (m : M) : R :=
  brb p0
  (some ((.int .i64 1), m))
  (some ((.int .i64 0), m))
theorem Q1fn (G : Gt) (a0 : V) (m : M) : evFn Tryz.prog G.tab G.rds (drOf Tryz.prog G.tab) Tryz.f26 [a0] m = Qkq G a0 m :=
  evFn_of (r := fun ρ m => Qkq G (ρ 0) m) rfl rfl (fun ρ m => by kernel_rfl) m
def Q1fo : Entry Tryz.prog := ⟨Q11, Tryz.f26, Tryz.func26, by kernel_rfl, arg1 (fun G a0 m => Qkq G a0 m), okarg1 Q1fn⟩
end
end Go.Ab.Sh
