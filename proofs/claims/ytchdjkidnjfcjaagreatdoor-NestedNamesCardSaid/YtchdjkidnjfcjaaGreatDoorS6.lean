/-
  Functions of the program as plain definitions, each with the theorem that it is what the evaluator makes of the code. No conditions.
-/
import Derived.Test.YtchdjkidnjfcjaaGreatDoorAb5
import Derived.Test.YtchdjkidnjfcjaaGreatDoorZ
import Derived.KernelRfl
import Derived.Test.YtchdjkidnjfcjaaGreatDoorProg
set_option linter.unusedVariables false
set_option maxRecDepth 100000
namespace Go.Ab.Sh
open Go Go.Ab Go.Proofs
noncomputable section
def Qvf (G : Gt) (p0 : V) (m : M) : R :=
  bp (some (aNew Qe8 (Value.cells p0).toList m)) fun x0 m =>
  bp (pur (aFieldAddr 0 x0) m) fun x1 m =>
  bp (pur (aLoad false 1 x1 m) m) fun x2 m =>
  brb x2
  (bp (pur (aFieldAddr 1 x0) m) fun x3 m =>
  bp (pur (aLoad false 1 x3 m) m) fun x4 m =>
  bp (G.tab Qmk [x4] m) fun x5 m =>
  bp (pur (bin .add true true .str (.string ⟨#[109,101,109,98,101,114,115,32]⟩) x5) m) fun x6 m =>
  some (x6, m))
  (bp (pur (aFieldAddr 1 x0) m) fun x7 m =>
  bp (pur (aLoad false 1 x7 m) m) fun x8 m =>
  bp (G.tab Qmk [x8] m) fun x9 m =>
  bp (pur (bin .add true true .str (.string ⟨#[114,101,106,101,99,116,32]⟩) x9) m) fun x10 m =>
  some (x10, m))
theorem Q1jc (G : Gt) (a0 : V) (m : M) : evFn Tryz.prog G.tab G.rds (drOf Tryz.prog G.tab) Tryz.f44 [a0] m = Qvf G a0 m :=
  evFn_of (r := fun ρ m => Qvf G (ρ 0) m) rfl rfl (fun ρ m => by kernel_rfl) m
def Q1ja : Entry Tryz.prog := ⟨Qsy, Tryz.f44, Tryz.func44, by kernel_rfl, arg1 (fun G a0 m => Qvf G a0 m), okarg1 Q1jc⟩
def Qm5 (G : Gt) (m : M) : R :=
  some ((.bool false), m)
def Qb2 (G : Gt) : Nat → V → V → V → V → M → R
 | 0, _, _, _, _, _ => none
 | i + 1, p9, p8, p7, p3, m =>
  bp (pur (bin .lss false true .int p9 p8) m) fun x0 m =>
  brb x0
  (bp (pur (aIndexAddrSl 1 p7 p9) m) fun x1 m =>
  bp (pur (aLoad false 1 x1 m) m) fun x2 m =>
  bp (pur (aLookup .str (.bool false) false p3 x2 m) m) fun x3 m =>
  brb x3
  (some ((.bool true), m))
  (bp (unt (aMapUpdate .str p3 x2 (.bool true) m)) fun _ m =>
  bp (pur (bin .add true true .int p9 (.int .i64 1)) m) fun x4 m =>
  (Qb2 G i) x4 p8 p7 p3 m))
  (Qm5 G m)
def Qm6 (G : Gt) (p9 p8 p7 p3 : V) (m : M) : R :=
  Qb2 G G.rds p9 p8 p7 p3 m
def Qm7 (G : Gt) (p0 p3 : V) (m : M) : R :=
  bp (pur (lenK 1 p0 m) m) fun x5 m =>
  Qm6 G (.int .i64 0) x5 p0 p3 m
def Qm8 (G : Gt) (p0 : V) (m : M) : R :=
  bp (some (aMakeMap m)) fun x6 m =>
  Qm7 G p0 x6 m
def Qd3 (G : Gt) (p0 : V) (m : M) : R :=
  Qm8 G p0 m
theorem Q18w (G : Gt) (a0 : V) (m : M) : evFn Tryz.prog G.tab G.rds (drOf Tryz.prog G.tab) Tryz.f45 [a0] m = Qd3 G a0 m :=
  evFn_of (r := fun ρ m => Qd3 G (ρ 0) m) rfl rfl (tr (seqQ (f := fun ρ m => Qm8 G (ρ 0) m) (tr (seqQ (f := fun ρ m => Qm7 G (ρ 0) (ρ 3) m) (tr (tr (seqQ (f := fun ρ m => Qm5 G m) (fun ρ m => by kernel_rfl)) (seqQ (f := fun ρ m => Qm6 G (ρ 9) (ρ 8) (ρ 7) (ρ 3) m) (tr (blockQ (loopQ (fun i ρ m => Qb2 G i (ρ 9) (ρ 8) (ρ 7) (ρ 3) m) (fun _ _ => rfl) (fun i0 => fun ρ m => by kernel_rfl))) (fun ρ m => by kernel_rfl)))) (fun ρ m => by kernel_rfl))) (fun ρ m => by kernel_rfl))) (fun ρ m => by kernel_rfl)) m
def Q18s : Entry Tryz.prog := ⟨Qp4, Tryz.f45, Tryz.func45, by kernel_rfl, arg1 (fun G a0 m => Qd3 G a0 m), okarg1 Q18w⟩
def Q11h (G : Gt) (p0 : V) (m : M) : R :=
  bp (G.tab Qhz [p0] m) fun x0 m =>
  bp (pur (un .not x0) m) fun x1 m =>
  some (x1, m)
def Qos (G : Gt) : Nat → V → V → V → V → M → R
 | 0, _, _, _, _, _ => none
 | i + 1, p7, p6, p5, p0, m =>
  bp (pur (bin .lss false true .int p7 p6) m) fun x2 m =>
  brb x2
  (bp (pur (aIndexAddrSl 4 p5 p7) m) fun x3 m =>
  bp (pur (aLoad true 4 x3 m) m) fun x4 m =>
  bp (some (aNew Q4m Q60 m)) fun x5 m =>
  bp (unt (aStore 4 x5 x4 m)) fun _ m =>
  bp (pur (aFieldAddr 0 x5) m) fun x6 m =>
  bp (pur (aLoad false 1 x6 m) m) fun x7 m =>
  bp (G.tab Qp5 [x7] m) fun x8 m =>
  bp (pur (bin .neq true true .int x8 (.int .i64 1)) m) fun x9 m =>
  brb x9
  (some ((.bool false), m))
  (bp (pur (bin .add true true .int p7 (.int .i64 1)) m) fun x10 m =>
  (Qos G i) x10 p6 p5 p0 m))
  (Q11h G p0 m)
def Q11i (G : Gt) (p7 p6 p5 p0 : V) (m : M) : R :=
  Qos G G.rds p7 p6 p5 p0 m
def Q11j (G : Gt) (p0 : V) (m : M) : R :=
  bp (pur (lenK 1 p0 m) m) fun x11 m =>
  Q11i G (.int .i64 0) x11 p0 p0 m
def Qvg (G : Gt) (p0 : V) (m : M) : R :=
  Q11j G p0 m
theorem Q1jd (G : Gt) (a0 : V) (m : M) : evFn Tryz.prog G.tab G.rds (drOf Tryz.prog G.tab) Tryz.f46 [a0] m = Qvg G a0 m :=
  evFn_of (r := fun ρ m => Qvg G (ρ 0) m) rfl rfl (tr (seqQ (f := fun ρ m => Q11j G (ρ 0) m) (tr (tr (seqQ (f := fun ρ m => Q11h G (ρ 0) m) (fun ρ m => by kernel_rfl)) (seqQ (f := fun ρ m => Q11i G (ρ 7) (ρ 6) (ρ 5) (ρ 0) m) (tr (blockQ (loopQ (fun i ρ m => Qos G i (ρ 7) (ρ 6) (ρ 5) (ρ 0) m) (fun _ _ => rfl) (fun i0 => fun ρ m => by kernel_rfl))) (fun ρ m => by kernel_rfl)))) (fun ρ m => by kernel_rfl))) (fun ρ m => by kernel_rfl)) m
def Q1jb : Entry Tryz.prog := ⟨Qsz, Tryz.f46, Tryz.func46, by kernel_rfl, arg1 (fun G a0 m => Qvg G a0 m), okarg1 Q1jd⟩
def Qxz (G : Gt) (p0 : V) (m : M) : R :=
  bp (some (aNew Q1ci (Value.cells p0).toList m)) fun x0 m =>
  bp (pur (aFieldAddr 0 x0) m) fun x1 m =>
  bp (pur (aLoad false 1 x1 m) m) fun x2 m =>
  bp (conv (.int .i64) x2 m) fun x3 m =>
  bp (pur (aFieldAddr 1 x0) m) fun x4 m =>
  bp (pur (aLoad false 1 x4 m) m) fun x5 m =>
  bp (conv (.int .i64) x5 m) fun x6 m =>
  bp (G.tab Qg [x3] m) fun x7 m =>
  ckB (again (pur (aLoad false 1 x4 m) m) x5 && true)
  (bp (pur (bin .add true true .str x7 (.string ⟨#[45]⟩)) m) fun x8 m =>
  bp (G.tab Qg [x6] m) fun x9 m =>
  bp (pur (bin .add false true .str x8 x9) m) fun x10 m =>
  some (x10, m))
theorem Q1kn (G : Gt) (a0 : V) (m : M) : evFn Tryz.prog G.tab G.rds (drOf Tryz.prog G.tab) Tryz.f50 [a0] m = Qxz G a0 m :=
  evFn_of (r := fun ρ m => Qxz G (ρ 0) m) rfl rfl (fun ρ m => by kernel_rfl) m
def Q1km : Entry Tryz.prog := ⟨Qx9, Tryz.f50, Tryz.func50, by kernel_rfl, arg1 (fun G a0 m => Qxz G a0 m), okarg1 Q1kn⟩
def Q14a (G : Gt) (p5 p4 p1 p3 p2 : V) (m : M) : R :=
  bp (pur (bin .neq true true .str p5 (.string ⟨#[]⟩)) m) fun x0 m =>
  bp (aBuildSlice Q1 [(.string ⟨#[]⟩)] 1 2 [(0, (.string ⟨#[112,114,101,112,101,110,100]⟩)), (1, p5)] m) fun x1 m =>
  bp (G.tab Q3 [p4, x0, x1] m) fun x2 m =>
  bp (pur (aFieldAddr 13 p1) m) fun x3 m =>
  bp (pur (aLoad false 1 x3 m) m) fun x4 m =>
  bp (pur (bin .neq true true .int x4 (.int .u32 0)) m) fun x5 m =>
  bp (pur (aFieldAddr 13 p1) m) fun x6 m =>
  bp (pur (aLoad false 1 x6 m) m) fun x7 m =>
  bp (G.tab Q7e [x7] m) fun x8 m =>
  ckB (again (pur (aLoad false 1 x3 m) m) x4 && true)
  (bp (aBuildSlice Q1 [(.string ⟨#[]⟩)] 1 2 [(0, (.string ⟨#[110,101,120,116,45,104,111,112]⟩)), (1, x8)] m) fun x9 m =>
  bp (G.tab Q3 [p4, x5, x9] m) fun x10 m =>
  bp (pur (aBuildArr Q1og 1 [(0, (.string ⟨#[114,101,106,101,99,116]⟩)), (1, (.string ⟨#[97,99,99,101,112,116]⟩)), (2, (.string ⟨#[110,101,120,116]⟩))]) m) fun x11 m =>
  bp (pur (aFieldAddr 1 p1) m) fun x12 m =>
  bp (pur (aLoad false 1 x12 m) m) fun x13 m =>
  bp (pur (aIndexArr 3 1 false x11 x13) m) fun x14 m =>
  bp (aBuildSlice Q1 [(.string ⟨#[]⟩)] 1 1 [(0, x14)] m) fun x15 m =>
  bp (G.tab Q3 [p4, (.bool true), x15] m) fun x16 m =>
  bp (pur (aFieldAddr 0 p3) m) fun x17 m =>
  bp (pur (aLoad false 1 x17 m) m) fun x18 m =>
  bp (aBuildSlice Q1 [(.string ⟨#[]⟩)] 1 1 [(0, (.string ⟨#[102,114,111,109]⟩))] m) fun x19 m =>
  bp (pur (aFieldAddr 0 p4) m) fun x20 m =>
  bp (pur (aLoad false 1 x20 m) m) fun x21 m =>
  bp (aBuildSlice Q1 [(.string ⟨#[]⟩)] 1 1 [(0, (.string ⟨#[116,104,101,110]⟩))] m) fun x22 m =>
  bp (pur (aFieldAddr 0 p1) m) fun x23 m =>
  bp (pur (aLoad false 1 x23 m) m) fun x24 m =>
  bp (G.tab Qn [x18, x19] m) fun x25 m =>
  ckB (again (pur (aLoad false 1 x20 m) m) x21 && (again (pur (aLoad false 1 x23 m) m) x24 && true))
  (bp (G.tab Qn [x21, x22] m) fun x26 m =>
  ckB (again (pur (aLoad false 1 x23 m) m) x24 && true)
  (bp (aBuildSlice Q2 Q4 4 2 [(0, x25), (1, x26)] m) fun x27 m =>
  bp (G.tab Qg [x24] m) fun x28 m =>
  bp (pur (bin .add true true .str (.string ⟨#[116]⟩) x28) m) fun x29 m =>
  bp (aBuildSlice Q1 [(.string ⟨#[]⟩)] 1 2 [(0, (.string ⟨#[116,101,114,109]⟩)), (1, x29)] m) fun x30 m =>
  bp (G.tab Qn [x27, x30] m) fun x31 m =>
  bp (unt (aStore 4 p2 x31 m)) fun _ m =>
  ob (ob (aLoad true 4 p2 m) fun v => ob (some []) fun l => some (v :: l)) fun l => some (resVal l, m))))
def Qr0 (G : Gt) : Nat → V → V → V → V → V → V → V → V → M → R
 | 0, _, _, _, _, _, _, _, _, _ => none
 | i + 1, p87, p86, p85, p5, p4, p1, p3, p2, m =>
  bp (pur (bin .lss false true .int p87 p86) m) fun x32 m =>
  brb x32
  (bp (pur (aIndexAddrSl 1 p85 p87) m) fun x33 m =>
  bp (pur (aLoad false 1 x33 m) m) fun x34 m =>
  bp (conv (.int .i64) x34 m) fun x35 m =>
  bp (G.tab Qg [x35] m) fun x36 m =>
  bp (pur (bin .add true true .str (.string ⟨#[32]⟩) x36) m) fun x37 m =>
  bp (pur (bin .add false true .str p5 x37) m) fun x38 m =>
  bp (pur (bin .add true true .int p87 (.int .i64 1)) m) fun x39 m =>
  (Qr0 G i) x39 p86 p85 x38 p4 p1 p3 p2 m)
  (Q14a G p5 p4 p1 p3 p2 m)
def Q14b (G : Gt) (p87 p86 p85 p5 p4 p1 p3 p2 : V) (m : M) : R :=
  Qr0 G G.rds p87 p86 p85 p5 p4 p1 p3 p2 m
def Q14c (G : Gt) (p1 p5 p4 p3 p2 : V) (m : M) : R :=
  bp (pur (aFieldAddr 12 p1) m) fun x40 m =>
  bp (pur (aLoad false 1 x40 m) m) fun x41 m =>
  bp (pur (lenK 1 x41 m) m) fun x42 m =>
  Q14b G (.int .i64 0) x42 x41 p5 p4 p1 p3 p2 m
def Q14d (G : Gt) (p1 p4 p3 p2 : V) (m : M) : R :=
  Q14c G p1 (.string ⟨#[]⟩) p4 p3 p2 m
def Q17f (G : Gt) (p1 p4 p3 p2 : V) (m : M) : R :=
  bp (pur (aFieldAddr 10 p1) m) fun x43 m =>
  bp (pur (aLoad false 1 x43 m) m) fun x44 m =>
  bp (pur (lenK 1 x44 m) m) fun x45 m =>
  bp (pur (bin .gtr true true .int x45 (.int .i64 0)) m) fun x46 m =>
  bp (pur (aBuildArr Qy6 1 [(0, (.string ⟨#[115,101,116]⟩)), (1, (.string ⟨#[97,100,100]⟩))]) m) fun x47 m =>
  bp (pur (aFieldAddr 11 p1) m) fun x48 m =>
  bp (pur (aLoad false 1 x48 m) m) fun x49 m =>
  bp (pur (aFieldAddr 10 p1) m) fun x50 m =>
  bp (pur (aLoad false 1 x50 m) m) fun x51 m =>
  bp (G.tab Qad [x49] m) fun x52 m =>
  ckB (again (pur (aLoad false 1 x43 m) m) x44 && (again (pur (aLoad false 1 x50 m) m) x51 && true))
  (bp (pur (aIndexArr 2 1 false x47 x52) m) fun x53 m =>
  bp (G.tab Qmk [x51] m) fun x54 m =>
  ckB (again (pur (aLoad false 1 x43 m) m) x44 && true)
  (bp (aBuildSlice Q1 [(.string ⟨#[]⟩)] 1 3 [(0, (.string ⟨#[99,111,109,109,117,110,105,116,121]⟩)), (1, x53), (2, x54)] m) fun x55 m =>
  bp (G.tab Q3 [p4, x46, x55] m) fun x56 m =>
  Q14d G p1 p4 p3 p2 m))
def Q17g (G : Gt) (p1 p4 p3 p2 : V) (m : M) : R :=
  bp (pur (aFieldAddr 9 p1) m) fun x57 m =>
  bp (pur (aLoad false 1 x57 m) m) fun x58 m =>
  bp (pur (bin .geq true true .int x58 (.int .i64 0)) m) fun x59 m =>
  bp (pur (aFieldAddr 9 p1) m) fun x60 m =>
  bp (pur (aLoad false 1 x60 m) m) fun x61 m =>
  bp (G.tab Qg [x61] m) fun x62 m =>
  ckB (again (pur (aLoad false 1 x57 m) m) x58 && true)
  (bp (aBuildSlice Q1 [(.string ⟨#[]⟩)] 1 2 [(0, (.string ⟨#[116,97,103]⟩)), (1, x62)] m) fun x63 m =>
  bp (G.tab Q3 [p4, x59, x63] m) fun x64 m =>
  Q17f G p1 p4 p3 p2 m)
def Q17h (G : Gt) (p1 p4 p3 p2 : V) (m : M) : R :=
  bp (pur (aFieldAddr 8 p1) m) fun x65 m =>
  bp (pur (aLoad false 1 x65 m) m) fun x66 m =>
  bp (pur (bin .geq true true .int x66 (.int .i64 0)) m) fun x67 m =>
  bp (pur (aFieldAddr 8 p1) m) fun x68 m =>
  bp (pur (aLoad false 1 x68 m) m) fun x69 m =>
  bp (G.tab Qg [x69] m) fun x70 m =>
  ckB (again (pur (aLoad false 1 x65 m) m) x66 && true)
  (bp (aBuildSlice Q1 [(.string ⟨#[]⟩)] 1 2 [(0, (.string ⟨#[112,114,101,102,101,114,101,110,99,101]⟩)), (1, x70)] m) fun x71 m =>
  bp (G.tab Q3 [p4, x67, x71] m) fun x72 m =>
  Q17g G p1 p4 p3 p2 m)
def Q17i (G : Gt) (p1 p4 p3 p2 : V) (m : M) : R :=
  bp (pur (aFieldAddr 7 p1) m) fun x73 m =>
  bp (pur (aLoad false 1 x73 m) m) fun x74 m =>
  bp (pur (bin .geq true true .int x74 (.int .i64 0)) m) fun x75 m =>
  bp (pur (aFieldAddr 7 p1) m) fun x76 m =>
  bp (pur (aLoad false 1 x76 m) m) fun x77 m =>
  bp (G.tab Qg [x77] m) fun x78 m =>
  ckB (again (pur (aLoad false 1 x73 m) m) x74 && true)
  (bp (aBuildSlice Q1 [(.string ⟨#[]⟩)] 1 2 [(0, (.string ⟨#[109,101,116,114,105,99]⟩)), (1, x78)] m) fun x79 m =>
  bp (G.tab Q3 [p4, x75, x79] m) fun x80 m =>
  Q17h G p1 p4 p3 p2 m)
def Q17j (G : Gt) (p1 p3 p4 p2 : V) (m : M) : R :=
  bp (pur (aFieldAddr 6 p1) m) fun x81 m =>
  bp (pur (aLoad false 1 x81 m) m) fun x82 m =>
  bp (pur (bin .geq true true .int x82 (.int .i64 0)) m) fun x83 m =>
  bp (pur (aFieldAddr 6 p1) m) fun x84 m =>
  bp (pur (aLoad false 1 x84 m) m) fun x85 m =>
  bp (G.tab Qg [x85] m) fun x86 m =>
  ckB (again (pur (aLoad false 1 x81 m) m) x82 && true)
  (bp (aBuildSlice Q1 [(.string ⟨#[]⟩)] 1 2 [(0, (.string ⟨#[97,115]⟩)), (1, x86)] m) fun x87 m =>
  bp (G.tab Q3 [p3, x83, x87] m) fun x88 m =>
  Q17i G p1 p4 p3 p2 m)
def Q17k (G : Gt) (p1 p3 p4 p2 : V) (m : M) : R :=
  bp (pur (aFieldAddr 5 p1) m) fun x89 m =>
  bp (pur (aLoad false 1 x89 m) m) fun x90 m =>
  bp (pur (bin .geq true true .int x90 (.int .i64 0)) m) fun x91 m =>
  bp (pur (aFieldAddr 5 p1) m) fun x92 m =>
  bp (pur (aLoad false 1 x92 m) m) fun x93 m =>
  bp (G.tab Qg [x93] m) fun x94 m =>
  ckB (again (pur (aLoad false 1 x89 m) m) x90 && true)
  (bp (aBuildSlice Q1 [(.string ⟨#[]⟩)] 1 2 [(0, (.string ⟨#[109,101,116,114,105,99]⟩)), (1, x94)] m) fun x95 m =>
  bp (G.tab Q3 [p3, x91, x95] m) fun x96 m =>
  Q17j G p1 p3 p4 p2 m)
def Q17l (G : Gt) (p1 p3 p4 p2 : V) (m : M) : R :=
  bp (pur (aFieldAddr 4 p1) m) fun x97 m =>
  bp (pur (aLoad false 1 x97 m) m) fun x98 m =>
  bp (pur (bin .geq true true .int x98 (.int .i64 0)) m) fun x99 m =>
  bp (pur (aFieldAddr 4 p1) m) fun x100 m =>
  bp (pur (aLoad false 1 x100 m) m) fun x101 m =>
  bp (G.tab Qg [x101] m) fun x102 m =>
  ckB (again (pur (aLoad false 1 x97 m) m) x98 && true)
  (bp (aBuildSlice Q1 [(.string ⟨#[]⟩)] 1 2 [(0, (.string ⟨#[116,97,103]⟩)), (1, x102)] m) fun x103 m =>
  bp (G.tab Q3 [p3, x99, x103] m) fun x104 m =>
  Q17k G p1 p3 p4 p2 m)
def Q17m (G : Gt) (p1 p3 p4 p2 : V) (m : M) : R :=
  bp (pur (aFieldAddr 3 p1) m) fun x105 m =>
  bp (pur (aLoad false 1 x105 m) m) fun x106 m =>
  bp (pur (bin .neq true true .str x106 (.string ⟨#[]⟩)) m) fun x107 m =>
  bp (pur (aFieldAddr 3 p1) m) fun x108 m =>
  bp (pur (aLoad false 1 x108 m) m) fun x109 m =>
  bp (aBuildSlice Q1 [(.string ⟨#[]⟩)] 1 2 [(0, (.string ⟨#[99,111,109,109,117,110,105,116,121]⟩)), (1, x109)] m) fun x110 m =>
  bp (G.tab Q3 [p3, x107, x110] m) fun x111 m =>
  Q17l G p1 p3 p4 p2 m
def Q17n (G : Gt) (p1 p3 p4 p2 : V) (m : M) : R :=
  bp (pur (aFieldAddr 2 p1) m) fun x112 m =>
  bp (pur (aLoad false 1 x112 m) m) fun x113 m =>
  bp (pur (bin .neq true true .str x113 (.string ⟨#[]⟩)) m) fun x114 m =>
  bp (pur (aFieldAddr 2 p1) m) fun x115 m =>
  bp (pur (aLoad false 1 x115 m) m) fun x116 m =>
  bp (aBuildSlice Q1 [(.string ⟨#[]⟩)] 1 2 [(0, (.string ⟨#[112,114,101,102,105,120,45,108,105,115,116]⟩)), (1, x116)] m) fun x117 m =>
  bp (G.tab Q3 [p3, x114, x117] m) fun x118 m =>
  Q17m G p1 p3 p4 p2 m
def Q17o (G : Gt) (p1 p2 : V) (m : M) : R :=
  bp (some (aNew Q1r [(.slice none 0 0)] m)) fun x119 m =>
  bp (some (aNew Q1r [(.slice none 0 0)] m)) fun x120 m =>
  Q17n G p1 x119 x120 p2 m
def Q10k (G : Gt) (p0 : V) (m : M) : R :=
  bp (some (aNew Qai (Value.cells p0).toList m)) fun x121 m =>
  bp (some (aNew Q2 Q4 m)) fun x122 m =>
  Q17o G x121 x122 m
theorem Q1m6 (G : Gt) (a0 : V) (m : M) : evFn Tryz.prog G.tab G.rds (drOf Tryz.prog G.tab) Tryz.f51 [a0] m = Q10k G a0 m :=
  evFn_of (r := fun ρ m => Q10k G (ρ 0) m) rfl rfl (tr (seqQ (f := fun ρ m => Q17o G (ρ 1) (ρ 2) m) (tr (seqQ (f := fun ρ m => Q17n G (ρ 1) (ρ 3) (ρ 4) (ρ 2) m) (tr (seqQ (f := fun ρ m => Q17m G (ρ 1) (ρ 3) (ρ 4) (ρ 2) m) (tr (seqQ (f := fun ρ m => Q17l G (ρ 1) (ρ 3) (ρ 4) (ρ 2) m) (tr (seqQ (f := fun ρ m => Q17k G (ρ 1) (ρ 3) (ρ 4) (ρ 2) m) (tr (seqQ (f := fun ρ m => Q17j G (ρ 1) (ρ 3) (ρ 4) (ρ 2) m) (tr (seqQ (f := fun ρ m => Q17i G (ρ 1) (ρ 4) (ρ 3) (ρ 2) m) (tr (seqQ (f := fun ρ m => Q17h G (ρ 1) (ρ 4) (ρ 3) (ρ 2) m) (tr (seqQ (f := fun ρ m => Q17g G (ρ 1) (ρ 4) (ρ 3) (ρ 2) m) (tr (seqQ (f := fun ρ m => Q17f G (ρ 1) (ρ 4) (ρ 3) (ρ 2) m) (tr (seqQ (f := fun ρ m => Q14d G (ρ 1) (ρ 4) (ρ 3) (ρ 2) m) (tr (seqQ (f := fun ρ m => Q14c G (ρ 1) (ρ 5) (ρ 4) (ρ 3) (ρ 2) m) (tr (tr (seqQ (f := fun ρ m => Q14a G (ρ 5) (ρ 4) (ρ 1) (ρ 3) (ρ 2) m) (fun ρ m => by kernel_rfl)) (seqQ (f := fun ρ m => Q14b G (ρ 87) (ρ 86) (ρ 85) (ρ 5) (ρ 4) (ρ 1) (ρ 3) (ρ 2) m) (tr (blockQ (loopQ (fun i ρ m => Qr0 G i (ρ 87) (ρ 86) (ρ 85) (ρ 5) (ρ 4) (ρ 1) (ρ 3) (ρ 2) m) (fun _ _ => rfl) (fun i0 => fun ρ m => by kernel_rfl))) (fun ρ m => by kernel_rfl)))) (fun ρ m => by kernel_rfl))) (fun ρ m => by kernel_rfl))) (fun ρ m => by kernel_rfl))) (fun ρ m => by kernel_rfl))) (fun ρ m => by kernel_rfl))) (fun ρ m => by kernel_rfl))) (fun ρ m => by kernel_rfl))) (fun ρ m => by kernel_rfl))) (fun ρ m => by kernel_rfl))) (fun ρ m => by kernel_rfl))) (fun ρ m => by kernel_rfl))) (fun ρ m => by kernel_rfl))) (fun ρ m => by kernel_rfl)) m
def Q1m4 : Entry Tryz.prog := ⟨Q1dj, Tryz.f51, Tryz.func51, by kernel_rfl, arg1 (fun G a0 m => Q10k G a0 m), okarg1 Q1m6⟩
def Q63 (G : Gt) (k0 : V → V → V → V → V → V → M → R) (p0 p10 p9 p3 p13 p12 p11 p2 : V) (m : M) : R :=
  bp (pur (aFieldAddr 1 p9) m) fun x0 m =>
  bp (pur (aLoad false 1 x0 m) m) fun x1 m =>
  bp (pur (bin .geq true true .int x1 (.int .i64 0)) m) fun x2 m =>
  bp (pur (aFieldAddr 1 p9) m) fun x3 m =>
  bp (pur (aLoad false 1 x3 m) m) fun x4 m =>
  bp (pur (aFieldAddr 2 p9) m) fun x5 m =>
  bp (pur (aLoad false 1 x5 m) m) fun x6 m =>
  bp (conv (.int .i64) x6 m) fun x7 m =>
  bp (pur (aFieldAddr 3 p9) m) fun x8 m =>
  bp (pur (aLoad false 1 x8 m) m) fun x9 m =>
  bp (pur (bin .neq true true .str x9 (.string ⟨#[]⟩)) m) fun x10 m =>
  bp (pur (aFieldAddr 3 p9) m) fun x11 m =>
  bp (pur (aLoad false 1 x11 m) m) fun x12 m =>
  bp (aBuildSlice Q1 [(.string ⟨#[]⟩)] 1 2 [(0, (.string ⟨#[112,111,108,105,99,121]⟩)), (1, x12)] m) fun x13 m =>
  bp (G.tab Qg [x4] m) fun x14 m =>
  ckB (again (pur (aLoad false 1 x0 m) m) x1 && (again (pur (aLoad false 1 x5 m) m) x6 && (again (pur (aLoad false 1 x8 m) m) x9 && (again (pur (aLoad false 1 x11 m) m) x12 && true))))
  (bp (aBuildSlice Q1 [(.string ⟨#[]⟩)] 1 2 [(0, (.string ⟨#[109,101,116,114,105,99]⟩)), (1, x14)] m) fun x15 m =>
  bp (G.tab Q7j [x2, x15] m) fun x16 m =>
  ckB (again (pur (aLoad false 1 x5 m) m) x6 && (again (pur (aLoad false 1 x8 m) m) x9 && (again (pur (aLoad false 1 x11 m) m) x12 && true)))
  (bp (G.tab Qg [x7] m) fun x17 m =>
  ckB (again (pur (aLoad false 1 x8 m) m) x9 && (again (pur (aLoad false 1 x11 m) m) x12 && true))
  (bp (aBuildSlice Q1 [(.string ⟨#[]⟩)] 1 2 [(0, (.string ⟨#[116,121,112,101]⟩)), (1, x17)] m) fun x18 m =>
  bp (G.tab Q7j [p3, x18] m) fun x19 m =>
  ckB (again (pur (aLoad false 1 x8 m) m) x9 && (again (pur (aLoad false 1 x11 m) m) x12 && true))
  (bp (G.tab Q7j [x10, x13] m) fun x20 m =>
  bp (aBuildSlice Q1 [(.string ⟨#[]⟩)] 1 5 [(0, (.string ⟨#[101,120,112,111,114,116]⟩)), (1, p10), (2, x16), (3, x19), (4, x20)] m) fun x21 m =>
  bp (G.tab Q3 [p0, (.bool true), x21] m) fun x22 m =>
  bp (pur (bin .add true true .int p13 (.int .i64 1)) m) fun x23 m =>
  k0 x23 p12 p11 p2 p0 p3 m))))
def Qm9 (G : Gt) (k0 : V → V → V → V → V → V → M → R) (p9 p0 p3 p13 p12 p11 p2 p10 : V) (m : M) : R :=
  bp (pur (aFieldAddr 0 p9) m) fun x24 m =>
  bp (pur (aLoad false 1 x24 m) m) fun x25 m =>
  bp (pur (bin .eql true true .int x25 (.int .u8 1)) m) fun x26 m =>
  brb x26
  (Q63 G k0 p0 (.string ⟨#[100,105,114,101,99,116]⟩) p9 p3 p13 p12 p11 p2 m)
  (bp (pur (bin .eql true true .int x25 (.int .u8 2)) m) fun x27 m =>
  brb x27
  (Q63 G k0 p0 (.string ⟨#[115,116,97,116,105,99]⟩) p9 p3 p13 p12 p11 p2 m)
  (Q63 G k0 p0 p10 p9 p3 p13 p12 p11 p2 m))
def Qma (G : Gt) (k0 : V → V → V → V → V → V → M → R) (p2 p9 p0 p3 p13 p12 p11 : V) (m : M) : R :=
  Qm9 G k0 p9 p0 p3 p13 p12 p11 p2 p2 m
def Qmb (G : Gt) (k0 : V → V → V → V → V → V → M → R) (p11 p13 p2 p0 p3 p12 : V) (m : M) : R :=
  bp (pur (aIndexAddrSl 4 p11 p13) m) fun x28 m =>
  bp (pur (aLoad true 4 x28 m) m) fun x29 m =>
  bp (some (aNew Q4m Q60 m)) fun x30 m =>
  bp (unt (aStore 4 x30 x29 m)) fun _ m =>
  Qma G k0 p2 x30 p0 p3 p13 p12 p11 m
def Qmc (G : Gt) (k0 : V → V → V → V → V → V → M → R) (p14 p11 p13 p2 p0 p3 p12 : V) (m : M) : R :=
  brb p14
  (Qmb G k0 p11 p13 p2 p0 p3 p12 m)
  (some (.tuple ⟨[]⟩, m))
def Q18 (G : Gt) : Nat → V → V → V → V → V → V → M → R
 | 0, _, _, _, _, _, _, _ => none
 | i + 1, p13, p12, p11, p2, p0, p3, m =>
  bp (pur (bin .lss false true .int p13 p12) m) fun x31 m =>
  Qmc G (Q18 G i) x31 p11 p13 p2 p0 p3 p12 m
def Qmd (G : Gt) (p13 p12 p11 p2 p0 p3 : V) (m : M) : R :=
  Q18 G G.rds p13 p12 p11 p2 p0 p3 m
def Qd4 (G : Gt) (p1 p2 p0 p3 : V) (m : M) : R :=
  bp (pur (lenK 1 p1 m) m) fun x32 m =>
  Qmd G (.int .i64 0) x32 p1 p2 p0 p3 m
theorem Q18x (G : Gt) (a0 a1 a2 a3 : V) (m : M) : evFn Tryz.prog G.tab G.rds (drOf Tryz.prog G.tab) Tryz.f52 [a0, a1, a2, a3] m = Qd4 G a1 a2 a0 a3 m :=
  evFn_of (r := fun ρ m => Qd4 G (ρ 1) (ρ 2) (ρ 0) (ρ 3) m) rfl rfl (tr (seqQ (f := fun ρ m => Qmd G (ρ 13) (ρ 12) (ρ 11) (ρ 2) (ρ 0) (ρ 3) m) (tr (blockQ (loopQ (fun i ρ m => Q18 G i (ρ 13) (ρ 12) (ρ 11) (ρ 2) (ρ 0) (ρ 3) m) (fun _ _ => rfl) (fun i0 => tr (seqQ (f := fun ρ m => Qmc G (Q18 G i0) (ρ 14) (ρ 11) (ρ 13) (ρ 2) (ρ 0) (ρ 3) (ρ 12) m) (tr (seqQ (f := fun ρ m => Qmb G (Q18 G i0) (ρ 11) (ρ 13) (ρ 2) (ρ 0) (ρ 3) (ρ 12) m) (tr (tr seqD (blockQ (seqQ (f := fun ρ m => Qma G (Q18 G i0) (ρ 2) (ρ 9) (ρ 0) (ρ 3) (ρ 13) (ρ 12) (ρ 11) m) (tr (seqQ (f := fun ρ m => Qm9 G (Q18 G i0) (ρ 9) (ρ 0) (ρ 3) (ρ 13) (ρ 12) (ρ 11) (ρ 2) (ρ 10) m) (tr (seqQ (f := fun ρ m => Q63 G (Q18 G i0) (ρ 0) (ρ 10) (ρ 9) (ρ 3) (ρ 13) (ρ 12) (ρ 11) (ρ 2) m) (fun ρ m => by kernel_rfl)) (fun ρ m => by kernel_rfl))) (fun ρ m => by kernel_rfl))))) (fun ρ m => by kernel_rfl))) (fun ρ m => by kernel_rfl))) (fun ρ m => by kernel_rfl)))) (fun ρ m => by kernel_rfl))) (fun ρ m => by kernel_rfl)) m
def Q18u : Entry Tryz.prog := ⟨Qch, Tryz.f52, Tryz.func52, by kernel_rfl, arg4 (fun G a0 a1 a2 a3 m => Qd4 G a1 a2 a0 a3 m), okarg4 Q18x⟩
end
end Go.Ab.Sh

set_option linter.unusedVariables false
set_option maxRecDepth 100000
namespace Go.Ab.Sh
open Go Go.Ab Go.Proofs
noncomputable section
def Q1bu (G : Gt) (m : M) : R :=
  some ((.bool true), m)
def Qy0 (G : Gt) (k0 : V → V → V → V → V → M → R) (p17 p16 p15 p2 p0 : V) (m : M) : R :=
  bp (pur (bin .add true true .int p17 (.int .i64 1)) m) fun x0 m =>
  k0 x0 p16 p15 p2 p0 m
def Q17p (G : Gt) (k0 : V → V → V → V → V → M → R) (p2 p0 p9 p8 p17 p16 p15 : V) (m : M) : R :=
  bp (G.tab Q12w [(.string ⟨#[32,32,32,32]⟩), p2] m) fun x1 m =>
  bp (G.tab Qa8 [p9, (.string ⟨#[32]⟩)] m) fun x2 m =>
  bp (pur (bin .add false true .str x1 x2) m) fun x3 m =>
  bp (G.tab Qz [p0, x3] m) fun x4 m =>
  bp (pur (aFieldAddr 2 p8) m) fun x5 m =>
  bp (pur (aLoad false 1 x5 m) m) fun x6 m =>
  bp (pur (un .not x6) m) fun x7 m =>
  brb x7
  (bp (G.tab Qz [p0, (.string ⟨#[59,10]⟩)] m) fun x8 m =>
  Qy0 G k0 p17 p16 p15 p2 p0 m)
  (bp (G.tab Qz [p0, (.string ⟨#[32,123,10]⟩)] m) fun x9 m =>
  bp (pur (aFieldAddr 3 p8) m) fun x10 m =>
  bp (pur (aLoad false 1 x10 m) m) fun x11 m =>
  bp (pur (bin .add true true .int p2 (.int .i64 1)) m) fun x12 m =>
  bp (G.tab Q12v [p0, x11, x12] m) fun x13 m =>
  bp (pur (un .not x13) m) fun x14 m =>
  brb x14
  (some ((.bool false), m))
  (bp (pur (bin .add true true .str x1 (.string ⟨#[125,10]⟩)) m) fun x15 m =>
  bp (G.tab Qz [p0, x15] m) fun x16 m =>
  Qy0 G k0 p17 p16 p15 p2 p0 m))
def Qvh (G : Gt) (k0 : V → V → V → V → V → M → R) : Nat → V → V → V → V → V → V → V → V → V → V → M → R
 | 0, _, _, _, _, _, _, _, _, _, _, _ => none
 | i + 1, p47, p46, p45, p9, p2, p0, p8, p17, p16, p15, m =>
  bp (pur (bin .lss false true .int p47 p46) m) fun x17 m =>
  brb x17
  (bp (pur (aIndexAddrSl 1 p45 p47) m) fun x18 m =>
  bp (pur (aLoad false 1 x18 m) m) fun x19 m =>
  bp (G.tab Q1dk [x19] m) fun x20 m =>
  bp (pur (aExtract x20 0) m) fun x21 m =>
  bp (pur (aExtract x20 1) m) fun x22 m =>
  bp (pur (un .not x22) m) fun x23 m =>
  brb x23
  (some ((.bool false), m))
  (bp (aBuildSlice Q1 [(.string ⟨#[]⟩)] 1 1 [(0, x21)] m) fun x24 m =>
  bp (apS Q1 1 16 p9 x24 m) fun x25 m =>
  bp (pur (bin .add true true .int p47 (.int .i64 1)) m) fun x26 m =>
  (Qvh G k0 i) x26 p46 p45 x25 p2 p0 p8 p17 p16 p15 m))
  (Q17p G k0 p2 p0 p9 p8 p17 p16 p15 m)
def Q17q (G : Gt) (k0 : V → V → V → V → V → M → R) (p47 p46 p45 p9 p2 p0 p8 p17 p16 p15 : V) (m : M) : R :=
  Qvh G k0 G.rds p47 p46 p45 p9 p2 p0 p8 p17 p16 p15 m
def Q1bv (G : Gt) (k0 : V → V → V → V → V → M → R) (p8 p9 p2 p0 p17 p16 p15 : V) (m : M) : R :=
  bp (pur (aFieldAddr 0 p8) m) fun x27 m =>
  bp (pur (aLoad false 1 x27 m) m) fun x28 m =>
  bp (pur (lenK 1 x28 m) m) fun x29 m =>
  Q17q G k0 (.int .i64 0) x29 x28 p9 p2 p0 p8 p17 p16 p15 m
def Q1bw (G : Gt) (k0 : V → V → V → V → V → M → R) (p8 p2 p0 p17 p16 p15 : V) (m : M) : R :=
  Q1bv G k0 p8 (.slice none 0 0) p2 p0 p17 p16 p15 m
def Q64 (G : Gt) (k0 : V → V → V → V → V → M → R) (p43 p8 p2 p0 p17 p16 p15 : V) (m : M) : R :=
  brb p43
  (some ((.bool false), m))
  (Q1bw G k0 p8 p2 p0 p17 p16 p15 m)
def Q1bx (G : Gt) (k0 : V → V → V → V → V → M → R) (p8 p2 p0 p17 p16 p15 : V) (m : M) : R :=
  bp (pur (aFieldAddr 0 p8) m) fun x30 m =>
  bp (pur (aLoad false 1 x30 m) m) fun x31 m =>
  bp (pur (lenK 1 x31 m) m) fun x32 m =>
  bp (pur (bin .eql true true .int x32 (.int .i64 0)) m) fun x33 m =>
  brb x33
  (Q64 G k0 (.bool true) p8 p2 p0 p17 p16 p15 m)
  (bp (pur (aFieldAddr 2 p8) m) fun x34 m =>
  bp (pur (aLoad false 1 x34 m) m) fun x35 m =>
  bp (pur (un .not x35) m) fun x36 m =>
  brb x36
  (bp (pur (aFieldAddr 3 p8) m) fun x37 m =>
  bp (pur (aLoad false 1 x37 m) m) fun x38 m =>
  bp (pur (lenK 1 x38 m) m) fun x39 m =>
  bp (pur (bin .gtr true true .int x39 (.int .i64 0)) m) fun x40 m =>
  brb x40
  (Q64 G k0 (.bool true) p8 p2 p0 p17 p16 p15 m)
  (bp (pur (aFieldAddr 2 p8) m) fun x41 m =>
  bp (pur (aLoad false 1 x41 m) m) fun x42 m =>
  brb x42
  (bp (pur (bin .geq true true .int p2 (.int .i64 32)) m) fun x43 m =>
  Q64 G k0 x43 p8 p2 p0 p17 p16 p15 m)
  (Q64 G k0 (.bool false) p8 p2 p0 p17 p16 p15 m)))
  (bp (pur (aFieldAddr 2 p8) m) fun x44 m =>
  bp (pur (aLoad false 1 x44 m) m) fun x45 m =>
  brb x45
  (bp (pur (bin .geq true true .int p2 (.int .i64 32)) m) fun x46 m =>
  Q64 G k0 x46 p8 p2 p0 p17 p16 p15 m)
  (Q64 G k0 (.bool false) p8 p2 p0 p17 p16 p15 m)))
def Q1by (G : Gt) (k0 : V → V → V → V → V → M → R) (p15 p17 p2 p0 p16 : V) (m : M) : R :=
  bp (pur (aIndexAddrSl 4 p15 p17) m) fun x47 m =>
  bp (pur (aLoad true 4 x47 m) m) fun x48 m =>
  bp (some (aNew Q2 Q4 m)) fun x49 m =>
  bp (unt (aStore 4 x49 x48 m)) fun _ m =>
  Q1bx G k0 x49 p2 p0 p17 p16 p15 m
def Q1bz (G : Gt) (k0 : V → V → V → V → V → M → R) (p18 p15 p17 p2 p0 p16 : V) (m : M) : R :=
  brb p18
  (Q1by G k0 p15 p17 p2 p0 p16 m)
  (Q1bu G m)
def Q1h (G : Gt) : Nat → V → V → V → V → V → M → R
 | 0, _, _, _, _, _, _ => none
 | i + 1, p17, p16, p15, p2, p0, m =>
  bp (pur (bin .lss false true .int p17 p16) m) fun x50 m =>
  Q1bz G (Q1h G i) x50 p15 p17 p2 p0 p16 m
def Q1c0 (G : Gt) (p17 p16 p15 p2 p0 : V) (m : M) : R :=
  Q1h G G.rds p17 p16 p15 p2 p0 m
def Q1c1 (G : Gt) (p1 p2 p0 : V) (m : M) : R :=
  bp (pur (lenK 1 p1 m) m) fun x51 m =>
  Q1c0 G (.int .i64 0) x51 p1 p2 p0 m
def Q14e (G : Gt) (p1 p2 p0 : V) (m : M) : R :=
  Q1c1 G p1 p2 p0 m
theorem Q1nn (G : Gt) (a0 a1 a2 : V) (m : M) : evFn Tryz.prog G.tab G.rds (drOf Tryz.prog G.tab) Tryz.f53 [a0, a1, a2] m = Q14e G a1 a2 a0 m :=
  evFn_of (r := fun ρ m => Q14e G (ρ 1) (ρ 2) (ρ 0) m) rfl rfl (tr (seqQ (f := fun ρ m => Q1c1 G (ρ 1) (ρ 2) (ρ 0) m) (tr (tr (seqQ (f := fun ρ m => Q1bu G m) (fun ρ m => by kernel_rfl)) (seqQ (f := fun ρ m => Q1c0 G (ρ 17) (ρ 16) (ρ 15) (ρ 2) (ρ 0) m) (tr (blockQ (loopQ (fun i ρ m => Q1h G i (ρ 17) (ρ 16) (ρ 15) (ρ 2) (ρ 0) m) (fun _ _ => rfl) (fun i0 => tr (seqQ (f := fun ρ m => Q1bz G (Q1h G i0) (ρ 18) (ρ 15) (ρ 17) (ρ 2) (ρ 0) (ρ 16) m) (tr (seqQ (f := fun ρ m => Q1by G (Q1h G i0) (ρ 15) (ρ 17) (ρ 2) (ρ 0) (ρ 16) m) (tr (tr (seqQ (f := fun ρ m => Qy0 G (Q1h G i0) (ρ 17) (ρ 16) (ρ 15) (ρ 2) (ρ 0) m) (fun ρ m => by kernel_rfl)) (blockQ (seqQ (f := fun ρ m => Q1bx G (Q1h G i0) (ρ 8) (ρ 2) (ρ 0) (ρ 17) (ρ 16) (ρ 15) m) (tr (tr (seqQ (f := fun ρ m => Q1bw G (Q1h G i0) (ρ 8) (ρ 2) (ρ 0) (ρ 17) (ρ 16) (ρ 15) m) (tr (seqQ (f := fun ρ m => Q1bv G (Q1h G i0) (ρ 8) (ρ 9) (ρ 2) (ρ 0) (ρ 17) (ρ 16) (ρ 15) m) (tr (tr (seqQ (f := fun ρ m => Q17p G (Q1h G i0) (ρ 2) (ρ 0) (ρ 9) (ρ 8) (ρ 17) (ρ 16) (ρ 15) m) (fun ρ m => by kernel_rfl)) (seqQ (f := fun ρ m => Q17q G (Q1h G i0) (ρ 47) (ρ 46) (ρ 45) (ρ 9) (ρ 2) (ρ 0) (ρ 8) (ρ 17) (ρ 16) (ρ 15) m) (tr (blockQ (loopQ (fun i ρ m => Qvh G (Q1h G i0) i (ρ 47) (ρ 46) (ρ 45) (ρ 9) (ρ 2) (ρ 0) (ρ 8) (ρ 17) (ρ 16) (ρ 15) m) (fun _ _ => rfl) (fun i1 => fun ρ m => by kernel_rfl))) (fun ρ m => by kernel_rfl)))) (fun ρ m => by kernel_rfl))) (fun ρ m => by kernel_rfl))) (seqQ (f := fun ρ m => Q64 G (Q1h G i0) (ρ 43) (ρ 8) (ρ 2) (ρ 0) (ρ 17) (ρ 16) (ρ 15) m) (fun ρ m => by kernel_rfl))) (fun ρ m => by kernel_rfl))))) (fun ρ m => by kernel_rfl))) (fun ρ m => by kernel_rfl))) (fun ρ m => by kernel_rfl)))) (fun ρ m => by kernel_rfl)))) (fun ρ m => by kernel_rfl))) (fun ρ m => by kernel_rfl)) m
def Q1nl : Entry Tryz.prog := ⟨Q12v, Tryz.f53, Tryz.func53, by kernel_rfl, arg3 (fun G a0 a1 a2 m => Q14e G a1 a2 a0 m), okarg3 Q1nn⟩
def Q9o (G : Gt) (p0 : V) (m : M) : R :=
  bp (pur (aNilCheck p0) m) fun x0 m =>
  bp (pur (aFieldAddr 1 x0) m) fun x1 m =>
  bp (pur (aLoad false 1 x1 m) m) fun x2 m =>
  bp (pur (aNilCheck p0) m) fun x3 m =>
  bp (pur (aFieldAddr 1 x3) m) fun x4 m =>
  bp (pur (aLoad false 1 x4 m) m) fun x5 m =>
  bp (pur (lenK 1 x5 m) m) fun x6 m =>
  bp (pur (aSliceData x2) m) fun x7 m =>
  ckB (again (pur (aLoad false 1 x4 m) m) x5 && true)
  (bp (aUnsafeString Q6x x7 x6 m) fun x8 m =>
  some (x8, m))
theorem Q128 (G : Gt) (a0 : V) (m : M) : evFn Tryz.prog G.tab G.rds (drOf Tryz.prog G.tab) Tryz.f54 [a0] m = Q9o G a0 m :=
  evFn_of (r := fun ρ m => Q9o G (ρ 0) m) rfl rfl (fun ρ m => by kernel_rfl) m
def Q127 : Entry Tryz.prog := ⟨Q5e, Tryz.f54, Tryz.func54, by kernel_rfl, arg1 (fun G a0 m => Q9o G a0 m), okarg1 Q128⟩
def Qfj (G : Gt) (p0 : V) (m : M) : R :=
  bp (pur (bin .lss true true .int p0 (.int .i64 0)) m) fun x0 m =>
  brb x0
  (bp (pur (bin .add true true .int p0 (.int .i64 1)) m) fun x1 m =>
  bp (pur (un .neg x1) m) fun x2 m =>
  bp (conv (.int .u64) x2 m) fun x3 m =>
  bp (pur (bin .add true true .int x3 (.int .u64 1)) m) fun x4 m =>
  bp (G.tab Qe6 [x4] m) fun x5 m =>
  bp (pur (bin .add true true .str (.string ⟨#[45]⟩) x5) m) fun x6 m =>
  some (x6, m))
  (bp (conv (.int .u64) p0 m) fun x7 m =>
  bp (G.tab Qe6 [x7] m) fun x8 m =>
  some (x8, m))
theorem Q1c2 (G : Gt) (a0 : V) (m : M) : evFn Tryz.prog G.tab G.rds (drOf Tryz.prog G.tab) Tryz.f55 [a0] m = Qfj G a0 m :=
  evFn_of (r := fun ρ m => Qfj G (ρ 0) m) rfl rfl (fun ρ m => by kernel_rfl) m
def Q1bt : Entry Tryz.prog := ⟨Qe5, Tryz.f55, Tryz.func55, by kernel_rfl, arg1 (fun G a0 m => Qfj G a0 m), okarg1 Q1c2⟩
def Qme (G : Gt) (p3 : V) (m : M) : R :=
  some (p3, m)
def Qb3 (G : Gt) : Nat → V → V → V → M → R
 | 0, _, _, _, _ => none
 | i + 1, p4, p0, p3, m =>
  bp (pur (lenK 1 p0 m) m) fun x0 m =>
  bp (pur (bin .lss false true .int p4 x0) m) fun x1 m =>
  brb x1
  (bp (pur (aIndexAddrSl 1 p0 p4) m) fun x2 m =>
  bp (pur (aLoad false 1 x2 m) m) fun x3 m =>
  bp (conv (.int .i64) x3 m) fun x4 m =>
  bp (aBuildSlice Q2h [(.int .i64 0)] 1 1 [(0, x4)] m) fun x5 m =>
  bp (apS Q2h 1 8 p3 x5 m) fun x6 m =>
  bp (pur (bin .add true true .int p4 (.int .i64 1)) m) fun x7 m =>
  (Qb3 G i) x7 p0 x6 m)
  (Qme G p3 m)
def Qmf (G : Gt) (p4 p0 p3 : V) (m : M) : R :=
  Qb3 G G.rds p4 p0 p3 m
def Qmg (G : Gt) (p0 p3 : V) (m : M) : R :=
  Qmf G (.int .i64 0) p0 p3 m
def Qmh (G : Gt) (p0 : V) (m : M) : R :=
  bp (pur (lenK 1 p0 m) m) fun x8 m =>
  bp (aBuildSlice Q2h [(.int .i64 0)] 1 1 [(0, x8)] m) fun x9 m =>
  Qmg G p0 x9 m
def Qd5 (G : Gt) (p0 : V) (m : M) : R :=
  Qmh G p0 m
theorem Q18y (G : Gt) (a0 : V) (m : M) : evFn Tryz.prog G.tab G.rds (drOf Tryz.prog G.tab) Tryz.f56 [a0] m = Qd5 G a0 m :=
  evFn_of (r := fun ρ m => Qd5 G (ρ 0) m) rfl rfl (tr (seqQ (f := fun ρ m => Qmh G (ρ 0) m) (tr (seqQ (f := fun ρ m => Qmg G (ρ 0) (ρ 3) m) (tr (tr (seqQ (f := fun ρ m => Qme G (ρ 3) m) (fun ρ m => by kernel_rfl)) (seqQ (f := fun ρ m => Qmf G (ρ 4) (ρ 0) (ρ 3) m) (tr (blockQ (loopQ (fun i ρ m => Qb3 G i (ρ 4) (ρ 0) (ρ 3) m) (fun _ _ => rfl) (fun i0 => fun ρ m => by kernel_rfl))) (fun ρ m => by kernel_rfl)))) (fun ρ m => by kernel_rfl))) (fun ρ m => by kernel_rfl))) (fun ρ m => by kernel_rfl)) m
def Q18t : Entry Tryz.prog := ⟨Q7f, Tryz.f56, Tryz.func56, by kernel_rfl, arg1 (fun G a0 m => Qd5 G a0 m), okarg1 Q18y⟩
def Qfk (G : Gt) (p3 : V) (m : M) : R :=
  some (p3, m)
def Q74 (G : Gt) : Nat → V → V → V → M → R
 | 0, _, _, _, _ => none
 | i + 1, p4, p0, p3, m =>
  bp (pur (lenK 1 p0 m) m) fun x0 m =>
  bp (pur (bin .lss false true .int p4 x0) m) fun x1 m =>
  brb x1
  (bp (pur (aIndexAddrSl 4 p0 p4) m) fun x2 m =>
  bp (pur (aFieldAddr 0 x2) m) fun x3 m =>
  bp (pur (aLoad false 1 x3 m) m) fun x4 m =>
  bp (conv (.int .i64) x4 m) fun x5 m =>
  bp (pur (aIndexAddrSl 4 p0 p4) m) fun x6 m =>
  bp (pur (aFieldAddr 1 x6) m) fun x7 m =>
  bp (pur (aLoad false 1 x7 m) m) fun x8 m =>
  bp (pur (aIndexAddrSl 4 p0 p4) m) fun x9 m =>
  bp (pur (aFieldAddr 2 x9) m) fun x10 m =>
  bp (pur (aLoad false 1 x10 m) m) fun x11 m =>
  bp (conv (.int .i64) x11 m) fun x12 m =>
  bp (aBuildSlice Q2h [(.int .i64 0)] 1 3 [(0, x5), (1, x8), (2, x12)] m) fun x13 m =>
  bp (pur (aIndexAddrSl 4 p0 p4) m) fun x14 m =>
  bp (pur (aFieldAddr 3 x14) m) fun x15 m =>
  bp (pur (aLoad false 1 x15 m) m) fun x16 m =>
  bp (aBuildSlice Q1 [(.string ⟨#[]⟩)] 1 1 [(0, x16)] m) fun x17 m =>
  bp (G.tab Qd [x13, x17] m) fun x18 m =>
  bp (pur (bin .add false true .str p3 x18) m) fun x19 m =>
  bp (pur (bin .add true true .int p4 (.int .i64 1)) m) fun x20 m =>
  (Q74 G i) x20 p0 x19 m)
  (Qfk G p3 m)
def Qfl (G : Gt) (p4 p0 p3 : V) (m : M) : R :=
  Q74 G G.rds p4 p0 p3 m
def Qfm (G : Gt) (p0 p3 : V) (m : M) : R :=
  Qfl G (.int .i64 0) p0 p3 m
def Qfn (G : Gt) (p0 : V) (m : M) : R :=
  bp (pur (lenK 1 p0 m) m) fun x21 m =>
  bp (aBuildSlice Q2h [(.int .i64 0)] 1 1 [(0, x21)] m) fun x22 m =>
  bp (G.tab Qd [x22, (.slice none 0 0)] m) fun x23 m =>
  Qfm G p0 x23 m
def Q8p (G : Gt) (p0 : V) (m : M) : R :=
  Qfn G p0 m
theorem Q10l (G : Gt) (a0 : V) (m : M) : evFn Tryz.prog G.tab G.rds (drOf Tryz.prog G.tab) Tryz.f57 [a0] m = Q8p G a0 m :=
  evFn_of (r := fun ρ m => Q8p G (ρ 0) m) rfl rfl (tr (seqQ (f := fun ρ m => Qfn G (ρ 0) m) (tr (seqQ (f := fun ρ m => Qfm G (ρ 0) (ρ 3) m) (tr (tr (seqQ (f := fun ρ m => Qfk G (ρ 3) m) (fun ρ m => by kernel_rfl)) (seqQ (f := fun ρ m => Qfl G (ρ 4) (ρ 0) (ρ 3) m) (tr (blockQ (loopQ (fun i ρ m => Q74 G i (ρ 4) (ρ 0) (ρ 3) m) (fun _ _ => rfl) (fun i0 => fun ρ m => by kernel_rfl))) (fun ρ m => by kernel_rfl)))) (fun ρ m => by kernel_rfl))) (fun ρ m => by kernel_rfl))) (fun ρ m => by kernel_rfl)) m
def Q10i : Entry Tryz.prog := ⟨Q8g, Tryz.f57, Tryz.func57, by kernel_rfl, arg1 (fun G a0 m => Q8p G a0 m), okarg1 Q10l⟩
def Qzj (G : Gt) (p2 : V) (m : M) : R :=
  bp (pur (aBuild Q5 [(0, 1), (1, 1)] []) m) fun x0 m =>
  bp (unt (aStore 2 p2 x0 m)) fun _ m =>
  ob (ob (aLoad true 2 p2 m) fun v => ob (some [(.int .i64 0)]) fun l => some (v :: l)) fun l => some (resVal l, m)
def Q8d (G : Gt) (k0 : V → V → V → V → V → M → R) (p13 p12 p4 p2 p0 : V) (m : M) : R :=
  bp (pur (bin .add true true .int p13 (.int .i64 1)) m) fun x1 m =>
  k0 x1 p12 p4 p2 p0 m
def Q6w (G : Gt) (k0 : V → V → V → V → V → M → R) (p30 p4 p2 p13 p12 p0 : V) (m : M) : R :=
  brb p30
  (bp (pur (aLoad true 2 p4 m) m) fun x7 m =>
  bp (unt (aStore 2 p2 x7 m)) fun _ m =>
  ob (ob (aLoad true 2 p2 m) fun v => ob (some [(.int .i64 70)]) fun l => some (v :: l)) fun l => some (resVal l, m))
  (bp (pur (aFieldAddr 1 p4) m) fun x8 m =>
  bp (pur (aLoad false 1 x8 m) m) fun x9 m =>
  bp (pur (bin .add true true .int x9 (.int .i64 1)) m) fun x10 m =>
  bp (pur (aFieldAddr 1 p4) m) fun x11 m =>
  bp (unt (aStore 1 x11 x10 m)) fun _ m =>
  Q8d G k0 p13 p12 p4 p2 p0 m)
def Qa6 (G : Gt) (k0 : V → V → V → V → V → M → R) (p21 p4 p13 p12 p2 p0 p5 : V) (m : M) : R :=
  brb p21
  (bp (pur (aFieldAddr 0 p4) m) fun x3 m =>
  bp (pur (aLoad false 1 x3 m) m) fun x4 m =>
  bp (pur (bin .add true true .int x4 (.int .i64 1)) m) fun x5 m =>
  bp (pur (aBuild Q5 [(0, 1), (1, 1)] [(0, x5), (1, (.int .i64 1))]) m) fun x6 m =>
  bp (unt (aStore 2 p4 x6 m)) fun _ m =>
  Q8d G k0 p13 p12 p4 p2 p0 m)
  (bp (pur (aIndexStr p0 p5) m) fun x12 m =>
  bp (pur (bin .lss true true .int x12 (.int .u8 32)) m) fun x13 m =>
  brb x13
  (Q6w G k0 (.bool true) p4 p2 p13 p12 p0 m)
  (bp (pur (aIndexStr p0 p5) m) fun x14 m =>
  bp (pur (bin .gtr true true .int x14 (.int .u8 126)) m) fun x15 m =>
  Q6w G k0 x15 p4 p2 p13 p12 p0 m))
def Q6v (G : Gt) (k0 : V → V → V → V → V → M → R) (p16 p4 p2 p0 p5 p13 p12 : V) (m : M) : R :=
  brb p16
  (bp (pur (aLoad true 2 p4 m) m) fun x2 m =>
  bp (unt (aStore 2 p2 x2 m)) fun _ m =>
  ob (ob (aLoad true 2 p2 m) fun v => ob (some [(.int .i64 3)]) fun l => some (v :: l)) fun l => some (resVal l, m))
  (bp (pur (aIndexStr p0 p5) m) fun x16 m =>
  bp (pur (bin .eql true true .int x16 (.int .u8 10)) m) fun x17 m =>
  Qa6 G k0 x17 p4 p13 p12 p2 p0 p5 m)
def Q8c (G : Gt) (k0 : V → V → V → V → V → M → R) (p4 p2 p0 p5 p13 p12 : V) (m : M) : R :=
  bp (pur (aFieldAddr 0 p4) m) fun x18 m =>
  bp (pur (aLoad false 1 x18 m) m) fun x19 m =>
  bp (pur (bin .gtr true true .int x19 (.int .i64 4096)) m) fun x20 m =>
  Q6v G k0 x20 p4 p2 p0 p5 p13 p12 m
def Q8b (G : Gt) (k0 : V → V → V → V → V → M → R) (p13 p4 p2 p0 p12 : V) (m : M) : R :=
  Q8c G k0 p4 p2 p0 p13 p13 p12 m
def Q68 (G : Gt) (k0 : V → V → V → V → V → M → R) (p14 p13 p4 p2 p0 p12 : V) (m : M) : R :=
  brb p14
  (Q8b G k0 p13 p4 p2 p0 p12 m)
  (Qzj G p2 m)
def Q1p (G : Gt) : Nat → V → V → V → V → V → M → R
 | 0, _, _, _, _, _, _ => none
 | i + 1, p13, p12, p4, p2, p0, m =>
  bp (pur (bin .lss false true .int p13 p12) m) fun x21 m =>
  Q68 G (Q1p G i) x21 p13 p4 p2 p0 p12 m
def Qzn (G : Gt) (p13 p12 p4 p2 p0 : V) (m : M) : R :=
  Q1p G G.rds p13 p12 p4 p2 p0 m
def Qzm (G : Gt) (p0 p4 p2 : V) (m : M) : R :=
  bp (pur (lenK 0 p0 m) m) fun x22 m =>
  Qzn G (.int .i64 0) x22 p4 p2 p0 m
def Qzl (G : Gt) (p0 p2 : V) (m : M) : R :=
  bp (pur (aBuild Q5 [(0, 1), (1, 1)] [(0, (.int .i64 1)), (1, (.int .i64 1))]) m) fun x23 m =>
  bp (some (aNew Q9 Q5 m)) fun x24 m =>
  bp (unt (aStore 2 x24 x23 m)) fun _ m =>
  Qzm G p0 x24 p2 m
def Qzk (G : Gt) (p0 p2 : V) (m : M) : R :=
  bp (pur (lenK 0 p0 m) m) fun x25 m =>
  bp (pur (bin .gtr true true .int x25 (.int .i64 65536)) m) fun x26 m =>
  brb x26
  (bp (pur (aBuild Q5 [(0, 1), (1, 1)] []) m) fun x27 m =>
  bp (unt (aStore 2 p2 x27 m)) fun _ m =>
  ob (ob (aLoad true 2 p2 m) fun v => ob (some [(.int .i64 3)]) fun l => some (v :: l)) fun l => some (resVal l, m))
  (Qzl G p0 p2 m)
def Qot (G : Gt) (p0 : V) (m : M) : R :=
  bp (some (aNew Q9 Q5 m)) fun x28 m =>
  Qzk G p0 x28 m
theorem Q1on (G : Gt) (a0 : V) (m : M) : evFn Tryz.prog G.tab G.rds (drOf Tryz.prog G.tab) Tryz.f58 [a0] m = Qot G a0 m :=
  evFn_of (r := fun ρ m => Qot G (ρ 0) m) rfl rfl (tr (seqQ (f := fun ρ m => Qzk G (ρ 0) (ρ 2) m) (tr (seqQ (f := fun ρ m => Qzl G (ρ 0) (ρ 2) m) (tr (seqQ (f := fun ρ m => Qzm G (ρ 0) (ρ 4) (ρ 2) m) (tr (tr (seqQ (f := fun ρ m => Qzj G (ρ 2) m) (fun ρ m => by kernel_rfl)) (seqQ (f := fun ρ m => Qzn G (ρ 13) (ρ 12) (ρ 4) (ρ 2) (ρ 0) m) (tr (blockQ (loopQ (fun i ρ m => Q1p G i (ρ 13) (ρ 12) (ρ 4) (ρ 2) (ρ 0) m) (fun _ _ => rfl) (fun i0 => tr (seqQ (f := fun ρ m => Q68 G (Q1p G i0) (ρ 14) (ρ 13) (ρ 4) (ρ 2) (ρ 0) (ρ 12) m) (tr (seqQ (f := fun ρ m => Q8b G (Q1p G i0) (ρ 13) (ρ 4) (ρ 2) (ρ 0) (ρ 12) m) (tr (tr (seqQ (f := fun ρ m => Q8d G (Q1p G i0) (ρ 13) (ρ 12) (ρ 4) (ρ 2) (ρ 0) m) (fun ρ m => by kernel_rfl)) (blockQ (seqQ (f := fun ρ m => Q8c G (Q1p G i0) (ρ 4) (ρ 2) (ρ 0) (ρ 5) (ρ 13) (ρ 12) m) (tr (tr seqD (blockQ (seqQ (f := fun ρ m => Q6v G (Q1p G i0) (ρ 16) (ρ 4) (ρ 2) (ρ 0) (ρ 5) (ρ 13) (ρ 12) m) (tr (condQ (refQ) (seqQ (f := fun ρ m => Qa6 G (Q1p G i0) (ρ 21) (ρ 4) (ρ 13) (ρ 12) (ρ 2) (ρ 0) (ρ 5) m) (tr (condQ (refQ) (seqQ (f := fun ρ m => Q6w G (Q1p G i0) (ρ 30) (ρ 4) (ρ 2) (ρ 13) (ρ 12) (ρ 0) m) (fun ρ m => by kernel_rfl))) (fun ρ m => by kernel_rfl)))) (fun ρ m => by kernel_rfl))))) (fun ρ m => by kernel_rfl))))) (fun ρ m => by kernel_rfl))) (fun ρ m => by kernel_rfl))) (fun ρ m => by kernel_rfl)))) (fun ρ m => by kernel_rfl)))) (fun ρ m => by kernel_rfl))) (fun ρ m => by kernel_rfl))) (fun ρ m => by kernel_rfl))) (fun ρ m => by kernel_rfl)) m
def Qy2 : Entry Tryz.prog := ⟨Qou, Tryz.f58, Tryz.func58, by kernel_rfl, arg1 (fun G a0 m => Qot G a0 m), okarg1 Q1on⟩
end
end Go.Ab.Sh
