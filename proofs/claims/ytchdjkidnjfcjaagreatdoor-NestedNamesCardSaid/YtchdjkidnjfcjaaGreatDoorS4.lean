/-
  Functions of the program as plain definitions, each with the theorem that it is what the evaluator makes of the code. No conditions.
-/
import Derived.Test.YtchdjkidnjfcjaaGreatDoorAb5
import Derived.Test.YtchdjkidnjfcjaaGreatDoorZ
import Derived.KernelRfl
import Derived.Test.YtchdjkidnjfcjaaGreatDoorProg
set_option linter.unusedVariables false
set_option maxRecDepth 100000
namespace Go.Ab.Sh
open Go Go.Ab Go.Proofs
noncomputable section
def Qi7 (G : Gt) (p3 : V) (m : M) : R :=
  bp (conv .str p3 m) fun x0 m =>
  some (x0, m)
def Qi8 (G : Gt) (k0 : V → V → V → M → R) (p8 p1 p3 : V) (m : M) : R :=
  bp (pur (bin .add true true .int p8 (.int .i64 1)) m) fun x1 m =>
  k0 x1 p1 p3 m
def Q7n (G : Gt) (k0 : V → V → V → M → R) : Nat → V → V → V → V → V → M → R
 | 0, _, _, _, _, _, _ => none
 | i + 1, p10, p9, p3, p8, p1, m =>
  bp (pur (aFieldAddr 1 p9) m) fun x2 m =>
  bp (pur (aLoad false 1 x2 m) m) fun x3 m =>
  bp (pur (lenK 1 x3 m) m) fun x4 m =>
  bp (pur (bin .lss false true .int p10 x4) m) fun x5 m =>
  brb x5
  (bp (pur (aFieldAddr 1 p9) m) fun x6 m =>
  bp (pur (aLoad false 1 x6 m) m) fun x7 m =>
  bp (pur (aIndexAddrSl 2 x7 p10) m) fun x8 m =>
  bp (pur (aFieldAddr 0 x8) m) fun x9 m =>
  bp (pur (aLoad false 1 x9 m) m) fun x10 m =>
  bp (pur (aFieldAddr 1 p9) m) fun x11 m =>
  bp (pur (aLoad false 1 x11 m) m) fun x12 m =>
  bp (pur (aIndexAddrSl 2 x12 p10) m) fun x13 m =>
  bp (pur (aFieldAddr 1 x13) m) fun x14 m =>
  bp (pur (aLoad false 1 x14 m) m) fun x15 m =>
  bp (G.tab Q11 [x10] m) fun x16 m =>
  ckB (again (pur (aLoad false 1 x11 m) m) x12 && (again (pur (aLoad false 1 x14 m) m) x15 && true))
  (bp (aBuildSlice Q2h [(.int .i64 0)] 1 1 [(0, x16)] m) fun x17 m =>
  bp (G.tab Q7f [x15] m) fun x18 m =>
  bp (apS Q2h 1 8 x17 x18 m) fun x19 m =>
  bp (G.tab Qd [x19, (.slice none 0 0)] m) fun x20 m =>
  bp (aAppend Q6x 1 1 p3 x20 m) fun x21 m =>
  bp (pur (bin .add true true .int p10 (.int .i64 1)) m) fun x22 m =>
  (Q7n G k0 i) x22 p9 x21 p8 p1 m))
  (Qi8 G k0 p8 p1 p3 m)
def Qge (G : Gt) (k0 : V → V → V → M → R) (p10 p9 p3 p8 p1 : V) (m : M) : R :=
  Q7n G k0 G.rds p10 p9 p3 p8 p1 m
def Qi9 (G : Gt) (k0 : V → V → V → M → R) (p9 p3 p8 p1 : V) (m : M) : R :=
  Qge G k0 (.int .i64 0) p9 p3 p8 p1 m
def Qia (G : Gt) (k0 : V → V → V → M → R) (p3 p9 p8 p1 : V) (m : M) : R :=
  bp (pur (aFieldAddr 1 p9) m) fun x23 m =>
  bp (pur (aLoad false 1 x23 m) m) fun x24 m =>
  bp (pur (lenK 1 x24 m) m) fun x25 m =>
  bp (aBuildSlice Q2h [(.int .i64 0)] 1 1 [(0, x25)] m) fun x26 m =>
  bp (pur (aFieldAddr 0 p9) m) fun x27 m =>
  bp (pur (aLoad false 1 x27 m) m) fun x28 m =>
  bp (aBuildSlice Q1 [(.string ⟨#[]⟩)] 1 1 [(0, x28)] m) fun x29 m =>
  bp (G.tab Qd [x26, x29] m) fun x30 m =>
  bp (aAppend Q6x 1 1 p3 x30 m) fun x31 m =>
  Qi9 G k0 p9 x31 p8 p1 m
def Qib (G : Gt) (k0 : V → V → V → M → R) (p1 p8 p3 : V) (m : M) : R :=
  bp (pur (aFieldAddr 8 p1) m) fun x32 m =>
  bp (pur (aLoad false 1 x32 m) m) fun x33 m =>
  bp (pur (aIndexAddrSl 2 x33 p8) m) fun x34 m =>
  bp (pur (aLoad true 2 x34 m) m) fun x35 m =>
  bp (some (aNew Q2f Q4d m)) fun x36 m =>
  bp (unt (aStore 2 x36 x35 m)) fun _ m =>
  Qia G k0 p3 x36 p8 p1 m
def Qt (G : Gt) : Nat → V → V → V → M → R
 | 0, _, _, _, _ => none
 | i + 1, p8, p1, p3, m =>
  bp (pur (aFieldAddr 8 p1) m) fun x37 m =>
  bp (pur (aLoad false 1 x37 m) m) fun x38 m =>
  bp (pur (lenK 1 x38 m) m) fun x39 m =>
  bp (pur (bin .lss false true .int p8 x39) m) fun x40 m =>
  brb x40
  (Qib G (Qt G i) p1 p8 p3 m)
  (Qi7 G p3 m)
def Qic (G : Gt) (p8 p1 p3 : V) (m : M) : R :=
  Qt G G.rds p8 p1 p3 m
def Qid (G : Gt) (p1 p3 : V) (m : M) : R :=
  Qic G (.int .i64 0) p1 p3 m
def Qgf (G : Gt) (k0 : V → V → V → M → R) (p4 p1 p3 : V) (m : M) : R :=
  bp (pur (bin .add true true .int p4 (.int .i64 1)) m) fun x41 m =>
  k0 x41 p1 p3 m
def Q7o (G : Gt) (k0 : V → V → V → M → R) : Nat → V → V → V → V → V → M → R
 | 0, _, _, _, _, _, _ => none
 | i + 1, p6, p5, p3, p4, p1, m =>
  bp (pur (aFieldAddr 1 p5) m) fun x42 m =>
  bp (pur (aLoad false 1 x42 m) m) fun x43 m =>
  bp (pur (lenK 1 x43 m) m) fun x44 m =>
  bp (pur (bin .lss false true .int p6 x44) m) fun x45 m =>
  brb x45
  (bp (pur (aFieldAddr 1 p5) m) fun x46 m =>
  bp (pur (aLoad false 1 x46 m) m) fun x47 m =>
  bp (pur (aIndexAddrSl 5 x47 p6) m) fun x48 m =>
  bp (pur (aLoad true 5 x48 m) m) fun x49 m =>
  bp (some (aNew Qcm Qil m)) fun x50 m =>
  bp (unt (aStore 5 x50 x49 m)) fun _ m =>
  bp (pur (aFieldAddr 0 x50) m) fun x51 m =>
  bp (pur (aLoad false 1 x51 m) m) fun x52 m =>
  bp (pur (aFieldAddr 1 x50) m) fun x53 m =>
  bp (pur (aFieldAddr 0 x53) m) fun x54 m =>
  bp (pur (aLoad false 1 x54 m) m) fun x55 m =>
  bp (conv (.int .i64) x55 m) fun x56 m =>
  bp (pur (aFieldAddr 1 x50) m) fun x57 m =>
  bp (pur (aFieldAddr 1 x57) m) fun x58 m =>
  bp (pur (aLoad false 1 x58 m) m) fun x59 m =>
  bp (pur (aFieldAddr 3 x50) m) fun x60 m =>
  bp (pur (aLoad false 1 x60 m) m) fun x61 m =>
  bp (pur (aFieldAddr 4 x50) m) fun x62 m =>
  bp (pur (aLoad false 1 x62 m) m) fun x63 m =>
  bp (G.tab Q11 [x52] m) fun x64 m =>
  ckB (again (pur (aLoad false 1 x54 m) m) x55 && (again (pur (aLoad false 1 x58 m) m) x59 && (again (pur (aLoad false 1 x60 m) m) x61 && (again (pur (aLoad false 1 x62 m) m) x63 && true))))
  (bp (aBuildSlice Q2h [(.int .i64 0)] 1 5 [(0, x64), (1, x56), (2, x59), (3, x61), (4, x63)] m) fun x65 m =>
  bp (G.tab Qd [x65, (.slice none 0 0)] m) fun x66 m =>
  bp (aAppend Q6x 1 1 p3 x66 m) fun x67 m =>
  bp (pur (bin .add true true .int p6 (.int .i64 1)) m) fun x68 m =>
  (Q7o G k0 i) x68 p5 x67 p4 p1 m))
  (Qgf G k0 p4 p1 p3 m)
def Qgg (G : Gt) (k0 : V → V → V → M → R) (p6 p5 p3 p4 p1 : V) (m : M) : R :=
  Q7o G k0 G.rds p6 p5 p3 p4 p1 m
def Qgh (G : Gt) (k0 : V → V → V → M → R) (p5 p3 p4 p1 : V) (m : M) : R :=
  Qgg G k0 (.int .i64 0) p5 p3 p4 p1 m
def Qgi (G : Gt) (k0 : V → V → V → M → R) (p3 p5 p4 p1 : V) (m : M) : R :=
  bp (pur (aFieldAddr 1 p5) m) fun x69 m =>
  bp (pur (aLoad false 1 x69 m) m) fun x70 m =>
  bp (pur (lenK 1 x70 m) m) fun x71 m =>
  bp (aBuildSlice Q2h [(.int .i64 0)] 1 1 [(0, x71)] m) fun x72 m =>
  bp (pur (aFieldAddr 0 p5) m) fun x73 m =>
  bp (pur (aLoad false 1 x73 m) m) fun x74 m =>
  bp (aBuildSlice Q1 [(.string ⟨#[]⟩)] 1 1 [(0, x74)] m) fun x75 m =>
  bp (G.tab Qd [x72, x75] m) fun x76 m =>
  bp (aAppend Q6x 1 1 p3 x76 m) fun x77 m =>
  Qgh G k0 p5 x77 p4 p1 m
def Qgj (G : Gt) (k0 : V → V → V → M → R) (p1 p4 p3 : V) (m : M) : R :=
  bp (pur (aFieldAddr 7 p1) m) fun x78 m =>
  bp (pur (aLoad false 1 x78 m) m) fun x79 m =>
  bp (pur (aIndexAddrSl 2 x79 p4) m) fun x80 m =>
  bp (pur (aLoad true 2 x80 m) m) fun x81 m =>
  bp (some (aNew Q3p Q6z m)) fun x82 m =>
  bp (unt (aStore 2 x82 x81 m)) fun _ m =>
  Qgi G k0 p3 x82 p4 p1 m
def Qp (G : Gt) : Nat → V → V → V → M → R
 | 0, _, _, _, _ => none
 | i + 1, p4, p1, p3, m =>
  bp (pur (aFieldAddr 7 p1) m) fun x83 m =>
  bp (pur (aLoad false 1 x83 m) m) fun x84 m =>
  bp (pur (lenK 1 x84 m) m) fun x85 m =>
  bp (pur (bin .lss false true .int p4 x85) m) fun x86 m =>
  brb x86
  (Qgj G (Qp G i) p1 p4 p3 m)
  (Qid G p1 p3 m)
def Qgk (G : Gt) (p4 p1 p3 : V) (m : M) : R :=
  Qp G G.rds p4 p1 p3 m
def Qie (G : Gt) (p1 p3 : V) (m : M) : R :=
  Qgk G (.int .i64 0) p1 p3 m
def Qif (G : Gt) (p1 : V) (m : M) : R :=
  Qie G p1 (.slice none 0 0) m
def Qal (G : Gt) (p0 : V) (m : M) : R :=
  bp (some (aNew Ql (Value.cells p0).toList m)) fun x87 m =>
  Qif G x87 m
theorem Q13d (G : Gt) (a0 : V) (m : M) : evFn Tryz.prog G.tab G.rds (drOf Tryz.prog G.tab) Tryz.f27 [a0] m = Qal G a0 m :=
  evFn_of (r := fun ρ m => Qal G (ρ 0) m) rfl rfl (tr (seqQ (f := fun ρ m => Qif G (ρ 1) m) (tr (seqQ (f := fun ρ m => Qie G (ρ 1) (ρ 3) m) (tr (tr (seqQ (f := fun ρ m => Qid G (ρ 1) (ρ 3) m) (tr (tr (seqQ (f := fun ρ m => Qi7 G (ρ 3) m) (fun ρ m => by kernel_rfl)) (seqQ (f := fun ρ m => Qic G (ρ 8) (ρ 1) (ρ 3) m) (tr (blockQ (loopQ (fun i ρ m => Qt G i (ρ 8) (ρ 1) (ρ 3) m) (fun _ _ => rfl) (fun i0 => tr (seqQ (f := fun ρ m => Qib G (Qt G i0) (ρ 1) (ρ 8) (ρ 3) m) (tr (tr (seqQ (f := fun ρ m => Qi8 G (Qt G i0) (ρ 8) (ρ 1) (ρ 3) m) (fun ρ m => by kernel_rfl)) (blockQ (seqQ (f := fun ρ m => Qia G (Qt G i0) (ρ 3) (ρ 9) (ρ 8) (ρ 1) m) (tr (seqQ (f := fun ρ m => Qi9 G (Qt G i0) (ρ 9) (ρ 3) (ρ 8) (ρ 1) m) (tr (seqQ (f := fun ρ m => Qge G (Qt G i0) (ρ 10) (ρ 9) (ρ 3) (ρ 8) (ρ 1) m) (tr (blockQ (loopQ (fun i ρ m => Q7n G (Qt G i0) i (ρ 10) (ρ 9) (ρ 3) (ρ 8) (ρ 1) m) (fun _ _ => rfl) (fun i1 => fun ρ m => by kernel_rfl))) (fun ρ m => by kernel_rfl))) (fun ρ m => by kernel_rfl))) (fun ρ m => by kernel_rfl))))) (fun ρ m => by kernel_rfl))) (fun ρ m => by kernel_rfl)))) (fun ρ m => by kernel_rfl)))) (fun ρ m => by kernel_rfl))) (seqQ (f := fun ρ m => Qgk G (ρ 4) (ρ 1) (ρ 3) m) (tr (blockQ (loopQ (fun i ρ m => Qp G i (ρ 4) (ρ 1) (ρ 3) m) (fun _ _ => rfl) (fun i0 => tr (seqQ (f := fun ρ m => Qgj G (Qp G i0) (ρ 1) (ρ 4) (ρ 3) m) (tr (tr (seqQ (f := fun ρ m => Qgf G (Qp G i0) (ρ 4) (ρ 1) (ρ 3) m) (fun ρ m => by kernel_rfl)) (blockQ (seqQ (f := fun ρ m => Qgi G (Qp G i0) (ρ 3) (ρ 5) (ρ 4) (ρ 1) m) (tr (seqQ (f := fun ρ m => Qgh G (Qp G i0) (ρ 5) (ρ 3) (ρ 4) (ρ 1) m) (tr (seqQ (f := fun ρ m => Qgg G (Qp G i0) (ρ 6) (ρ 5) (ρ 3) (ρ 4) (ρ 1) m) (tr (blockQ (loopQ (fun i ρ m => Q7o G (Qp G i0) i (ρ 6) (ρ 5) (ρ 3) (ρ 4) (ρ 1) m) (fun _ _ => rfl) (fun i1 => fun ρ m => by kernel_rfl))) (fun ρ m => by kernel_rfl))) (fun ρ m => by kernel_rfl))) (fun ρ m => by kernel_rfl))))) (fun ρ m => by kernel_rfl))) (fun ρ m => by kernel_rfl)))) (fun ρ m => by kernel_rfl)))) (fun ρ m => by kernel_rfl))) (fun ρ m => by kernel_rfl))) (fun ρ m => by kernel_rfl)) m
def Q13e : Entry Tryz.prog := ⟨Qkd, Tryz.f27, Tryz.func27, by kernel_rfl, arg1 (fun G a0 m => Qal G a0 m), okarg1 Q13d⟩
def Qdb (G : Gt) (p3 : V) (m : M) : R :=
  bp (conv .str p3 m) fun x0 m =>
  some (x0, m)
def Qdc (G : Gt) (k0 : V → V → V → M → R) (p4 p1 p3 : V) (m : M) : R :=
  bp (pur (bin .add true true .int p4 (.int .i64 1)) m) fun x1 m =>
  k0 x1 p1 p3 m
def Q61 (G : Gt) (k0 : V → V → V → M → R) : Nat → V → V → V → V → V → M → R
 | 0, _, _, _, _, _, _ => none
 | i + 1, p6, p5, p3, p4, p1, m =>
  bp (pur (aFieldAddr 1 p5) m) fun x2 m =>
  bp (pur (aLoad false 1 x2 m) m) fun x3 m =>
  bp (pur (lenK 1 x3 m) m) fun x4 m =>
  bp (pur (bin .lss false true .int p6 x4) m) fun x5 m =>
  brb x5
  (bp (pur (aFieldAddr 1 p5) m) fun x6 m =>
  bp (pur (aLoad false 1 x6 m) m) fun x7 m =>
  bp (pur (aIndexAddrSl 15 x7 p6) m) fun x8 m =>
  bp (pur (aLoad true 15 x8 m) m) fun x9 m =>
  bp (some (aNew Qai Qe9 m)) fun x10 m =>
  bp (unt (aStore 15 x10 x9 m)) fun _ m =>
  bp (pur (aFieldAddr 0 x10) m) fun x11 m =>
  bp (pur (aLoad false 1 x11 m) m) fun x12 m =>
  bp (pur (aFieldAddr 1 x10) m) fun x13 m =>
  bp (pur (aLoad false 1 x13 m) m) fun x14 m =>
  bp (conv (.int .i64) x14 m) fun x15 m =>
  bp (pur (aFieldAddr 4 x10) m) fun x16 m =>
  bp (pur (aLoad false 1 x16 m) m) fun x17 m =>
  bp (pur (aFieldAddr 5 x10) m) fun x18 m =>
  bp (pur (aLoad false 1 x18 m) m) fun x19 m =>
  bp (pur (aFieldAddr 6 x10) m) fun x20 m =>
  bp (pur (aLoad false 1 x20 m) m) fun x21 m =>
  bp (pur (aFieldAddr 7 x10) m) fun x22 m =>
  bp (pur (aLoad false 1 x22 m) m) fun x23 m =>
  bp (pur (aFieldAddr 8 x10) m) fun x24 m =>
  bp (pur (aLoad false 1 x24 m) m) fun x25 m =>
  bp (pur (aFieldAddr 9 x10) m) fun x26 m =>
  bp (pur (aLoad false 1 x26 m) m) fun x27 m =>
  bp (pur (aFieldAddr 11 x10) m) fun x28 m =>
  bp (pur (aLoad false 1 x28 m) m) fun x29 m =>
  bp (pur (aFieldAddr 13 x10) m) fun x30 m =>
  bp (pur (aLoad false 1 x30 m) m) fun x31 m =>
  bp (conv (.int .i64) x31 m) fun x32 m =>
  bp (pur (aFieldAddr 14 x10) m) fun x33 m =>
  bp (pur (aLoad false 1 x33 m) m) fun x34 m =>
  bp (G.tab Q11 [x29] m) fun x35 m =>
  ckB (again (pur (aLoad false 1 x11 m) m) x12 && (again (pur (aLoad false 1 x13 m) m) x14 && (again (pur (aLoad false 1 x16 m) m) x17 && (again (pur (aLoad false 1 x18 m) m) x19 && (again (pur (aLoad false 1 x20 m) m) x21 && (again (pur (aLoad false 1 x22 m) m) x23 && (again (pur (aLoad false 1 x24 m) m) x25 && (again (pur (aLoad false 1 x26 m) m) x27 && (again (pur (aLoad false 1 x30 m) m) x31 && (again (pur (aLoad false 1 x33 m) m) x34 && true))))))))))
  (bp (aBuildSlice Q2h [(.int .i64 0)] 1 11 [(0, x12), (1, x15), (2, x17), (3, x19), (4, x21), (5, x23), (6, x25), (7, x27), (8, x35), (9, x32), (10, x34)] m) fun x36 m =>
  bp (pur (aFieldAddr 10 x10) m) fun x37 m =>
  bp (pur (aLoad false 1 x37 m) m) fun x38 m =>
  bp (G.tab Q7f [x38] m) fun x39 m =>
  bp (apS Q2h 1 8 x36 x39 m) fun x40 m =>
  bp (pur (aFieldAddr 12 x10) m) fun x41 m =>
  bp (pur (aLoad false 1 x41 m) m) fun x42 m =>
  bp (G.tab Q7f [x42] m) fun x43 m =>
  bp (apS Q2h 1 8 x40 x43 m) fun x44 m =>
  bp (pur (aFieldAddr 2 x10) m) fun x45 m =>
  bp (pur (aLoad false 1 x45 m) m) fun x46 m =>
  bp (pur (aFieldAddr 3 x10) m) fun x47 m =>
  bp (pur (aLoad false 1 x47 m) m) fun x48 m =>
  bp (aBuildSlice Q1 [(.string ⟨#[]⟩)] 1 2 [(0, x46), (1, x48)] m) fun x49 m =>
  bp (G.tab Qd [x44, x49] m) fun x50 m =>
  bp (aAppend Q6x 1 1 p3 x50 m) fun x51 m =>
  bp (pur (bin .add true true .int p6 (.int .i64 1)) m) fun x52 m =>
  (Q61 G k0 i) x52 p5 x51 p4 p1 m))
  (Qdc G k0 p4 p1 p3 m)
def Qdd (G : Gt) (k0 : V → V → V → M → R) (p6 p5 p3 p4 p1 : V) (m : M) : R :=
  Q61 G k0 G.rds p6 p5 p3 p4 p1 m
def Qde (G : Gt) (k0 : V → V → V → M → R) (p5 p3 p4 p1 : V) (m : M) : R :=
  Qdd G k0 (.int .i64 0) p5 p3 p4 p1 m
def Qdf (G : Gt) (k0 : V → V → V → M → R) (p3 p5 p4 p1 : V) (m : M) : R :=
  bp (pur (aFieldAddr 1 p5) m) fun x53 m =>
  bp (pur (aLoad false 1 x53 m) m) fun x54 m =>
  bp (pur (lenK 1 x54 m) m) fun x55 m =>
  bp (pur (aFieldAddr 2 p5) m) fun x56 m =>
  bp (pur (aLoad false 1 x56 m) m) fun x57 m =>
  bp (pur (aFieldAddr 0 p5) m) fun x58 m =>
  bp (pur (aLoad false 1 x58 m) m) fun x59 m =>
  bp (aBuildSlice Q1 [(.string ⟨#[]⟩)] 1 1 [(0, x59)] m) fun x60 m =>
  bp (G.tab Q11 [x57] m) fun x61 m =>
  ckB (again (pur (aLoad false 1 x53 m) m) x54 && (again (pur (aLoad false 1 x58 m) m) x59 && true))
  (bp (aBuildSlice Q2h [(.int .i64 0)] 1 2 [(0, x55), (1, x61)] m) fun x62 m =>
  bp (G.tab Qd [x62, x60] m) fun x63 m =>
  bp (aAppend Q6x 1 1 p3 x63 m) fun x64 m =>
  Qde G k0 p5 x64 p4 p1 m)
def Qdg (G : Gt) (k0 : V → V → V → M → R) (p1 p4 p3 : V) (m : M) : R :=
  bp (pur (aFieldAddr 9 p1) m) fun x65 m =>
  bp (pur (aLoad false 1 x65 m) m) fun x66 m =>
  bp (pur (aIndexAddrSl 3 x66 p4) m) fun x67 m =>
  bp (pur (aLoad true 3 x67 m) m) fun x68 m =>
  bp (some (aNew Q7l Qea m)) fun x69 m =>
  bp (unt (aStore 3 x69 x68 m)) fun _ m =>
  Qdf G k0 p3 x69 p4 p1 m
def Qo (G : Gt) : Nat → V → V → V → M → R
 | 0, _, _, _, _ => none
 | i + 1, p4, p1, p3, m =>
  bp (pur (aFieldAddr 9 p1) m) fun x70 m =>
  bp (pur (aLoad false 1 x70 m) m) fun x71 m =>
  bp (pur (lenK 1 x71 m) m) fun x72 m =>
  bp (pur (bin .lss false true .int p4 x72) m) fun x73 m =>
  brb x73
  (Qdg G (Qo G i) p1 p4 p3 m)
  (Qdb G p3 m)
def Qdh (G : Gt) (p4 p1 p3 : V) (m : M) : R :=
  Qo G G.rds p4 p1 p3 m
def Qdi (G : Gt) (p1 p3 : V) (m : M) : R :=
  Qdh G (.int .i64 0) p1 p3 m
def Qdj (G : Gt) (p1 : V) (m : M) : R :=
  Qdi G p1 (.slice none 0 0) m
def Q7p (G : Gt) (p0 : V) (m : M) : R :=
  bp (some (aNew Ql (Value.cells p0).toList m)) fun x74 m =>
  Qdj G x74 m
theorem Qyh (G : Gt) (a0 : V) (m : M) : evFn Tryz.prog G.tab G.rds (drOf Tryz.prog G.tab) Tryz.f28 [a0] m = Q7p G a0 m :=
  evFn_of (r := fun ρ m => Q7p G (ρ 0) m) rfl rfl (tr (seqQ (f := fun ρ m => Qdj G (ρ 1) m) (tr (seqQ (f := fun ρ m => Qdi G (ρ 1) (ρ 3) m) (tr (tr (seqQ (f := fun ρ m => Qdb G (ρ 3) m) (fun ρ m => by kernel_rfl)) (seqQ (f := fun ρ m => Qdh G (ρ 4) (ρ 1) (ρ 3) m) (tr (blockQ (loopQ (fun i ρ m => Qo G i (ρ 4) (ρ 1) (ρ 3) m) (fun _ _ => rfl) (fun i0 => tr (seqQ (f := fun ρ m => Qdg G (Qo G i0) (ρ 1) (ρ 4) (ρ 3) m) (tr (tr (seqQ (f := fun ρ m => Qdc G (Qo G i0) (ρ 4) (ρ 1) (ρ 3) m) (fun ρ m => by kernel_rfl)) (blockQ (seqQ (f := fun ρ m => Qdf G (Qo G i0) (ρ 3) (ρ 5) (ρ 4) (ρ 1) m) (tr (seqQ (f := fun ρ m => Qde G (Qo G i0) (ρ 5) (ρ 3) (ρ 4) (ρ 1) m) (tr (seqQ (f := fun ρ m => Qdd G (Qo G i0) (ρ 6) (ρ 5) (ρ 3) (ρ 4) (ρ 1) m) (tr (blockQ (loopQ (fun i ρ m => Q61 G (Qo G i0) i (ρ 6) (ρ 5) (ρ 3) (ρ 4) (ρ 1) m) (fun _ _ => rfl) (fun i1 => fun ρ m => by kernel_rfl))) (fun ρ m => by kernel_rfl))) (fun ρ m => by kernel_rfl))) (fun ρ m => by kernel_rfl))))) (fun ρ m => by kernel_rfl))) (fun ρ m => by kernel_rfl)))) (fun ρ m => by kernel_rfl)))) (fun ρ m => by kernel_rfl))) (fun ρ m => by kernel_rfl))) (fun ρ m => by kernel_rfl)) m
def Qyi : Entry Tryz.prog := ⟨Qg1, Tryz.f28, Tryz.func28, by kernel_rfl, arg1 (fun G a0 m => Q7p G a0 m), okarg1 Qyh⟩
def Qjq (G : Gt) (p3 : V) (m : M) : R :=
  some (p3, m)
def Q96 (G : Gt) : Nat → V → V → V → M → R
 | 0, _, _, _, _ => none
 | i + 1, p4, p1, p3, m =>
  bp (pur (aFieldAddr 10 p1) m) fun x0 m =>
  bp (pur (aLoad false 1 x0 m) m) fun x1 m =>
  bp (pur (lenK 1 x1 m) m) fun x2 m =>
  bp (pur (bin .lss false true .int p4 x2) m) fun x3 m =>
  brb x3
  (bp (pur (aFieldAddr 10 p1) m) fun x4 m =>
  bp (pur (aLoad false 1 x4 m) m) fun x5 m =>
  bp (pur (aIndexAddrSl 3 x5 p4) m) fun x6 m =>
  bp (pur (aFieldAddr 1 x6) m) fun x7 m =>
  bp (pur (aLoad false 1 x7 m) m) fun x8 m =>
  bp (conv (.int .i64) x8 m) fun x9 m =>
  bp (aBuildSlice Q2h [(.int .i64 0)] 1 1 [(0, x9)] m) fun x10 m =>
  bp (pur (aFieldAddr 10 p1) m) fun x11 m =>
  bp (pur (aLoad false 1 x11 m) m) fun x12 m =>
  bp (pur (aIndexAddrSl 3 x12 p4) m) fun x13 m =>
  bp (pur (aFieldAddr 0 x13) m) fun x14 m =>
  bp (pur (aLoad false 1 x14 m) m) fun x15 m =>
  bp (aBuildSlice Q1 [(.string ⟨#[]⟩)] 1 1 [(0, x15)] m) fun x16 m =>
  bp (pur (aFieldAddr 10 p1) m) fun x17 m =>
  bp (pur (aLoad false 1 x17 m) m) fun x18 m =>
  bp (pur (aIndexAddrSl 3 x18 p4) m) fun x19 m =>
  bp (pur (aFieldAddr 2 x19) m) fun x20 m =>
  bp (pur (aLoad false 1 x20 m) m) fun x21 m =>
  bp (G.tab Qd [x10, x16] m) fun x22 m =>
  ckB (again (pur (aLoad false 1 x17 m) m) x18 && (again (pur (aLoad false 1 x20 m) m) x21 && true))
  (bp (pur (bin .add false true .str p3 x22) m) fun x23 m =>
  bp (G.tab Q8g [x21] m) fun x24 m =>
  bp (pur (bin .add false true .str x23 x24) m) fun x25 m =>
  bp (pur (bin .add true true .int p4 (.int .i64 1)) m) fun x26 m =>
  (Q96 G i) x26 p1 x25 m))
  (Qjq G p3 m)
def Qjr (G : Gt) (p4 p1 p3 : V) (m : M) : R :=
  Q96 G G.rds p4 p1 p3 m
def Qjs (G : Gt) (p1 p3 : V) (m : M) : R :=
  Qjr G (.int .i64 0) p1 p3 m
def Qjt (G : Gt) (p1 : V) (m : M) : R :=
  Qjs G p1 (.string ⟨#[]⟩) m
def Qbm (G : Gt) (p0 : V) (m : M) : R :=
  bp (some (aNew Ql (Value.cells p0).toList m)) fun x27 m =>
  Qjt G x27 m
theorem Q14y (G : Gt) (a0 : V) (m : M) : evFn Tryz.prog G.tab G.rds (drOf Tryz.prog G.tab) Tryz.f29 [a0] m = Qbm G a0 m :=
  evFn_of (r := fun ρ m => Qbm G (ρ 0) m) rfl rfl (tr (seqQ (f := fun ρ m => Qjt G (ρ 1) m) (tr (seqQ (f := fun ρ m => Qjs G (ρ 1) (ρ 3) m) (tr (tr (seqQ (f := fun ρ m => Qjq G (ρ 3) m) (fun ρ m => by kernel_rfl)) (seqQ (f := fun ρ m => Qjr G (ρ 4) (ρ 1) (ρ 3) m) (tr (blockQ (loopQ (fun i ρ m => Q96 G i (ρ 4) (ρ 1) (ρ 3) m) (fun _ _ => rfl) (fun i0 => fun ρ m => by kernel_rfl))) (fun ρ m => by kernel_rfl)))) (fun ρ m => by kernel_rfl))) (fun ρ m => by kernel_rfl))) (fun ρ m => by kernel_rfl)) m
def Q14z : Entry Tryz.prog := ⟨Qmp, Tryz.f29, Tryz.func29, by kernel_rfl, arg1 (fun G a0 m => Qbm G a0 m), okarg1 Q14y⟩
end
end Go.Ab.Sh

set_option linter.unusedVariables false
set_option maxRecDepth 100000
namespace Go.Ab.Sh
open Go Go.Ab Go.Proofs
noncomputable section
def Qks (G : Gt) (p3 : V) (m : M) : R :=
  some (p3, m)
def Qkt (G : Gt) (k0 : V → V → V → M → R) (p4 p1 p3 : V) (m : M) : R :=
  bp (pur (bin .add true true .int p4 (.int .i64 1)) m) fun x0 m =>
  k0 x0 p1 p3 m
def Q97 (G : Gt) (k0 : V → V → V → M → R) : Nat → V → V → V → V → V → M → R
 | 0, _, _, _, _, _, _ => none
 | i + 1, p7, p5, p3, p4, p1, m =>
  bp (pur (aFieldAddr 4 p5) m) fun x1 m =>
  bp (pur (aLoad false 1 x1 m) m) fun x2 m =>
  bp (pur (lenK 1 x2 m) m) fun x3 m =>
  bp (pur (bin .lss false true .int p7 x3) m) fun x4 m =>
  brb x4
  (bp (pur (aFieldAddr 4 p5) m) fun x5 m =>
  bp (pur (aLoad false 1 x5 m) m) fun x6 m =>
  bp (pur (aIndexAddrSl 6 x6 p7) m) fun x7 m =>
  bp (pur (aLoad true 6 x7 m) m) fun x8 m =>
  bp (some (aNew Qt6 Qta m)) fun x9 m =>
  bp (unt (aStore 6 x9 x8 m)) fun _ m =>
  bp (pur (aFieldAddr 0 x9) m) fun x10 m =>
  bp (pur (aLoad false 1 x10 m) m) fun x11 m =>
  bp (conv (.int .i64) x11 m) fun x12 m =>
  bp (pur (aFieldAddr 1 x9) m) fun x13 m =>
  bp (pur (aLoad false 1 x13 m) m) fun x14 m =>
  bp (conv (.int .i64) x14 m) fun x15 m =>
  bp (pur (aFieldAddr 4 x9) m) fun x16 m =>
  bp (pur (aLoad false 1 x16 m) m) fun x17 m =>
  bp (pur (aFieldAddr 5 x9) m) fun x18 m =>
  bp (pur (aLoad false 1 x18 m) m) fun x19 m =>
  bp (pur (aFieldAddr 2 x9) m) fun x20 m =>
  bp (pur (aLoad false 1 x20 m) m) fun x21 m =>
  bp (pur (aFieldAddr 3 x9) m) fun x22 m =>
  bp (pur (aLoad false 1 x22 m) m) fun x23 m =>
  bp (aBuildSlice Q1 [(.string ⟨#[]⟩)] 1 2 [(0, x21), (1, x23)] m) fun x24 m =>
  bp (G.tab Q11 [x17] m) fun x25 m =>
  ckB (again (pur (aLoad false 1 x10 m) m) x11 && (again (pur (aLoad false 1 x13 m) m) x14 && (again (pur (aLoad false 1 x18 m) m) x19 && (again (pur (aLoad false 1 x20 m) m) x21 && (again (pur (aLoad false 1 x22 m) m) x23 && true)))))
  (bp (G.tab Q11 [x19] m) fun x26 m =>
  ckB (again (pur (aLoad false 1 x10 m) m) x11 && (again (pur (aLoad false 1 x13 m) m) x14 && (again (pur (aLoad false 1 x20 m) m) x21 && (again (pur (aLoad false 1 x22 m) m) x23 && true))))
  (bp (aBuildSlice Q2h [(.int .i64 0)] 1 4 [(0, x12), (1, x15), (2, x25), (3, x26)] m) fun x27 m =>
  bp (G.tab Qd [x27, x24] m) fun x28 m =>
  bp (pur (bin .add false true .str p3 x28) m) fun x29 m =>
  bp (pur (bin .add true true .int p7 (.int .i64 1)) m) fun x30 m =>
  (Q97 G k0 i) x30 p5 x29 p4 p1 m)))
  (Qkt G k0 p4 p1 p3 m)
def Qju (G : Gt) (k0 : V → V → V → M → R) (p7 p5 p3 p4 p1 : V) (m : M) : R :=
  Q97 G k0 G.rds p7 p5 p3 p4 p1 m
def Qku (G : Gt) (k0 : V → V → V → M → R) (p5 p3 p4 p1 : V) (m : M) : R :=
  Qju G k0 (.int .i64 0) p5 p3 p4 p1 m
def Q98 (G : Gt) (k0 : V → V → V → M → R) : Nat → V → V → V → V → V → M → R
 | 0, _, _, _, _, _, _ => none
 | i + 1, p6, p5, p3, p4, p1, m =>
  bp (pur (aFieldAddr 3 p5) m) fun x31 m =>
  bp (pur (aLoad false 1 x31 m) m) fun x32 m =>
  bp (pur (lenK 1 x32 m) m) fun x33 m =>
  bp (pur (bin .lss false true .int p6 x33) m) fun x34 m =>
  brb x34
  (bp (pur (aFieldAddr 3 p5) m) fun x35 m =>
  bp (pur (aLoad false 1 x35 m) m) fun x36 m =>
  bp (pur (aIndexAddrSl 2 x36 p6) m) fun x37 m =>
  bp (pur (aFieldAddr 0 x37) m) fun x38 m =>
  bp (pur (aLoad false 1 x38 m) m) fun x39 m =>
  bp (conv (.int .i64) x39 m) fun x40 m =>
  bp (pur (aFieldAddr 3 p5) m) fun x41 m =>
  bp (pur (aLoad false 1 x41 m) m) fun x42 m =>
  bp (pur (aIndexAddrSl 2 x42 p6) m) fun x43 m =>
  bp (pur (aFieldAddr 1 x43) m) fun x44 m =>
  bp (pur (aLoad false 1 x44 m) m) fun x45 m =>
  bp (aBuildSlice Q2h [(.int .i64 0)] 1 2 [(0, x40), (1, x45)] m) fun x46 m =>
  bp (G.tab Qd [x46, (.slice none 0 0)] m) fun x47 m =>
  bp (pur (bin .add false true .str p3 x47) m) fun x48 m =>
  bp (pur (bin .add true true .int p6 (.int .i64 1)) m) fun x49 m =>
  (Q98 G k0 i) x49 p5 x48 p4 p1 m)
  (Qku G k0 p5 p3 p4 p1 m)
def Qjv (G : Gt) (k0 : V → V → V → M → R) (p6 p5 p3 p4 p1 : V) (m : M) : R :=
  Q98 G k0 G.rds p6 p5 p3 p4 p1 m
def Qkv (G : Gt) (k0 : V → V → V → M → R) (p5 p3 p4 p1 : V) (m : M) : R :=
  Qjv G k0 (.int .i64 0) p5 p3 p4 p1 m
def Qkw (G : Gt) (k0 : V → V → V → M → R) (p3 p5 p4 p1 : V) (m : M) : R :=
  bp (pur (aFieldAddr 1 p5) m) fun x50 m =>
  bp (pur (aLoad false 1 x50 m) m) fun x51 m =>
  bp (conv (.int .i64) x51 m) fun x52 m =>
  bp (pur (aFieldAddr 2 p5) m) fun x53 m =>
  bp (pur (aLoad false 1 x53 m) m) fun x54 m =>
  bp (conv (.int .i64) x54 m) fun x55 m =>
  bp (pur (aFieldAddr 3 p5) m) fun x56 m =>
  bp (pur (aLoad false 1 x56 m) m) fun x57 m =>
  bp (pur (lenK 1 x57 m) m) fun x58 m =>
  bp (pur (aFieldAddr 4 p5) m) fun x59 m =>
  bp (pur (aLoad false 1 x59 m) m) fun x60 m =>
  bp (pur (lenK 1 x60 m) m) fun x61 m =>
  bp (aBuildSlice Q2h [(.int .i64 0)] 1 4 [(0, x52), (1, x55), (2, x58), (3, x61)] m) fun x62 m =>
  bp (pur (aFieldAddr 0 p5) m) fun x63 m =>
  bp (pur (aLoad false 1 x63 m) m) fun x64 m =>
  bp (aBuildSlice Q1 [(.string ⟨#[]⟩)] 1 1 [(0, x64)] m) fun x65 m =>
  bp (pur (aFieldAddr 5 p5) m) fun x66 m =>
  bp (pur (aLoad false 1 x66 m) m) fun x67 m =>
  bp (G.tab Qd [x62, x65] m) fun x68 m =>
  ckB (again (pur (aLoad false 1 x66 m) m) x67 && true)
  (bp (pur (bin .add false true .str p3 x68) m) fun x69 m =>
  bp (G.tab Q8g [x67] m) fun x70 m =>
  bp (pur (bin .add false true .str x69 x70) m) fun x71 m =>
  Qkv G k0 p5 x71 p4 p1 m)
def Qkx (G : Gt) (k0 : V → V → V → M → R) (p1 p4 p3 : V) (m : M) : R :=
  bp (pur (aFieldAddr 11 p1) m) fun x72 m =>
  bp (pur (aLoad false 1 x72 m) m) fun x73 m =>
  bp (pur (aIndexAddrSl 6 x73 p4) m) fun x74 m =>
  bp (pur (aLoad true 6 x74 m) m) fun x75 m =>
  bp (some (aNew Qgd Qrp m)) fun x76 m =>
  bp (unt (aStore 6 x76 x75 m)) fun _ m =>
  Qkw G k0 p3 x76 p4 p1 m
def Qm (G : Gt) : Nat → V → V → V → M → R
 | 0, _, _, _, _ => none
 | i + 1, p4, p1, p3, m =>
  bp (pur (aFieldAddr 11 p1) m) fun x77 m =>
  bp (pur (aLoad false 1 x77 m) m) fun x78 m =>
  bp (pur (lenK 1 x78 m) m) fun x79 m =>
  bp (pur (bin .lss false true .int p4 x79) m) fun x80 m =>
  brb x80
  (Qkx G (Qm G i) p1 p4 p3 m)
  (Qks G p3 m)
def Qky (G : Gt) (p4 p1 p3 : V) (m : M) : R :=
  Qm G G.rds p4 p1 p3 m
def Qkz (G : Gt) (p1 p3 : V) (m : M) : R :=
  Qky G (.int .i64 0) p1 p3 m
def Ql0 (G : Gt) (p1 : V) (m : M) : R :=
  Qkz G p1 (.string ⟨#[]⟩) m
def Qcn (G : Gt) (p0 : V) (m : M) : R :=
  bp (some (aNew Ql (Value.cells p0).toList m)) fun x81 m =>
  Ql0 G x81 m
theorem Q187 (G : Gt) (a0 : V) (m : M) : evFn Tryz.prog G.tab G.rds (drOf Tryz.prog G.tab) Tryz.f30 [a0] m = Qcn G a0 m :=
  evFn_of (r := fun ρ m => Qcn G (ρ 0) m) rfl rfl (tr (seqQ (f := fun ρ m => Ql0 G (ρ 1) m) (tr (seqQ (f := fun ρ m => Qkz G (ρ 1) (ρ 3) m) (tr (tr (seqQ (f := fun ρ m => Qks G (ρ 3) m) (fun ρ m => by kernel_rfl)) (seqQ (f := fun ρ m => Qky G (ρ 4) (ρ 1) (ρ 3) m) (tr (blockQ (loopQ (fun i ρ m => Qm G i (ρ 4) (ρ 1) (ρ 3) m) (fun _ _ => rfl) (fun i0 => tr (seqQ (f := fun ρ m => Qkx G (Qm G i0) (ρ 1) (ρ 4) (ρ 3) m) (tr (tr (seqQ (f := fun ρ m => Qkt G (Qm G i0) (ρ 4) (ρ 1) (ρ 3) m) (fun ρ m => by kernel_rfl)) (blockQ (seqQ (f := fun ρ m => Qkw G (Qm G i0) (ρ 3) (ρ 5) (ρ 4) (ρ 1) m) (tr (seqQ (f := fun ρ m => Qkv G (Qm G i0) (ρ 5) (ρ 3) (ρ 4) (ρ 1) m) (tr (tr (seqQ (f := fun ρ m => Qku G (Qm G i0) (ρ 5) (ρ 3) (ρ 4) (ρ 1) m) (tr (seqQ (f := fun ρ m => Qju G (Qm G i0) (ρ 7) (ρ 5) (ρ 3) (ρ 4) (ρ 1) m) (tr (blockQ (loopQ (fun i ρ m => Q97 G (Qm G i0) i (ρ 7) (ρ 5) (ρ 3) (ρ 4) (ρ 1) m) (fun _ _ => rfl) (fun i1 => fun ρ m => by kernel_rfl))) (fun ρ m => by kernel_rfl))) (fun ρ m => by kernel_rfl))) (seqQ (f := fun ρ m => Qjv G (Qm G i0) (ρ 6) (ρ 5) (ρ 3) (ρ 4) (ρ 1) m) (tr (blockQ (loopQ (fun i ρ m => Q98 G (Qm G i0) i (ρ 6) (ρ 5) (ρ 3) (ρ 4) (ρ 1) m) (fun _ _ => rfl) (fun i1 => fun ρ m => by kernel_rfl))) (fun ρ m => by kernel_rfl)))) (fun ρ m => by kernel_rfl))) (fun ρ m => by kernel_rfl))))) (fun ρ m => by kernel_rfl))) (fun ρ m => by kernel_rfl)))) (fun ρ m => by kernel_rfl)))) (fun ρ m => by kernel_rfl))) (fun ρ m => by kernel_rfl))) (fun ρ m => by kernel_rfl)) m
def Q188 : Entry Tryz.prog := ⟨Qov, Tryz.f30, Tryz.func30, by kernel_rfl, arg1 (fun G a0 m => Qcn G a0 m), okarg1 Q187⟩
def Q1a0 (G : Gt) (p7 p3 : V) (m : M) : R :=
  bp (pur (aBuild Q5 [(0, 1), (1, 1)] []) m) fun x0 m =>
  bp (unt (aStore 2 p3 x0 m)) fun _ m =>
  ob (ob (ob (aLoad true 2 p3 m) fun v => ob (some [(.int .i64 0)]) fun l => some (v :: l)) fun l => some (p7 :: l)) fun l => some (resVal l, m)
def Qml (G : Gt) : Nat → V → V → V → M → R
 | 0, _, _, _, _ => none
 | i + 1, p8, p3, p7, m =>
  bp (pur (aNilCheck p8) m) fun x1 m =>
  bp (pur (aFieldAddr 0 x1) m) fun x2 m =>
  bp (pur (aLoad false 1 x2 m) m) fun x3 m =>
  bp (pur (bin .neq true true .str x3 (.string ⟨#[]⟩)) m) fun x4 m =>
  brb x4
  (bp (G.tab Qvt [p8] m) fun x5 m =>
  bp (pur (aExtract x5 0) m) fun x6 m =>
  bp (pur (aExtract x5 1) m) fun x7 m =>
  bp (pur (aExtract x5 2) m) fun x8 m =>
  bp (some (aNew Q7d Q7c m)) fun x9 m =>
  bp (unt (aStore 4 x9 x6 m)) fun _ m =>
  bp (pur (bin .neq true true .int x8 (.int .i64 0)) m) fun x10 m =>
  brb x10
  (bp (pur (aFieldAddr 2 x9) m) fun x11 m =>
  bp (pur (aLoad true 2 x11 m) m) fun x12 m =>
  bp (unt (aStore 2 p3 x12 m)) fun _ m =>
  ob (ob (ob (aLoad true 2 p3 m) fun v => ob (some [x8]) fun l => some (v :: l)) fun l => some ((.slice none 0 0) :: l)) fun l => some (resVal l, m))
  (brb x7
  (bp (pur (aLoad true 4 x9 m) m) fun x13 m =>
  bp (aBuildSlice Q7d Q7c 4 1 [(0, x13)] m) fun x14 m =>
  bp (apS Q7d 4 40 p7 x14 m) fun x15 m =>
  (Qml G i) p8 p3 x15 m)
  ((Qml G i) p8 p3 p7 m)))
  (Q1a0 G p7 p3 m)
def Q1a1 (G : Gt) (p8 p3 p7 : V) (m : M) : R :=
  Qml G G.rds p8 p3 p7 m
def Q1a2 (G : Gt) (p0 p3 p7 : V) (m : M) : R :=
  bp (pur (aBuild Q5 [(0, 1), (1, 1)] [(0, (.int .i64 1)), (1, (.int .i64 1))]) m) fun x16 m =>
  bp (pur (aBuild Q1mw [(0, 1), (1, 2)] [(0, p0), (1, x16)]) m) fun x17 m =>
  bp (some (aNew Q1mo (Value.cells x17).toList m)) fun x18 m =>
  Q1a1 G x18 p3 p7 m
def Q1a3 (G : Gt) (p0 p3 : V) (m : M) : R :=
  Q1a2 G p0 p3 (.slice none 0 0) m
def Q1a4 (G : Gt) (p0 p3 : V) (m : M) : R :=
  bp (G.tab Qou [p0] m) fun x19 m =>
  bp (pur (aExtract x19 0) m) fun x20 m =>
  bp (pur (aExtract x19 1) m) fun x21 m =>
  bp (some (aNew Q9 Q5 m)) fun x22 m =>
  bp (unt (aStore 2 x22 x20 m)) fun _ m =>
  bp (pur (bin .neq true true .int x21 (.int .i64 0)) m) fun x23 m =>
  brb x23
  (bp (pur (aLoad true 2 x22 m) m) fun x24 m =>
  bp (unt (aStore 2 p3 x24 m)) fun _ m =>
  ob (ob (ob (aLoad true 2 p3 m) fun v => ob (some [x21]) fun l => some (v :: l)) fun l => some ((.slice none 0 0) :: l)) fun l => some (resVal l, m))
  (Q1a3 G p0 p3 m)
def Q13f (G : Gt) (p0 : V) (m : M) : R :=
  bp (some (aNew Q9 Q5 m)) fun x25 m =>
  Q1a4 G p0 x25 m
theorem Q1mz (G : Gt) (a0 : V) (m : M) : evFn Tryz.prog G.tab G.rds (drOf Tryz.prog G.tab) Tryz.f31 [a0] m = Q13f G a0 m :=
  evFn_of (r := fun ρ m => Q13f G (ρ 0) m) rfl rfl (tr (seqQ (f := fun ρ m => Q1a4 G (ρ 0) (ρ 3) m) (tr (seqQ (f := fun ρ m => Q1a3 G (ρ 0) (ρ 3) m) (tr (seqQ (f := fun ρ m => Q1a2 G (ρ 0) (ρ 3) (ρ 7) m) (tr (seqQ (f := fun ρ m => Q1a1 G (ρ 8) (ρ 3) (ρ 7) m) (tr (tr (seqQ (f := fun ρ m => Q1a0 G (ρ 7) (ρ 3) m) (fun ρ m => by kernel_rfl)) (blockQ (loopQ (fun i ρ m => Qml G i (ρ 8) (ρ 3) (ρ 7) m) (fun _ _ => rfl) (fun i0 => fun ρ m => by kernel_rfl)))) (fun ρ m => by kernel_rfl))) (fun ρ m => by kernel_rfl))) (fun ρ m => by kernel_rfl))) (fun ρ m => by kernel_rfl))) (fun ρ m => by kernel_rfl)) m
def Q1n0 : Entry Tryz.prog := ⟨Q12f, Tryz.f31, Tryz.func31, by kernel_rfl, arg1 (fun G a0 m => Q13f G a0 m), okarg1 Q1mz⟩
def Qs3 (G : Gt) (p7 : V) (m : M) : R :=
  some (p7, m)
def Qeg (G : Gt) (p7 : V) (m : M) : R :=
  some (p7, m)
def Qs4 (G : Gt) (k0 : V → V → V → V → M → R) (p24 p1 p0 p5 p7 p14 : V) (m : M) : R :=
  brb p24
  (bp (pur (bin .gtr true true .int p1 (.int .i64 0)) m) fun x0 m =>
  brb x0
  (bp (pur (aLoad true 2 p5 m) m) fun x1 m =>
  bp (G.tab Q2d [p0, (.int .i64 71), x1] m) fun x2 m =>
  Qeg G p7 m)
  (Qeg G p7 m))
  (bp (pur (bin .eql true true .int p14 (.int .u8 3)) m) fun x3 m =>
  brb x3
  (bp (pur (bin .gtr true true .int p1 (.int .i64 0)) m) fun x4 m =>
  brb x4
  (bp (G.tab Q3n [p0] m) fun x5 m =>
  some (p7, m))
  (bp (pur (aNilCheck p0) m) fun x6 m =>
  bp (pur (aFieldAddr 0 x6) m) fun x7 m =>
  bp (pur (aLoad false 1 x7 m) m) fun x8 m =>
  bp (pur (aIndexAddrSl 4 x8 (.int .i64 0)) m) fun x9 m =>
  bp (pur (aFieldAddr 2 x9) m) fun x10 m =>
  bp (pur (aLoad true 2 x10 m) m) fun x11 m =>
  bp (G.tab Q2d [p0, (.int .i64 130), x11] m) fun x12 m =>
  k0 p0 p1 p5 p7 m))
  (bp (pur (bin .eql true true .int p14 (.int .u8 1)) m) fun x13 m =>
  brb x13
  (bp (G.tab Qkh [p0, p1] m) fun x14 m =>
  bp (apS Q2 4 80 p7 x14 m) fun x15 m =>
  k0 p0 p1 p5 x15 m)
  (bp (pur (aNilCheck p0) m) fun x16 m =>
  bp (pur (aFieldAddr 0 x16) m) fun x17 m =>
  bp (pur (aLoad false 1 x17 m) m) fun x18 m =>
  bp (pur (aIndexAddrSl 4 x18 (.int .i64 0)) m) fun x19 m =>
  bp (pur (aFieldAddr 2 x19) m) fun x20 m =>
  bp (pur (aLoad true 2 x20 m) m) fun x21 m =>
  bp (G.tab Q2d [p0, (.int .i64 130), x21] m) fun x22 m =>
  k0 p0 p1 p5 p7 m)))
def Qs5 (G : Gt) (k0 : V → V → V → V → M → R) (p14 p1 p0 p5 p7 : V) (m : M) : R :=
  bp (pur (bin .eql true true .int p14 (.int .u8 0)) m) fun x23 m =>
  Qs4 G k0 x23 p1 p0 p5 p7 p14 m
def Qs6 (G : Gt) (k0 : V → V → V → V → M → R) (p0 p1 p5 p7 : V) (m : M) : R :=
  bp (G.tab Q1c [p0] m) fun x24 m =>
  Qs5 G k0 x24 p1 p0 p5 p7 m
def Q3j (G : Gt) : Nat → V → V → V → V → M → R
 | 0, _, _, _, _, _ => none
 | i + 1, p0, p1, p5, p7, m =>
  bp (pur (aNilCheck p0) m) fun x25 m =>
  bp (pur (aFieldAddr 1 x25) m) fun x26 m =>
  bp (pur (aLoad false 1 x26 m) m) fun x27 m =>
  bp (pur (bin .eql true true .int x27 (.int .i64 0)) m) fun x28 m =>
  brb x28
  (Qs6 G (Q3j G i) p0 p1 p5 p7 m)
  (Qs3 G p7 m)
def Qs7 (G : Gt) (p0 p1 p5 p7 : V) (m : M) : R :=
  Q3j G G.rds p0 p1 p5 p7 m
def Qs8 (G : Gt) (p0 p1 p5 : V) (m : M) : R :=
  Qs7 G p0 p1 p5 (.slice none 0 0) m
def Qiw (G : Gt) (p2 p0 p1 : V) (m : M) : R :=
  bp (some (aNew Q9 (Value.cells p2).toList m)) fun x29 m =>
  Qs8 G p0 p1 x29 m
theorem Q1el (G : Gt) (a0 a1 a2 : V) (m : M) : evFn Tryz.prog G.tab G.rds (drOf Tryz.prog G.tab) Tryz.f32 [a0, a1, a2] m = Qiw G a2 a0 a1 m :=
  evFn_of (r := fun ρ m => Qiw G (ρ 2) (ρ 0) (ρ 1) m) rfl rfl (tr (seqQ (f := fun ρ m => Qs8 G (ρ 0) (ρ 1) (ρ 5) m) (tr (seqQ (f := fun ρ m => Qs7 G (ρ 0) (ρ 1) (ρ 5) (ρ 7) m) (tr (tr (seqQ (f := fun ρ m => Qs3 G (ρ 7) m) (fun ρ m => by kernel_rfl)) (blockQ (loopQ (fun i ρ m => Q3j G i (ρ 0) (ρ 1) (ρ 5) (ρ 7) m) (fun _ _ => rfl) (fun i0 => tr (seqQ (f := fun ρ m => Qs6 G (Q3j G i0) (ρ 0) (ρ 1) (ρ 5) (ρ 7) m) (tr (blockQ (seqQ (f := fun ρ m => Qs5 G (Q3j G i0) (ρ 14) (ρ 1) (ρ 0) (ρ 5) (ρ 7) m) (tr (blockQ (seqQ (f := fun ρ m => Qs4 G (Q3j G i0) (ρ 24) (ρ 1) (ρ 0) (ρ 5) (ρ 7) (ρ 14) m) (tr (condQ (seqQ (f := fun ρ m => Qeg G (ρ 7) m) (fun ρ m => by kernel_rfl)) (refQ)) (fun ρ m => by kernel_rfl)))) (fun ρ m => by kernel_rfl)))) (fun ρ m => by kernel_rfl))) (fun ρ m => by kernel_rfl))))) (fun ρ m => by kernel_rfl))) (fun ρ m => by kernel_rfl))) (fun ρ m => by kernel_rfl)) m
def Q1em : Entry Tryz.prog := ⟨Qin, Tryz.f32, Tryz.func32, by kernel_rfl, arg3 (fun G a0 a1 a2 m => Qiw G a2 a0 a1 m), okarg3 Q1el⟩
def Q1a5 (G : Gt) (p3 : V) (m : M) : R :=
  some (p3, m)
def Qxg (G : Gt) : Nat → V → V → V → M → R
 | 0, _, _, _, _ => none
 | i + 1, p44, p43, p3, m =>
  bp (pur (bin .lss false true .int p44 p43) m) fun x0 m =>
  brb x0
  (bp (pur (aIndexAddrSl 4 p3 p44) m) fun x1 m =>
  bp (pur (aFieldAddr 3 x1) m) fun x2 m =>
  bp (pur (aLoad false 1 x2 m) m) fun x3 m =>
  bp (G.tab Qsu [x3] m) fun x4 m =>
  bp (pur (aIndexAddrSl 4 p3 p44) m) fun x5 m =>
  bp (pur (aFieldAddr 3 x5) m) fun x6 m =>
  bp (unt (aStore 1 x6 x4 m)) fun _ m =>
  bp (pur (bin .add true true .int p44 (.int .i64 1)) m) fun x7 m =>
  (Qxg G i) x7 p43 p3 m)
  (Q1a5 G p3 m)
def Q1a6 (G : Gt) (p44 p43 p3 : V) (m : M) : R :=
  Qxg G G.rds p44 p43 p3 m
def Q1a7 (G : Gt) (p3 : V) (m : M) : R :=
  bp (pur (lenK 1 p3 m) m) fun x8 m =>
  Q1a6 G (.int .i64 0) x8 p3 m
def Qjw (G : Gt) (k0 : V → V → V → V → M → R) (p10 p9 p8 p3 : V) (m : M) : R :=
  bp (pur (bin .add true true .int p10 (.int .i64 1)) m) fun x9 m =>
  k0 x9 p9 p8 p3 m
def Q1a8 (G : Gt) (k0 : V → V → V → V → M → R) (p8 p10 p3 p9 : V) (m : M) : R :=
  bp (pur (aIndexAddrSl 4 p8 p10) m) fun x10 m =>
  bp (pur (aLoad true 4 x10 m) m) fun x11 m =>
  bp (some (aNew Q2 Q4 m)) fun x12 m =>
  bp (unt (aStore 4 x12 x11 m)) fun _ m =>
  bp (G.tab Q2o [p3, (.func (.func Q199) ⟨[]⟩ ⟨[x12]⟩)] m) fun x13 m =>
  bp (pur (bin .lss true true .int x13 (.int .i64 0)) m) fun x14 m =>
  brb x14
  (bp (pur (aLoad true 4 x12 m) m) fun x15 m =>
  bp (G.tab Qp3 [x15] m) fun x16 m =>
  bp (aBuildSlice Q2 Q4 4 1 [(0, x16)] m) fun x17 m =>
  bp (apS Q2 4 80 p3 x17 m) fun x18 m =>
  Qjw G k0 p10 p9 p8 x18 m)
  (bp (pur (aFieldAddr 2 x12) m) fun x19 m =>
  bp (pur (aLoad false 1 x19 m) m) fun x20 m =>
  brb x20
  (bp (pur (aIndexAddrSl 4 p3 x13) m) fun x21 m =>
  bp (pur (aFieldAddr 3 x21) m) fun x22 m =>
  bp (pur (aLoad false 1 x22 m) m) fun x23 m =>
  bp (pur (aFieldAddr 3 x12) m) fun x24 m =>
  bp (pur (aLoad false 1 x24 m) m) fun x25 m =>
  bp (G.tab Q12r [x25] m) fun x26 m =>
  ckB (again (pur (aLoad false 1 x22 m) m) x23 && true)
  (bp (apS Q2 4 80 x23 x26 m) fun x27 m =>
  bp (pur (aIndexAddrSl 4 p3 x13) m) fun x28 m =>
  bp (pur (aFieldAddr 3 x28) m) fun x29 m =>
  bp (unt (aStore 1 x29 x27 m)) fun _ m =>
  Qjw G k0 p10 p9 p8 p3 m))
  (Qjw G k0 p10 p9 p8 p3 m))
def Q1a9 (G : Gt) (k0 : V → V → V → V → M → R) (p11 p8 p10 p3 p9 : V) (m : M) : R :=
  brb p11
  (Q1a8 G k0 p8 p10 p3 p9 m)
  (Q1a7 G p3 m)
def Qa9 (G : Gt) : Nat → V → V → V → V → M → R
 | 0, _, _, _, _, _ => none
 | i + 1, p10, p9, p8, p3, m =>
  bp (pur (bin .lss false true .int p10 p9) m) fun x30 m =>
  Q1a9 G (Qa9 G i) x30 p8 p10 p3 p9 m
def Q1aa (G : Gt) (p10 p9 p8 p3 : V) (m : M) : R :=
  Qa9 G G.rds p10 p9 p8 p3 m
def Q1ab (G : Gt) (p0 p3 : V) (m : M) : R :=
  bp (pur (lenK 1 p0 m) m) fun x31 m =>
  Q1aa G (.int .i64 0) x31 p0 p3 m
def Q1ac (G : Gt) (p0 : V) (m : M) : R :=
  Q1ab G p0 (.slice none 0 0) m
def Q13g (G : Gt) (p0 : V) (m : M) : R :=
  Q1ac G p0 m
theorem Q1n1 (G : Gt) (a0 : V) (m : M) : evFn Tryz.prog G.tab G.rds (drOf Tryz.prog G.tab) Tryz.f33 [a0] m = Q13g G a0 m :=
  evFn_of (r := fun ρ m => Q13g G (ρ 0) m) rfl rfl (tr (seqQ (f := fun ρ m => Q1ac G (ρ 0) m) (tr (seqQ (f := fun ρ m => Q1ab G (ρ 0) (ρ 3) m) (tr (tr (seqQ (f := fun ρ m => Q1a7 G (ρ 3) m) (tr (tr (seqQ (f := fun ρ m => Q1a5 G (ρ 3) m) (fun ρ m => by kernel_rfl)) (seqQ (f := fun ρ m => Q1a6 G (ρ 44) (ρ 43) (ρ 3) m) (tr (blockQ (loopQ (fun i ρ m => Qxg G i (ρ 44) (ρ 43) (ρ 3) m) (fun _ _ => rfl) (fun i0 => fun ρ m => by kernel_rfl))) (fun ρ m => by kernel_rfl)))) (fun ρ m => by kernel_rfl))) (seqQ (f := fun ρ m => Q1aa G (ρ 10) (ρ 9) (ρ 8) (ρ 3) m) (tr (blockQ (loopQ (fun i ρ m => Qa9 G i (ρ 10) (ρ 9) (ρ 8) (ρ 3) m) (fun _ _ => rfl) (fun i0 => tr (seqQ (f := fun ρ m => Q1a9 G (Qa9 G i0) (ρ 11) (ρ 8) (ρ 10) (ρ 3) (ρ 9) m) (tr (seqQ (f := fun ρ m => Q1a8 G (Qa9 G i0) (ρ 8) (ρ 10) (ρ 3) (ρ 9) m) (tr (seqQ (f := fun ρ m => Qjw G (Qa9 G i0) (ρ 10) (ρ 9) (ρ 8) (ρ 3) m) (fun ρ m => by kernel_rfl)) (fun ρ m => by kernel_rfl))) (fun ρ m => by kernel_rfl))) (fun ρ m => by kernel_rfl)))) (fun ρ m => by kernel_rfl)))) (fun ρ m => by kernel_rfl))) (fun ρ m => by kernel_rfl))) (fun ρ m => by kernel_rfl)) m
def Q1n2 : Entry Tryz.prog := ⟨Qsu, Tryz.f33, Tryz.func33, by kernel_rfl, arg1 (fun G a0 m => Q13g G a0 m), okarg1 Q1n1⟩
end
end Go.Ab.Sh
