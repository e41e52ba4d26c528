/-
  Functions of the program as plain definitions, each with the theorem that it is what the evaluator makes of the code. No conditions.
-/
import Derived.Test.YtbjgjnkihdddlaaGreatDoorAb4
import Derived.Test.YtbjgjnkihdddlaaGreatDoorZ
import Derived.KernelRfl
import Derived.Test.YtbjgjnkihdddlaaGreatDoorProg
set_option linter.unusedVariables false
set_option maxRecDepth 100000
namespace Go.Ab.Sh
open Go Go.Ab
noncomputable section
def Qlf (G : Gt) (p4 p5 : Value) (m : Mem) : Option Rs :=
  some (.tuple ⟨[p4, p5]⟩, m)
def Q5s (G : Gt) (k0 : Value → Value → Value → Value → Value → Value → Value → Mem → Option Rs) (p8 p16 p15 p14 p4 p5 p2 : Value) (m : Mem) : Option Rs :=
  bp (pur (aFieldAddr 0 p8) m) fun x0 m =>
  bp (pur (aLoad false 1 x0 m) m) fun x1 m =>
  bp (pur (bin .add true true .int p16 (.int .i64 1)) m) fun x2 m =>
  k0 x2 p15 p14 p4 x1 p5 p2 m
def Qj2 (G : Gt) (k0 : Value → Value → Value → Value → Value → Value → Value → Mem → Option Rs) (p5 p2 p8 p16 p15 p14 p4 : Value) (m : Mem) : Option Rs :=
  brb p5
    (bp (pur (aFieldAddr 2 p2) m) fun x3 m =>
  bp (pur (aLoad false 1 x3 m) m) fun x4 m =>
  bp (pur (aFieldAddr 2 p8) m) fun x5 m =>
  bp (pur (aLoad false 1 x5 m) m) fun x6 m =>
  bp (G.tab Q1e [x4, x6] m) fun x7 m =>
  brb x7
    (bp (pur (aFieldAddr 3 p2) m) fun x8 m =>
  bp (pur (aLoad false 1 x8 m) m) fun x9 m =>
  bp (pur (aFieldAddr 3 p8) m) fun x10 m =>
  bp (pur (aLoad false 1 x10 m) m) fun x11 m =>
  bp (G.tab Q1e [x9, x11] m) fun x12 m =>
  Q5s G k0 p8 p16 p15 p14 p4 x12 p2 m)
    (Q5s G k0 p8 p16 p15 p14 p4 (.bool false) p2 m))
    (Q5s G k0 p8 p16 p15 p14 p4 (.bool false) p2 m)
def Qp (G : Gt) (k0 : Value → Value → Value → Value → Value → Value → Value → Mem → Option Rs) (p4 p5 p2 p8 p16 p15 p14 : Value) (m : Mem) : Option Rs :=
  bp (pur (un .not p4) m) fun x13 m =>
  brb x13
    (some (.tuple ⟨[(.bool false), (.bool true)]⟩, m))
    (Qj2 G k0 p5 p2 p8 p16 p15 p14 p4 m)
def Qj3 (G : Gt) (k0 : Value → Value → Value → Value → Value → Value → Value → Mem → Option Rs) (p4 p8 p5 p2 p16 p15 p14 : Value) (m : Mem) : Option Rs :=
  brb p4
    (bp (pur (aFieldAddr 10 p8) m) fun x14 m =>
  bp (pur (aLoad false 1 x14 m) m) fun x15 m =>
  bp (pur (lenK 1 x15 m) m) fun x16 m =>
  bp (pur (bin .leq true true .int x16 (.int .i64 64)) m) fun x17 m =>
  brb x17
    (bp (pur (aFieldAddr 12 p8) m) fun x18 m =>
  bp (pur (aLoad false 1 x18 m) m) fun x19 m =>
  bp (pur (lenK 1 x19 m) m) fun x20 m =>
  bp (pur (bin .leq true true .int x20 (.int .i64 64)) m) fun x21 m =>
  brb x21
    (bp (pur (aFieldAddr 12 p8) m) fun x22 m =>
  bp (pur (aLoad false 1 x22 m) m) fun x23 m =>
  bp (G.tab Q7l [x23, (.int .u32 0)] m) fun x24 m =>
  bp (pur (un .not x24) m) fun x25 m =>
  brb x25
    (bp (pur (aFieldAddr 14 p8) m) fun x26 m =>
  bp (pur (aLoad false 1 x26 m) m) fun x27 m =>
  bp (pur (bin .eql true true .int x27 (.int .i64 0)) m) fun x28 m =>
  brb x28
    (bp (pur (aFieldAddr 11 p8) m) fun x29 m =>
  bp (pur (aLoad false 1 x29 m) m) fun x30 m =>
  bp (pur (un .not x30) m) fun x31 m =>
  brb x31
    (Qp G k0 (.bool true) p5 p2 p8 p16 p15 p14 m)
    (bp (pur (aFieldAddr 10 p8) m) fun x32 m =>
  bp (pur (aLoad false 1 x32 m) m) fun x33 m =>
  bp (pur (lenK 1 x33 m) m) fun x34 m =>
  bp (pur (bin .gtr true true .int x34 (.int .i64 0)) m) fun x35 m =>
  Qp G k0 x35 p5 p2 p8 p16 p15 p14 m))
    (bp (pur (aFieldAddr 14 p8) m) fun x36 m =>
  bp (pur (aLoad false 1 x36 m) m) fun x37 m =>
  bp (pur (aFieldAddr 0 p8) m) fun x38 m =>
  bp (pur (aLoad false 1 x38 m) m) fun x39 m =>
  bp (pur (bin .add true true .int x39 (.int .i64 1)) m) fun x40 m =>
  bp (G.tab Q1i [x37, x40, (.int .i64 65535)] m) fun x41 m =>
  brb x41
    (bp (pur (aFieldAddr 11 p8) m) fun x42 m =>
  bp (pur (aLoad false 1 x42 m) m) fun x43 m =>
  bp (pur (un .not x43) m) fun x44 m =>
  brb x44
    (Qp G k0 (.bool true) p5 p2 p8 p16 p15 p14 m)
    (bp (pur (aFieldAddr 10 p8) m) fun x45 m =>
  bp (pur (aLoad false 1 x45 m) m) fun x46 m =>
  bp (pur (lenK 1 x46 m) m) fun x47 m =>
  bp (pur (bin .gtr true true .int x47 (.int .i64 0)) m) fun x48 m =>
  Qp G k0 x48 p5 p2 p8 p16 p15 p14 m))
    (Qp G k0 (.bool false) p5 p2 p8 p16 p15 p14 m)))
    (Qp G k0 (.bool false) p5 p2 p8 p16 p15 p14 m))
    (Qp G k0 (.bool false) p5 p2 p8 p16 p15 p14 m))
    (Qp G k0 (.bool false) p5 p2 p8 p16 p15 p14 m))
    (Qp G k0 (.bool false) p5 p2 p8 p16 p15 p14 m)
def Q9l (G : Gt) (k1 : Value → Value → Value → Value → Value → Value → Value → Value → Value → Value → Mem → Option Rs) (p55 p54 p53 p4 p8 p5 p2 p16 p15 p14 : Value) (m : Mem) : Option Rs :=
  bp (pur (bin .add true true .int p55 (.int .i64 1)) m) fun x49 m =>
  k1 x49 p54 p53 p4 p8 p5 p2 p16 p15 p14 m
def Qj4 (G : Gt) (k1 : Value → Value → Value → Value → Value → Value → Value → Value → Value → Value → Mem → Option Rs) (p53 p55 p4 p54 p8 p5 p2 p16 p15 p14 : Value) (m : Mem) : Option Rs :=
  bp (pur (aIndexAddrSl 1 p53 p55) m) fun x50 m =>
  bp (pur (aLoad false 1 x50 m) m) fun x51 m =>
  brb p4
    (bp (G.tab Q1i [x51, (.int .i64 (-1)), (.int .i64 16777216)] m) fun x52 m =>
  Q9l G k1 p55 p54 p53 x52 p8 p5 p2 p16 p15 p14 m)
    (Q9l G k1 p55 p54 p53 (.bool false) p8 p5 p2 p16 p15 p14 m)
def Qj5 (G : Gt) (k1 : Value → Value → Value → Value → Value → Value → Value → Value → Value → Value → Mem → Option Rs) (k0 : Value → Value → Value → Value → Value → Value → Value → Mem → Option Rs) (p56 p53 p55 p4 p54 p8 p5 p2 p16 p15 p14 : Value) (m : Mem) : Option Rs :=
  brb p56
    (Qj4 G k1 p53 p55 p4 p54 p8 p5 p2 p16 p15 p14 m)
    (Qj3 G k0 p4 p8 p5 p2 p16 p15 p14 m)
def Q2j (G : Gt) (k0 : Value → Value → Value → Value → Value → Value → Value → Mem → Option Rs) : Nat → Value → Value → Value → Value → Value → Value → Value → Value → Value → Value → Mem → Option Rs
  | 0, _, _, _, _, _, _, _, _, _, _, _ => none
  | i + 1, p55, p54, p53, p4, p8, p5, p2, p16, p15, p14, m =>
  bp (pur (bin .lss false true .int p55 p54) m) fun x53 m =>
  Qj5 G (Q2j G k0 i) k0 x53 p53 p55 p4 p54 p8 p5 p2 p16 p15 p14 m
def Qj6 (G : Gt) (k0 : Value → Value → Value → Value → Value → Value → Value → Mem → Option Rs) (p55 p54 p53 p4 p8 p5 p2 p16 p15 p14 : Value) (m : Mem) : Option Rs :=
  Q2j G k0 G.rds p55 p54 p53 p4 p8 p5 p2 p16 p15 p14 m
def Q2k (G : Gt) (k0 : Value → Value → Value → Value → Value → Value → Value → Mem → Option Rs) (p8 p4 p5 p2 p16 p15 p14 : Value) (m : Mem) : Option Rs :=
  bp (pur (aFieldAddr 4 p8) m) fun x54 m =>
  bp (pur (aLoad false 1 x54 m) m) fun x55 m =>
  bp (pur (aFieldAddr 5 p8) m) fun x56 m =>
  bp (pur (aLoad false 1 x56 m) m) fun x57 m =>
  bp (pur (aFieldAddr 7 p8) m) fun x58 m =>
  bp (pur (aLoad false 1 x58 m) m) fun x59 m =>
  bp (pur (aFieldAddr 8 p8) m) fun x60 m =>
  bp (pur (aLoad false 1 x60 m) m) fun x61 m =>
  bp (pur (aFieldAddr 9 p8) m) fun x62 m =>
  bp (pur (aLoad false 1 x62 m) m) fun x63 m =>
  bp (aBuildSlice Q25 [(.int .i64 0)] 1 5 [(0, x55), (1, x57), (2, x59), (3, x61), (4, x63)] m) fun x64 m =>
  bp (pur (lenK 1 x64 m) m) fun x65 m =>
  Qj6 G k0 (.int .i64 0) x65 x64 p4 p8 p5 p2 p16 p15 p14 m
def Qlg (G : Gt) (k0 : Value → Value → Value → Value → Value → Value → Value → Mem → Option Rs) (p4 p8 p6 p5 p2 p16 p15 p14 : Value) (m : Mem) : Option Rs :=
  brb p4
    (bp (pur (aFieldAddr 0 p8) m) fun x66 m =>
  bp (pur (aLoad false 1 x66 m) m) fun x67 m =>
  bp (pur (bin .add true true .int p6 (.int .i64 1)) m) fun x68 m =>
  bp (G.tab Q1i [x67, x68, (.int .i64 65535)] m) fun x69 m =>
  brb x69
    (bp (pur (aFieldAddr 1 p8) m) fun x70 m =>
  bp (pur (aLoad false 1 x70 m) m) fun x71 m =>
  bp (pur (bin .leq true true .int x71 (.int .u8 2)) m) fun x72 m =>
  brb x72
    (bp (pur (aFieldAddr 6 p8) m) fun x73 m =>
  bp (pur (aLoad false 1 x73 m) m) fun x74 m =>
  bp (pur (bin .eql true true .int x74 (.int .i64 (-1))) m) fun x75 m =>
  brb x75
    (Q2k G k0 p8 (.bool true) p5 p2 p16 p15 p14 m)
    (bp (pur (aFieldAddr 6 p8) m) fun x76 m =>
  bp (pur (aLoad false 1 x76 m) m) fun x77 m =>
  bp (G.tab Q1i [x77, (.int .i64 1), (.int .i64 4294967295)] m) fun x78 m =>
  Q2k G k0 p8 x78 p5 p2 p16 p15 p14 m))
    (Q2k G k0 p8 (.bool false) p5 p2 p16 p15 p14 m))
    (Q2k G k0 p8 (.bool false) p5 p2 p16 p15 p14 m))
    (Q2k G k0 p8 (.bool false) p5 p2 p16 p15 p14 m)
def Qlh (G : Gt) (k0 : Value → Value → Value → Value → Value → Value → Value → Mem → Option Rs) (p14 p16 p4 p6 p5 p2 p15 : Value) (m : Mem) : Option Rs :=
  bp (pur (aIndexAddrSl 15 p14 p16) m) fun x79 m =>
  bp (pur (aLoad true 15 x79 m) m) fun x80 m =>
  bp (some (aNew Q6v Qgv m)) fun x81 m =>
  bp (unt (aStore 15 x81 x80 m)) fun _ m =>
  Qlg G k0 p4 x81 p6 p5 p2 p16 p15 p14 m
def Qli (G : Gt) (k0 : Value → Value → Value → Value → Value → Value → Value → Mem → Option Rs) (p17 p14 p16 p4 p6 p5 p2 p15 : Value) (m : Mem) : Option Rs :=
  brb p17
    (Qlh G k0 p14 p16 p4 p6 p5 p2 p15 m)
    (Qlf G p4 p5 m)
def Q9 (G : Gt) : Nat → Value → Value → Value → Value → Value → Value → Value → Mem → Option Rs
  | 0, _, _, _, _, _, _, _, _ => none
  | i + 1, p16, p15, p14, p4, p6, p5, p2, m =>
  bp (pur (bin .lss false true .int p16 p15) m) fun x82 m =>
  Qli G (Q9 G i) x82 p14 p16 p4 p6 p5 p2 p15 m
def Qlj (G : Gt) (p16 p15 p14 p4 p6 p5 p2 : Value) (m : Mem) : Option Rs :=
  Q9 G G.rds p16 p15 p14 p4 p6 p5 p2 m
def Qlk (G : Gt) (p1 p4 p6 p5 p2 : Value) (m : Mem) : Option Rs :=
  bp (pur (lenK 1 p1 m) m) fun x83 m =>
  Qlj G (.int .i64 0) x83 p1 p4 p6 p5 p2 m
def Qll (G : Gt) (p1 p4 p5 p2 : Value) (m : Mem) : Option Rs :=
  Qlk G p1 p4 (.int .i64 0) p5 p2 m
def Qlm (G : Gt) (p1 p2 : Value) (m : Mem) : Option Rs :=
  Qll G p1 (.bool true) (.bool true) p2 m
def Qln (G : Gt) (p1 p2 : Value) (m : Mem) : Option Rs :=
  bp (pur (lenK 1 p1 m) m) fun x84 m =>
  bp (pur (bin .gtr true true .int x84 (.int .i64 256)) m) fun x85 m =>
  brb x85
    (some (.tuple ⟨[(.bool false), (.bool true)]⟩, m))
    (Qlm G p1 p2 m)
def Qdo (G : Gt) (p0 p1 : Value) (m : Mem) : Option Rs :=
  bp (some (aNew Q6s (Value.cells p0).toList m)) fun x86 m =>
  Qln G p1 x86 m
theorem Q128 (G : Gt) (a0 a1 : Value) (m : Mem) : evFn Go.Proofs.Tryz.prog G.tab G.rds (drOf Go.Proofs.Tryz.prog G.tab) Go.Proofs.Tryz.f167 [a0, a1] m = Qdo G a0 a1 m :=
  evFn_of (r := fun ρ m => Qdo G (ρ 0) (ρ 1) m) rfl rfl (tr (seqQ (f := fun ρ m => Qln G (ρ 1) (ρ 2) m) (tr (seqQ (f := fun ρ m => Qlm G (ρ 1) (ρ 2) m) (tr (seqQ (f := fun ρ m => Qll G (ρ 1) (ρ 4) (ρ 5) (ρ 2) m) (tr (seqQ (f := fun ρ m => Qlk G (ρ 1) (ρ 4) (ρ 6) (ρ 5) (ρ 2) m) (tr (tr (seqQ (f := fun ρ m => Qlf G (ρ 4) (ρ 5) m) (fun ρ m => by kernel_rfl)) (seqQ (f := fun ρ m => Qlj G (ρ 16) (ρ 15) (ρ 14) (ρ 4) (ρ 6) (ρ 5) (ρ 2) m) (tr (blockQ (loopQ (fun i ρ m => Q9 G i (ρ 16) (ρ 15) (ρ 14) (ρ 4) (ρ 6) (ρ 5) (ρ 2) m) (fun _ _ => rfl) (fun i0 => tr (seqQ (f := fun ρ m => Qli G (Q9 G i0) (ρ 17) (ρ 14) (ρ 16) (ρ 4) (ρ 6) (ρ 5) (ρ 2) (ρ 15) m) (tr (seqQ (f := fun ρ m => Qlh G (Q9 G i0) (ρ 14) (ρ 16) (ρ 4) (ρ 6) (ρ 5) (ρ 2) (ρ 15) m) (tr (tr seqD (blockQ (seqQ (f := fun ρ m => Qlg G (Q9 G i0) (ρ 4) (ρ 8) (ρ 6) (ρ 5) (ρ 2) (ρ 16) (ρ 15) (ρ 14) m) (tr (seqQ (f := fun ρ m => Q2k G (Q9 G i0) (ρ 8) (ρ 4) (ρ 5) (ρ 2) (ρ 16) (ρ 15) (ρ 14) m) (tr (tr (seqQ (f := fun ρ m => Qj3 G (Q9 G i0) (ρ 4) (ρ 8) (ρ 5) (ρ 2) (ρ 16) (ρ 15) (ρ 14) m) (tr (seqQ (f := fun ρ m => Qp G (Q9 G i0) (ρ 4) (ρ 5) (ρ 2) (ρ 8) (ρ 16) (ρ 15) (ρ 14) m) (tr (seqQ (f := fun ρ m => Qj2 G (Q9 G i0) (ρ 5) (ρ 2) (ρ 8) (ρ 16) (ρ 15) (ρ 14) (ρ 4) m) (tr (seqQ (f := fun ρ m => Q5s G (Q9 G i0) (ρ 8) (ρ 16) (ρ 15) (ρ 14) (ρ 4) (ρ 5) (ρ 2) m) (fun ρ m => by kernel_rfl)) (fun ρ m => by kernel_rfl))) (fun ρ m => by kernel_rfl))) (fun ρ m => by kernel_rfl))) (seqQ (f := fun ρ m => Qj6 G (Q9 G i0) (ρ 55) (ρ 54) (ρ 53) (ρ 4) (ρ 8) (ρ 5) (ρ 2) (ρ 16) (ρ 15) (ρ 14) m) (tr (blockQ (loopQ (fun i ρ m => Q2j G (Q9 G i0) i (ρ 55) (ρ 54) (ρ 53) (ρ 4) (ρ 8) (ρ 5) (ρ 2) (ρ 16) (ρ 15) (ρ 14) m) (fun _ _ => rfl) (fun i1 => tr (seqQ (f := fun ρ m => Qj5 G (Q2j G (Q9 G i0) i1) (Q9 G i0) (ρ 56) (ρ 53) (ρ 55) (ρ 4) (ρ 54) (ρ 8) (ρ 5) (ρ 2) (ρ 16) (ρ 15) (ρ 14) m) (tr (seqQ (f := fun ρ m => Qj4 G (Q2j G (Q9 G i0) i1) (ρ 53) (ρ 55) (ρ 4) (ρ 54) (ρ 8) (ρ 5) (ρ 2) (ρ 16) (ρ 15) (ρ 14) m) (tr (seqQ (f := fun ρ m => Q9l G (Q2j G (Q9 G i0) i1) (ρ 55) (ρ 54) (ρ 53) (ρ 4) (ρ 8) (ρ 5) (ρ 2) (ρ 16) (ρ 15) (ρ 14) m) (fun ρ m => by kernel_rfl)) (fun ρ m => by kernel_rfl))) (fun ρ m => by kernel_rfl))) (fun ρ m => by kernel_rfl)))) (fun ρ m => by kernel_rfl)))) (fun ρ m => by kernel_rfl))) (fun ρ m => by kernel_rfl))))) (fun ρ m => by kernel_rfl))) (fun ρ m => by kernel_rfl))) (fun ρ m => by kernel_rfl)))) (fun ρ m => by kernel_rfl)))) (fun ρ m => by kernel_rfl))) (fun ρ m => by kernel_rfl))) (fun ρ m => by kernel_rfl))) (fun ρ m => by kernel_rfl))) (fun ρ m => by kernel_rfl)) m
def Q122 : Entry Go.Proofs.Tryz.prog := ⟨Qpm, Go.Proofs.Tryz.f167, Go.Proofs.Tryz.func167, by kernel_rfl, arg2 (fun G a0 a1 m => Qdo G a0 a1 m), okarg2 Q128⟩
def Q7t (G : Gt) (p0 p1 p2 : Value) (m : Mem) : Option Rs :=
  bp (some (aNew Q19v (Value.cells p0).toList m)) fun x0 m =>
  bp (some (aNew Q25 (Value.cells p1).toList m)) fun x1 m =>
  bp (some (aNew Qws (Value.cells p2).toList m)) fun x2 m =>
  bp (pur (aLoad false 1 x0 m) m) fun x3 m =>
  let x4 : Value := (.func (.func Qcs) ⟨[]⟩ ⟨[x2, x0, x1]⟩)
  bp (pur (aLoad false 1 x1 m) m) fun x5 m =>
  bp (G.tab Q1z [x3, x4] m) fun x6 m =>
  ckB (again (pur (aLoad false 1 x1 m) m) x5 && true)
    (bp (pur (bin .eql false true .int x6 x5) m) fun x7 m =>
  some (x7, m))
theorem Qv7 (G : Gt) (a0 a1 a2 : Value) (m : Mem) : evFn Go.Proofs.Tryz.prog G.tab G.rds (drOf Go.Proofs.Tryz.prog G.tab) Go.Proofs.Tryz.f168 [a0, a1, a2] m = Q7t G a0 a1 a2 m :=
  evFn_of (r := fun ρ m => Q7t G (ρ 0) (ρ 1) (ρ 2) m) rfl rfl (fun ρ m => by kernel_rfl) m
def Qv3 : Entry Go.Proofs.Tryz.prog := ⟨Qfz, Go.Proofs.Tryz.f168, Go.Proofs.Tryz.func168, by kernel_rfl, arg3 (fun G a0 a1 a2 m => Q7t G a0 a1 a2 m), okarg3 Qv7⟩
def Qmn (G : Gt) (p0 : Value) (m : Mem) : Option Rs :=
  bp (some (aNew Q42 (Value.cells p0).toList m)) fun x0 m =>
  bp (pur (aFieldAddr 0 x0) m) fun x1 m =>
  bp (pur (aLoad false 1 x1 m) m) fun x2 m =>
  some (x2, m)
theorem Q18k (G : Gt) (a0 : Value) (m : Mem) : evFn Go.Proofs.Tryz.prog G.tab G.rds (drOf Go.Proofs.Tryz.prog G.tab) Go.Proofs.Tryz.f169 [a0] m = Qmn G a0 m :=
  evFn_of (r := fun ρ m => Qmn G (ρ 0) m) rfl rfl (fun ρ m => by kernel_rfl) m
def Q18f : Entry Go.Proofs.Tryz.prog := ⟨Qmo, Go.Proofs.Tryz.f169, Go.Proofs.Tryz.func169, by kernel_rfl, arg1 (fun G a0 m => Qmn G a0 m), okarg1 Q18k⟩
def Qjx (G : Gt) (p1 p2 p0 : Value) (m : Mem) : Option Rs :=
  bp (pur (aLoad true 5 p1 m) m) fun x0 m =>
  bp (pur (aLoad true 12 p2 m) m) fun x1 m =>
  bp (G.tab Qup [x0, x1, p0] m) fun x2 m =>
  some (x2, m)
theorem Q17r (G : Gt) (a0 a1 a2 : Value) (m : Mem) : evFn Go.Proofs.Tryz.prog G.tab G.rds (drOf Go.Proofs.Tryz.prog G.tab) Go.Proofs.Tryz.f170 [a0, a1, a2] m = Qjx G a1 a2 a0 m :=
  evFn_of (r := fun ρ m => Qjx G (ρ 1) (ρ 2) (ρ 0) m) rfl rfl (fun ρ m => by kernel_rfl) m
def Q17j : Entry Go.Proofs.Tryz.prog := ⟨Qul, Go.Proofs.Tryz.f170, Go.Proofs.Tryz.func170, by kernel_rfl, arg3 (fun G a0 a1 a2 m => Qjx G a1 a2 a0 m), okarg3 Q17r⟩
def Q33 (G : Gt) (p6 : Value) (m : Mem) : Option Rs :=
  some (p6, m)
def Qr6 (G : Gt) (p8 p7 p4 p2 p9 p3 : Value) (m : Mem) : Option Rs :=
  brb p8
    (bp (pur (aFieldAddr 1 p7) m) fun x0 m =>
  bp (pur (aLoad false 1 x0 m) m) fun x1 m =>
  bp (pur (bin .neq true true .int x1 (.int .u32 0)) m) fun x2 m =>
  brb x2
    (bp (pur (aFieldAddr 10 p4) m) fun x3 m =>
  bp (pur (aLoad false 1 x3 m) m) fun x4 m =>
  bp (G.tab Qj1 [x4, p2, (.func (.func Qr5) #[] #[])] m) fun x5 m =>
  brb p9
    (bp (pur (aFieldAddr 0 p3) m) fun x6 m =>
  bp (pur (aLoad false 1 x6 m) m) fun x7 m =>
  bp (pur (aFieldAddr 0 p7) m) fun x8 m =>
  bp (pur (aLoad false 1 x8 m) m) fun x9 m =>
  bp (G.tab Q1e [x7, x9] m) fun x10 m =>
  bp (G.tab Qc [x5, x10] m) fun x11 m =>
  Q33 G x11 m)
    (bp (G.tab Qc [x5, (.bool false)] m) fun x12 m =>
  Q33 G x12 m))
    (brb p9
    (bp (pur (aFieldAddr 0 p3) m) fun x13 m =>
  bp (pur (aLoad false 1 x13 m) m) fun x14 m =>
  bp (pur (aFieldAddr 0 p7) m) fun x15 m =>
  bp (pur (aLoad false 1 x15 m) m) fun x16 m =>
  bp (G.tab Q1e [x14, x16] m) fun x17 m =>
  bp (G.tab Qc [(.bool false), x17] m) fun x18 m =>
  Q33 G x18 m)
    (bp (G.tab Qc [(.bool false), (.bool false)] m) fun x19 m =>
  Q33 G x19 m)))
    (brb p9
    (bp (pur (aFieldAddr 0 p3) m) fun x20 m =>
  bp (pur (aLoad false 1 x20 m) m) fun x21 m =>
  bp (pur (aFieldAddr 0 p7) m) fun x22 m =>
  bp (pur (aLoad false 1 x22 m) m) fun x23 m =>
  bp (G.tab Q1e [x21, x23] m) fun x24 m =>
  bp (G.tab Qc [(.bool false), x24] m) fun x25 m =>
  Q33 G x25 m)
    (bp (G.tab Qc [(.bool false), (.bool false)] m) fun x26 m =>
  Q33 G x26 m))
def Qr7 (G : Gt) (p3 p7 p4 p2 : Value) (m : Mem) : Option Rs :=
  bp (pur (aLoad true 5 p3 m) m) fun x27 m =>
  bp (pur (aFieldAddr 2 p7) m) fun x28 m =>
  bp (pur (aLoad false 1 x28 m) m) fun x29 m =>
  bp (G.tab Qdn [x27, x29, (.int .u8 11), (.bool true)] m) fun x30 m =>
  bp (pur (aExtract x30 0) m) fun x31 m =>
  bp (pur (aExtract x30 1) m) fun x32 m =>
  Qr6 G x31 p7 p4 p2 x32 p3 m
def Qr8 (G : Gt) (p4 p2 p3 : Value) (m : Mem) : Option Rs :=
  bp (pur (aFieldAddr 10 p4) m) fun x33 m =>
  bp (pur (aLoad false 1 x33 m) m) fun x34 m =>
  bp (pur (aIndexAddrSl 3 x34 p2) m) fun x35 m =>
  bp (pur (aLoad true 3 x35 m) m) fun x36 m =>
  bp (some (aNew Qd9 Qp8 m)) fun x37 m =>
  bp (unt (aStore 3 x37 x36 m)) fun _ m =>
  Qr7 G p3 x37 p4 p2 m
def Qjy (G : Gt) (p0 p1 p2 : Value) (m : Mem) : Option Rs :=
  bp (some (aNew Q6s (Value.cells p0).toList m)) fun x38 m =>
  bp (some (aNew Qq (Value.cells p1).toList m)) fun x39 m =>
  Qr8 G x39 p2 x38 m
theorem Q17s (G : Gt) (a0 a1 a2 : Value) (m : Mem) : evFn Go.Proofs.Tryz.prog G.tab G.rds (drOf Go.Proofs.Tryz.prog G.tab) Go.Proofs.Tryz.f171 [a0, a1, a2] m = Qjy G a0 a1 a2 m :=
  evFn_of (r := fun ρ m => Qjy G (ρ 0) (ρ 1) (ρ 2) m) rfl rfl (tr (seqQ (f := fun ρ m => Qr8 G (ρ 4) (ρ 2) (ρ 3) m) (tr (seqQ (f := fun ρ m => Qr7 G (ρ 3) (ρ 7) (ρ 4) (ρ 2) m) (tr (seqQ (f := fun ρ m => Qr6 G (ρ 8) (ρ 7) (ρ 4) (ρ 2) (ρ 9) (ρ 3) m) (tr (seqQ (f := fun ρ m => Q33 G (ρ 6) m) (fun ρ m => by kernel_rfl)) (fun ρ m => by kernel_rfl))) (fun ρ m => by kernel_rfl))) (fun ρ m => by kernel_rfl))) (fun ρ m => by kernel_rfl)) m
def Q17c : Entry Go.Proofs.Tryz.prog := ⟨Qup, Go.Proofs.Tryz.f171, Go.Proofs.Tryz.func171, by kernel_rfl, arg3 (fun G a0 a1 a2 m => Qjy G a0 a1 a2 m), okarg3 Q17s⟩
def Qhc (G : Gt) (p1 p2 p0 : Value) (m : Mem) : Option Rs :=
  bp (pur (aLoad true 5 p1 m) m) fun x0 m =>
  bp (pur (aLoad true 12 p2 m) m) fun x1 m =>
  bp (G.tab Qw7 [x0, x1, p0] m) fun x2 m =>
  some (x2, m)
theorem Q169 (G : Gt) (a0 a1 a2 : Value) (m : Mem) : evFn Go.Proofs.Tryz.prog G.tab G.rds (drOf Go.Proofs.Tryz.prog G.tab) Go.Proofs.Tryz.f172 [a0, a1, a2] m = Qhc G a1 a2 a0 m :=
  evFn_of (r := fun ρ m => Qhc G (ρ 1) (ρ 2) (ρ 0) m) rfl rfl (fun ρ m => by kernel_rfl) m
def Q164 : Entry Go.Proofs.Tryz.prog := ⟨Qsp, Go.Proofs.Tryz.f172, Go.Proofs.Tryz.func172, by kernel_rfl, arg3 (fun G a0 a1 a2 m => Qhc G a1 a2 a0 m), okarg3 Q169⟩
end
end Go.Ab.Sh

set_option linter.unusedVariables false
set_option maxRecDepth 100000
namespace Go.Ab.Sh
open Go Go.Ab
noncomputable section
def Qhd (G : Gt) (p6 : Value) (m : Mem) : Option Rs :=
  some (p6, m)
def Qt1 (G : Gt) (p8 p9 p3 p7 : Value) (m : Mem) : Option Rs :=
  brb p9
    (bp (pur (aFieldAddr 0 p3) m) fun x0 m =>
  bp (pur (aLoad false 1 x0 m) m) fun x1 m =>
  bp (pur (aFieldAddr 0 p7) m) fun x2 m =>
  bp (pur (aLoad false 1 x2 m) m) fun x3 m =>
  bp (G.tab Q1e [x1, x3] m) fun x4 m =>
  bp (G.tab Qc [p8, x4] m) fun x5 m =>
  Qhd G x5 m)
    (bp (G.tab Qc [p8, (.bool false)] m) fun x6 m =>
  Qhd G x6 m)
def Q8u (G : Gt) (k0 : Value → Value → Value → Value → Value → Value → Value → Value → Mem → Option Rs) (p83 p82 p81 p12 p8 p9 p3 p7 : Value) (m : Mem) : Option Rs :=
  bp (pur (bin .add true true .int p83 (.int .i64 1)) m) fun x7 m =>
  k0 x7 p82 p81 p12 p8 p9 p3 p7 m
def Q5y (G : Gt) (k0 : Value → Value → Value → Value → Value → Value → Value → Value → Mem → Option Rs) (p9 p3 p14 p83 p82 p81 p12 p8 p7 : Value) (m : Mem) : Option Rs :=
  brb p9
    (bp (pur (aFieldAddr 4 p3) m) fun x8 m =>
  bp (pur (aLoad false 1 x8 m) m) fun x9 m =>
  bp (pur (aFieldAddr 2 p14) m) fun x10 m =>
  bp (pur (aLoad false 1 x10 m) m) fun x11 m =>
  bp (G.tab Q1e [x9, x11] m) fun x12 m =>
  brb x12
    (bp (pur (aFieldAddr 4 p3) m) fun x13 m =>
  bp (pur (aLoad false 1 x13 m) m) fun x14 m =>
  bp (pur (aFieldAddr 3 p14) m) fun x15 m =>
  bp (pur (aLoad false 1 x15 m) m) fun x16 m =>
  bp (G.tab Q1e [x14, x16] m) fun x17 m =>
  Q8u G k0 p83 p82 p81 p12 p8 x17 p3 p7 m)
    (Q8u G k0 p83 p82 p81 p12 p8 (.bool false) p3 p7 m))
    (Q8u G k0 p83 p82 p81 p12 p8 (.bool false) p3 p7 m)
def Qr9 (G : Gt) (k0 : Value → Value → Value → Value → Value → Value → Value → Value → Mem → Option Rs) (p8 p14 p12 p9 p3 p83 p82 p81 p7 : Value) (m : Mem) : Option Rs :=
  brb p8
    (bp (pur (aFieldAddr 0 p14) m) fun x18 m =>
  bp (pur (aLoad false 1 x18 m) m) fun x19 m =>
  bp (pur (bin .neq true true .int x19 (.int .u32 0)) m) fun x20 m =>
  brb x20
    (bp (pur (aFieldAddr 1 p14) m) fun x21 m =>
  bp (pur (aLoad false 1 x21 m) m) fun x22 m =>
  bp (pur (bin .neq true true .int x22 (.int .u32 0)) m) fun x23 m =>
  brb x23
    (bp (pur (aFieldAddr 0 p14) m) fun x24 m =>
  bp (pur (aLoad false 1 x24 m) m) fun x25 m =>
  bp (pur (aLookup .int (.int .i64 0) false p12 x25 m) m) fun x26 m =>
  bp (pur (bin .eql true true .int x26 (.int .i64 1)) m) fun x27 m =>
  Q5y G k0 p9 p3 p14 p83 p82 p81 p12 x27 p7 m)
    (Q5y G k0 p9 p3 p14 p83 p82 p81 p12 (.bool false) p7 m))
    (Q5y G k0 p9 p3 p14 p83 p82 p81 p12 (.bool false) p7 m))
    (Q5y G k0 p9 p3 p14 p83 p82 p81 p12 (.bool false) p7 m)
def Qra (G : Gt) (k0 : Value → Value → Value → Value → Value → Value → Value → Value → Mem → Option Rs) (p12 p14 p8 p9 p3 p83 p82 p81 p7 : Value) (m : Mem) : Option Rs :=
  bp (pur (aFieldAddr 0 p14) m) fun x28 m =>
  bp (pur (aLoad false 1 x28 m) m) fun x29 m =>
  bp (pur (aLookup .int (.int .i64 0) false p12 x29 m) m) fun x30 m =>
  bp (pur (bin .add true true .int x30 (.int .i64 1)) m) fun x31 m =>
  bp (unt (aMapUpdate .int p12 x29 x31 m)) fun _ m =>
  Qr9 G k0 p8 p14 p12 p9 p3 p83 p82 p81 p7 m
def Qrb (G : Gt) (k0 : Value → Value → Value → Value → Value → Value → Value → Value → Mem → Option Rs) (p81 p83 p12 p8 p9 p3 p82 p7 : Value) (m : Mem) : Option Rs :=
  bp (pur (aIndexAddrSl 6 p81 p83) m) fun x32 m =>
  bp (pur (aLoad true 6 x32 m) m) fun x33 m =>
  bp (some (aNew Qdp Qi9 m)) fun x34 m =>
  bp (unt (aStore 6 x34 x33 m)) fun _ m =>
  Qra G k0 p12 x34 p8 p9 p3 p83 p82 p81 p7 m
def Qrc (G : Gt) (k0 : Value → Value → Value → Value → Value → Value → Value → Value → Mem → Option Rs) (p84 p81 p83 p12 p8 p9 p3 p82 p7 : Value) (m : Mem) : Option Rs :=
  brb p84
    (Qrb G k0 p81 p83 p12 p8 p9 p3 p82 p7 m)
    (Qt1 G p8 p9 p3 p7 m)
def Q1o (G : Gt) : Nat → Value → Value → Value → Value → Value → Value → Value → Value → Mem → Option Rs
  | 0, _, _, _, _, _, _, _, _, _ => none
  | i + 1, p83, p82, p81, p12, p8, p9, p3, p7, m =>
  bp (pur (bin .lss false true .int p83 p82) m) fun x35 m =>
  Qrc G (Q1o G i) x35 p81 p83 p12 p8 p9 p3 p82 p7 m
def Qt2 (G : Gt) (p83 p82 p81 p12 p8 p9 p3 p7 : Value) (m : Mem) : Option Rs :=
  Q1o G G.rds p83 p82 p81 p12 p8 p9 p3 p7 m
def Qt3 (G : Gt) (p7 p12 p8 p9 p3 : Value) (m : Mem) : Option Rs :=
  bp (pur (aFieldAddr 4 p7) m) fun x36 m =>
  bp (pur (aLoad false 1 x36 m) m) fun x37 m =>
  bp (pur (lenK 1 x37 m) m) fun x38 m =>
  Qt2 G (.int .i64 0) x38 x37 p12 p8 p9 p3 p7 m
def Qt4 (G : Gt) (p7 p8 p9 p3 : Value) (m : Mem) : Option Rs :=
  bp (some (aMakeMap m)) fun x39 m =>
  Qt3 G p7 x39 p8 p9 p3 m
def Q8v (G : Gt) (k0 : Value → Value → Value → Value → Value → Value → Value → Mem → Option Rs) (p59 p58 p57 p8 p7 p9 p3 : Value) (m : Mem) : Option Rs :=
  bp (pur (bin .add true true .int p59 (.int .i64 1)) m) fun x40 m =>
  k0 x40 p58 p57 p8 p7 p9 p3 m
def Qrd (G : Gt) (k0 : Value → Value → Value → Value → Value → Value → Value → Mem → Option Rs) (p59 p57 p8 p7 p58 p9 p3 : Value) (m : Mem) : Option Rs :=
  bp (pur (aIndexAddrSl 2 p57 p59) m) fun x41 m =>
  bp (pur (aLoad true 2 x41 m) m) fun x42 m =>
  bp (some (aNew Q1d Q19 m)) fun x43 m =>
  bp (unt (aStore 2 x43 x42 m)) fun _ m =>
  brb p8
    (bp (pur (aLoad true 2 x43 m) m) fun x44 m =>
  bp (G.tab Q6t [x44] m) fun x45 m =>
  bp (pur (bin .eql true true .int x45 (.int .i64 0)) m) fun x46 m =>
  brb x46
    (bp (pur (aFieldAddr 3 p7) m) fun x47 m =>
  bp (pur (aLoad false 1 x47 m) m) fun x48 m =>
  bp (pur (aLoad true 2 x43 m) m) fun x49 m =>
  bp (G.tab Q5l [x48, x49] m) fun x50 m =>
  bp (pur (bin .eql false true .int x50 p59) m) fun x51 m =>
  Q8v G k0 p59 p58 p57 x51 p7 p9 p3 m)
    (Q8v G k0 p59 p58 p57 (.bool false) p7 p9 p3 m))
    (Q8v G k0 p59 p58 p57 (.bool false) p7 p9 p3 m)
def Qre (G : Gt) (k0 : Value → Value → Value → Value → Value → Value → Value → Mem → Option Rs) (p60 p59 p57 p8 p7 p58 p9 p3 : Value) (m : Mem) : Option Rs :=
  brb p60
    (Qrd G k0 p59 p57 p8 p7 p58 p9 p3 m)
    (Qt4 G p7 p8 p9 p3 m)
def Q41 (G : Gt) : Nat → Value → Value → Value → Value → Value → Value → Value → Mem → Option Rs
  | 0, _, _, _, _, _, _, _, _ => none
  | i + 1, p59, p58, p57, p8, p7, p9, p3, m =>
  bp (pur (bin .lss false true .int p59 p58) m) fun x52 m =>
  Qre G (Q41 G i) x52 p59 p57 p8 p7 p58 p9 p3 m
def Qrf (G : Gt) (p59 p58 p57 p8 p7 p9 p3 : Value) (m : Mem) : Option Rs :=
  Q41 G G.rds p59 p58 p57 p8 p7 p9 p3 m
def Q3f (G : Gt) (p7 p8 p9 p3 : Value) (m : Mem) : Option Rs :=
  bp (pur (aFieldAddr 3 p7) m) fun x53 m =>
  bp (pur (aLoad false 1 x53 m) m) fun x54 m =>
  bp (pur (lenK 1 x54 m) m) fun x55 m =>
  Qrf G (.int .i64 0) x55 x54 p8 p7 p9 p3 m
def Qt5 (G : Gt) (p8 p7 p4 p2 p9 p3 : Value) (m : Mem) : Option Rs :=
  brb p8
    (bp (pur (aFieldAddr 1 p7) m) fun x56 m =>
  bp (pur (aLoad false 1 x56 m) m) fun x57 m =>
  bp (pur (bin .neq true true .int x57 (.int .u32 0)) m) fun x58 m =>
  brb x58
    (bp (pur (aFieldAddr 2 p7) m) fun x59 m =>
  bp (pur (aLoad false 1 x59 m) m) fun x60 m =>
  bp (pur (bin .neq true true .int x60 (.int .u32 0)) m) fun x61 m =>
  brb x61
    (bp (pur (aFieldAddr 11 p4) m) fun x62 m =>
  bp (pur (aLoad false 1 x62 m) m) fun x63 m =>
  bp (G.tab Qle [x63, p2, (.func (.func Qt0) #[] #[])] m) fun x64 m =>
  brb x64
    (bp (pur (aFieldAddr 3 p7) m) fun x65 m =>
  bp (pur (aLoad false 1 x65 m) m) fun x66 m =>
  bp (pur (lenK 1 x66 m) m) fun x67 m =>
  bp (pur (bin .leq true true .int x67 (.int .i64 256)) m) fun x68 m =>
  brb x68
    (bp (pur (aFieldAddr 4 p7) m) fun x69 m =>
  bp (pur (aLoad false 1 x69 m) m) fun x70 m =>
  bp (pur (lenK 1 x70 m) m) fun x71 m =>
  bp (pur (bin .leq true true .int x71 (.int .i64 256)) m) fun x72 m =>
  Q3f G p7 x72 p9 p3 m)
    (Q3f G p7 (.bool false) p9 p3 m))
    (Q3f G p7 (.bool false) p9 p3 m))
    (Q3f G p7 (.bool false) p9 p3 m))
    (Q3f G p7 (.bool false) p9 p3 m))
    (Q3f G p7 (.bool false) p9 p3 m)
def Qt6 (G : Gt) (p3 p7 p4 p2 : Value) (m : Mem) : Option Rs :=
  bp (pur (aLoad true 5 p3 m) m) fun x73 m =>
  bp (pur (aFieldAddr 5 p7) m) fun x74 m =>
  bp (pur (aLoad false 1 x74 m) m) fun x75 m =>
  bp (G.tab Qdn [x73, x75, (.int .u8 7), (.bool false)] m) fun x76 m =>
  bp (pur (aExtract x76 0) m) fun x77 m =>
  bp (pur (aExtract x76 1) m) fun x78 m =>
  Qt5 G x77 p7 p4 p2 x78 p3 m
def Qt7 (G : Gt) (p4 p2 p3 : Value) (m : Mem) : Option Rs :=
  bp (pur (aFieldAddr 11 p4) m) fun x79 m =>
  bp (pur (aLoad false 1 x79 m) m) fun x80 m =>
  bp (pur (aIndexAddrSl 6 x80 p2) m) fun x81 m =>
  bp (pur (aLoad true 6 x81 m) m) fun x82 m =>
  bp (some (aNew Q9y Qn3 m)) fun x83 m =>
  bp (unt (aStore 6 x83 x82 m)) fun _ m =>
  Qt6 G p3 x83 p4 p2 m
def Qmp (G : Gt) (p0 p1 p2 : Value) (m : Mem) : Option Rs :=
  bp (some (aNew Q6s (Value.cells p0).toList m)) fun x84 m =>
  bp (some (aNew Qq (Value.cells p1).toList m)) fun x85 m =>
  Qt7 G x85 p2 x84 m
theorem Q18l (G : Gt) (a0 a1 a2 : Value) (m : Mem) : evFn Go.Proofs.Tryz.prog G.tab G.rds (drOf Go.Proofs.Tryz.prog G.tab) Go.Proofs.Tryz.f173 [a0, a1, a2] m = Qmp G a0 a1 a2 m :=
  evFn_of (r := fun ρ m => Qmp G (ρ 0) (ρ 1) (ρ 2) m) rfl rfl (tr (seqQ (f := fun ρ m => Qt7 G (ρ 4) (ρ 2) (ρ 3) m) (tr (seqQ (f := fun ρ m => Qt6 G (ρ 3) (ρ 7) (ρ 4) (ρ 2) m) (tr (seqQ (f := fun ρ m => Qt5 G (ρ 8) (ρ 7) (ρ 4) (ρ 2) (ρ 9) (ρ 3) m) (tr (seqQ (f := fun ρ m => Q3f G (ρ 7) (ρ 8) (ρ 9) (ρ 3) m) (tr (tr (seqQ (f := fun ρ m => Qt4 G (ρ 7) (ρ 8) (ρ 9) (ρ 3) m) (tr (seqQ (f := fun ρ m => Qt3 G (ρ 7) (ρ 12) (ρ 8) (ρ 9) (ρ 3) m) (tr (tr (seqQ (f := fun ρ m => Qt1 G (ρ 8) (ρ 9) (ρ 3) (ρ 7) m) (tr (seqQ (f := fun ρ m => Qhd G (ρ 6) m) (fun ρ m => by kernel_rfl)) (fun ρ m => by kernel_rfl))) (seqQ (f := fun ρ m => Qt2 G (ρ 83) (ρ 82) (ρ 81) (ρ 12) (ρ 8) (ρ 9) (ρ 3) (ρ 7) m) (tr (blockQ (loopQ (fun i ρ m => Q1o G i (ρ 83) (ρ 82) (ρ 81) (ρ 12) (ρ 8) (ρ 9) (ρ 3) (ρ 7) m) (fun _ _ => rfl) (fun i0 => tr (seqQ (f := fun ρ m => Qrc G (Q1o G i0) (ρ 84) (ρ 81) (ρ 83) (ρ 12) (ρ 8) (ρ 9) (ρ 3) (ρ 82) (ρ 7) m) (tr (seqQ (f := fun ρ m => Qrb G (Q1o G i0) (ρ 81) (ρ 83) (ρ 12) (ρ 8) (ρ 9) (ρ 3) (ρ 82) (ρ 7) m) (tr (tr (seqQ (f := fun ρ m => Q8u G (Q1o G i0) (ρ 83) (ρ 82) (ρ 81) (ρ 12) (ρ 8) (ρ 9) (ρ 3) (ρ 7) m) (fun ρ m => by kernel_rfl)) (blockQ (seqQ (f := fun ρ m => Qra G (Q1o G i0) (ρ 12) (ρ 14) (ρ 8) (ρ 9) (ρ 3) (ρ 83) (ρ 82) (ρ 81) (ρ 7) m) (tr (seqQ (f := fun ρ m => Qr9 G (Q1o G i0) (ρ 8) (ρ 14) (ρ 12) (ρ 9) (ρ 3) (ρ 83) (ρ 82) (ρ 81) (ρ 7) m) (tr (seqQ (f := fun ρ m => Q5y G (Q1o G i0) (ρ 9) (ρ 3) (ρ 14) (ρ 83) (ρ 82) (ρ 81) (ρ 12) (ρ 8) (ρ 7) m) (fun ρ m => by kernel_rfl)) (fun ρ m => by kernel_rfl))) (fun ρ m => by kernel_rfl))))) (fun ρ m => by kernel_rfl))) (fun ρ m => by kernel_rfl))) (fun ρ m => by kernel_rfl)))) (fun ρ m => by kernel_rfl)))) (fun ρ m => by kernel_rfl))) (fun ρ m => by kernel_rfl))) (seqQ (f := fun ρ m => Qrf G (ρ 59) (ρ 58) (ρ 57) (ρ 8) (ρ 7) (ρ 9) (ρ 3) m) (tr (blockQ (loopQ (fun i ρ m => Q41 G i (ρ 59) (ρ 58) (ρ 57) (ρ 8) (ρ 7) (ρ 9) (ρ 3) m) (fun _ _ => rfl) (fun i0 => tr (seqQ (f := fun ρ m => Qre G (Q41 G i0) (ρ 60) (ρ 59) (ρ 57) (ρ 8) (ρ 7) (ρ 58) (ρ 9) (ρ 3) m) (tr (seqQ (f := fun ρ m => Qrd G (Q41 G i0) (ρ 59) (ρ 57) (ρ 8) (ρ 7) (ρ 58) (ρ 9) (ρ 3) m) (tr (seqQ (f := fun ρ m => Q8v G (Q41 G i0) (ρ 59) (ρ 58) (ρ 57) (ρ 8) (ρ 7) (ρ 9) (ρ 3) m) (fun ρ m => by kernel_rfl)) (fun ρ m => by kernel_rfl))) (fun ρ m => by kernel_rfl))) (fun ρ m => by kernel_rfl)))) (fun ρ m => by kernel_rfl)))) (fun ρ m => by kernel_rfl))) (fun ρ m => by kernel_rfl))) (fun ρ m => by kernel_rfl))) (fun ρ m => by kernel_rfl))) (fun ρ m => by kernel_rfl)) m
def Q18g : Entry Go.Proofs.Tryz.prog := ⟨Qw7, Go.Proofs.Tryz.f173, Go.Proofs.Tryz.func173, by kernel_rfl, arg3 (fun G a0 a1 a2 m => Qmp G a0 a1 a2 m), okarg3 Q18l⟩
def Qa1 (G : Gt) (p4 p5 : Value) (m : Mem) : Option Rs :=
  some (.tuple ⟨[p4, p5]⟩, m)
def Qxn (G : Gt) (p6 p7 p1 p0 : Value) (m : Mem) : Option Rs :=
  bp (pur (bin .eql true false .iface p7 .nilIface) m) fun x0 m =>
  brb x0
    (bp (pur (bin .geq true true .int p6 (.int .i64 0)) m) fun x1 m =>
  brb x1
    (bp (pur (bin .leq false true .int p6 p1) m) fun x2 m =>
  brb x2
    (bp (G.tab Q26 [p6] m) fun x3 m =>
  bp (pur (bin .eql false true .str x3 p0) m) fun x4 m =>
  Qa1 G p6 x4 m)
    (Qa1 G p6 (.bool false) m))
    (Qa1 G p6 (.bool false) m))
    (Qa1 G p6 (.bool false) m)
def Qxo (G : Gt) (p0 p1 : Value) (m : Mem) : Option Rs :=
  bp (G.tab Qs7 [p0] m) fun x5 m =>
  bp (pur (aExtract x5 0) m) fun x6 m =>
  bp (pur (aExtract x5 1) m) fun x7 m =>
  Qxn G x6 x7 p1 p0 m
def Qu0 (G : Gt) (p0 p1 : Value) (m : Mem) : Option Rs :=
  Qxo G p0 p1 m
theorem Q1au (G : Gt) (a0 a1 : Value) (m : Mem) : evFn Go.Proofs.Tryz.prog G.tab G.rds (drOf Go.Proofs.Tryz.prog G.tab) Go.Proofs.Tryz.f186 [a0, a1] m = Qu0 G a0 a1 m :=
  evFn_of (r := fun ρ m => Qu0 G (ρ 0) (ρ 1) m) rfl rfl (tr (seqQ (f := fun ρ m => Qxo G (ρ 0) (ρ 1) m) (tr (seqQ (f := fun ρ m => Qxn G (ρ 6) (ρ 7) (ρ 1) (ρ 0) m) (tr (seqQ (f := fun ρ m => Qa1 G (ρ 4) (ρ 5) m) (fun ρ m => by kernel_rfl)) (fun ρ m => by kernel_rfl))) (fun ρ m => by kernel_rfl))) (fun ρ m => by kernel_rfl)) m
def Q1ar : Entry Go.Proofs.Tryz.prog := ⟨Qti, Go.Proofs.Tryz.f186, Go.Proofs.Tryz.func186, by kernel_rfl, arg2 (fun G a0 a1 m => Qu0 G a0 a1 m), okarg2 Q1au⟩
def Q7c (G : Gt) (p0 : Value) (m : Mem) : Option Rs :=
  bp (G.tab Qjp [p0] m) fun x0 m =>
  bp (pur (bin .sub true true .int (.int .i64 32) x0) m) fun x1 m =>
  some (x1, m)
theorem Qu1 (G : Gt) (a0 : Value) (m : Mem) : evFn Go.Proofs.Tryz.prog G.tab G.rds (drOf Go.Proofs.Tryz.prog G.tab) Go.Proofs.Tryz.f187 [a0] m = Q7c G a0 m :=
  evFn_of (r := fun ρ m => Q7c G (ρ 0) m) rfl rfl (fun ρ m => by kernel_rfl) m
def Qts : Entry Go.Proofs.Tryz.prog := ⟨Qe6, Go.Proofs.Tryz.f187, Go.Proofs.Tryz.func187, by kernel_rfl, arg1 (fun G a0 m => Q7c G a0 m), okarg1 Qu1⟩
def Q7d (G : Gt) (p0 : Value) (m : Mem) : Option Rs :=
  some (p0, m)
def Q7e (G : Gt) : Nat → Value → Value → Mem → Option Rs
  | 0, _, _, _ => none
  | i + 1, p0, p1, m =>
  bp (pur (lenK 0 p0 m) m) fun x0 m =>
  bp (pur (bin .gtr true true .int x0 (.int .i64 0)) m) fun x1 m =>
  brb x1
    (bp (pur (lenK 0 p0 m) m) fun x2 m =>
  bp (pur (bin .sub true true .int x2 (.int .i64 1)) m) fun x3 m =>
  bp (pur (aIndexStr p0 x3) m) fun x4 m =>
  bp (G.tab Q68 [p1, x4] m) fun x5 m =>
  bp (pur (un .not x5) m) fun x6 m =>
  brb x6
    (Q7d G p0 m)
    (bp (pur (lenK 0 p0 m) m) fun x7 m =>
  bp (pur (bin .sub true true .int x7 (.int .i64 1)) m) fun x8 m =>
  bp (pur (aSliceStr p0 none (some x8)) m) fun x9 m =>
  (Q7e G i) x9 p1 m))
    (Q7d G p0 m)
def Qeh (G : Gt) (p0 p1 : Value) (m : Mem) : Option Rs :=
  Q7e G G.rds p0 p1 m
def Q8q (G : Gt) (p0 p1 : Value) (m : Mem) : Option Rs :=
  Qeh G p0 p1 m
theorem Qw8 (G : Gt) (a0 a1 : Value) (m : Mem) : evFn Go.Proofs.Tryz.prog G.tab G.rds (drOf Go.Proofs.Tryz.prog G.tab) Go.Proofs.Tryz.f190 [a0, a1] m = Q8q G a0 a1 m :=
  evFn_of (r := fun ρ m => Q8q G (ρ 0) (ρ 1) m) rfl rfl (tr (seqQ (f := fun ρ m => Qeh G (ρ 0) (ρ 1) m) (tr (tr (seqQ (f := fun ρ m => Q7d G (ρ 0) m) (fun ρ m => by kernel_rfl)) (blockQ (loopQ (fun i ρ m => Q7e G i (ρ 0) (ρ 1) m) (fun _ _ => rfl) (fun i0 => fun ρ m => by kernel_rfl)))) (fun ρ m => by kernel_rfl))) (fun ρ m => by kernel_rfl)) m
def Qw1 : Entry Go.Proofs.Tryz.prog := ⟨Qgs, Go.Proofs.Tryz.f190, Go.Proofs.Tryz.func190, by kernel_rfl, arg2 (fun G a0 a1 m => Q8q G a0 a1 m), okarg2 Qw8⟩
def Q56 (G : Gt) (m : Mem) : Option Rs :=
  some ((.int .i64 (-1)), m)
def Q2h (G : Gt) : Nat → Value → Value → Value → Value → Mem → Option Rs
  | 0, _, _, _, _, _ => none
  | i + 1, p8, p7, p1, p0, m =>
  bp (pur (bin .lss false true .int p8 p7) m) fun x0 m =>
  brb x0
    (bp (pur (aIndexAddrSl 6 p0 p8) m) fun x1 m =>
  bp (pur (aLoad true 6 x1 m) m) fun x2 m =>
  bp (evCall G.tab p1 [x2] m) fun x3 m =>
  brb x3
    (some (p8, m))
    (bp (pur (bin .add true true .int p8 (.int .i64 1)) m) fun x4 m =>
  (Q2h G i) x4 p7 p1 p0 m))
    (Q56 G m)
def Q57 (G : Gt) (p8 p7 p1 p0 : Value) (m : Mem) : Option Rs :=
  Q2h G G.rds p8 p7 p1 p0 m
def Q58 (G : Gt) (p0 p1 : Value) (m : Mem) : Option Rs :=
  bp (pur (lenK 1 p0 m) m) fun x5 m =>
  Q57 G (.int .i64 0) x5 p1 p0 m
def Q2y (G : Gt) (p0 p1 : Value) (m : Mem) : Option Rs :=
  Q58 G p0 p1 m
theorem Qei (G : Gt) (a0 a1 : Value) (m : Mem) : evFn Go.Proofs.Tryz.prog G.tab G.rds (drOf Go.Proofs.Tryz.prog G.tab) Go.Proofs.Tryz.f194 [a0, a1] m = Q2y G a0 a1 m :=
  evFn_of (r := fun ρ m => Q2y G (ρ 0) (ρ 1) m) rfl rfl (tr (seqQ (f := fun ρ m => Q58 G (ρ 0) (ρ 1) m) (tr (tr (seqQ (f := fun ρ m => Q56 G m) (fun ρ m => by kernel_rfl)) (seqQ (f := fun ρ m => Q57 G (ρ 8) (ρ 7) (ρ 1) (ρ 0) m) (tr (blockQ (loopQ (fun i ρ m => Q2h G i (ρ 8) (ρ 7) (ρ 1) (ρ 0) m) (fun _ _ => rfl) (fun i0 => fun ρ m => by kernel_rfl))) (fun ρ m => by kernel_rfl)))) (fun ρ m => by kernel_rfl))) (fun ρ m => by kernel_rfl)) m
def Qec : Entry Go.Proofs.Tryz.prog := ⟨Q5m, Go.Proofs.Tryz.f194, Go.Proofs.Tryz.func194, by kernel_rfl, arg2 (fun G a0 a1 m => Q2y G a0 a1 m), okarg2 Qei⟩
def Q7u (G : Gt) (p0 p1 : Value) (m : Mem) : Option Rs :=
  bp (some (aNew Qdp (Value.cells p0).toList m)) fun x0 m =>
  bp (pur (aFieldAddr 0 x0) m) fun x1 m =>
  bp (pur (aLoad false 1 x1 m) m) fun x2 m =>
  bp (pur (aLoad false 1 p1 m) m) fun x3 m =>
  bp (pur (bin .eql false true .int x2 x3) m) fun x4 m =>
  some (x4, m)
theorem Qv8 (G : Gt) (a0 a1 : Value) (m : Mem) : evFn Go.Proofs.Tryz.prog G.tab G.rds (drOf Go.Proofs.Tryz.prog G.tab) Go.Proofs.Tryz.f195 [a0, a1] m = Q7u G a0 a1 m :=
  evFn_of (r := fun ρ m => Q7u G (ρ 0) (ρ 1) m) rfl rfl (fun ρ m => by kernel_rfl) m
def Qv1 : Entry Go.Proofs.Tryz.prog := ⟨Qg0, Go.Proofs.Tryz.f195, Go.Proofs.Tryz.func195, by kernel_rfl, arg2 (fun G a0 a1 m => Q7u G a0 a1 m), okarg2 Qv8⟩
def Qj7 (G : Gt) (p5 : Value) (m : Mem) : Option Rs :=
  some (p5, m)
def Q9m (G : Gt) : Nat → Value → Value → Value → Value → Value → Mem → Option Rs
  | 0, _, _, _, _, _, _ => none
  | i + 1, p11, p10, p9, p5, p1, m =>
  bp (pur (bin .lss false true .int p11 p10) m) fun x0 m =>
  brb x0
    (bp (pur (aIndexAddrSl 1 p9 p11) m) fun x1 m =>
  bp (pur (aLoad false 1 x1 m) m) fun x2 m =>
  bp (evCall G.tab p1 [x2] m) fun x3 m =>
  bp (pur (aLookup .str (.int .i64 0) false p5 x3 m) m) fun x4 m =>
  bp (pur (bin .add true true .int x4 (.int .i64 1)) m) fun x5 m =>
  bp (unt (aMapUpdate .str p5 x3 x5 m)) fun _ m =>
  bp (pur (bin .add true true .int p11 (.int .i64 1)) m) fun x6 m =>
  (Q9m G i) x6 p10 p9 p5 p1 m)
    (Qj7 G p5 m)
def Qj8 (G : Gt) (p11 p10 p9 p5 p1 : Value) (m : Mem) : Option Rs :=
  Q9m G G.rds p11 p10 p9 p5 p1 m
def Qj9 (G : Gt) (p0 p5 p1 : Value) (m : Mem) : Option Rs :=
  bp (pur (lenK 1 p0 m) m) fun x7 m =>
  Qj8 G (.int .i64 0) x7 p0 p5 p1 m
def Qja (G : Gt) (p0 p1 : Value) (m : Mem) : Option Rs :=
  bp (some (aMakeMap m)) fun x8 m =>
  Qj9 G p0 x8 p1 m
def Qbz (G : Gt) (p0 p1 : Value) (m : Mem) : Option Rs :=
  Qja G p0 p1 m
theorem Q10t (G : Gt) (a0 a1 : Value) (m : Mem) : evFn Go.Proofs.Tryz.prog G.tab G.rds (drOf Go.Proofs.Tryz.prog G.tab) Go.Proofs.Tryz.f197 [a0, a1] m = Qbz G a0 a1 m :=
  evFn_of (r := fun ρ m => Qbz G (ρ 0) (ρ 1) m) rfl rfl (tr (seqQ (f := fun ρ m => Qja G (ρ 0) (ρ 1) m) (tr (seqQ (f := fun ρ m => Qj9 G (ρ 0) (ρ 5) (ρ 1) m) (tr (tr (seqQ (f := fun ρ m => Qj7 G (ρ 5) m) (fun ρ m => by kernel_rfl)) (seqQ (f := fun ρ m => Qj8 G (ρ 11) (ρ 10) (ρ 9) (ρ 5) (ρ 1) m) (tr (blockQ (loopQ (fun i ρ m => Q9m G i (ρ 11) (ρ 10) (ρ 9) (ρ 5) (ρ 1) m) (fun _ _ => rfl) (fun i0 => fun ρ m => by kernel_rfl))) (fun ρ m => by kernel_rfl)))) (fun ρ m => by kernel_rfl))) (fun ρ m => by kernel_rfl))) (fun ρ m => by kernel_rfl)) m
def Q10p : Entry Go.Proofs.Tryz.prog := ⟨Qna, Go.Proofs.Tryz.f197, Go.Proofs.Tryz.func197, by kernel_rfl, arg2 (fun G a0 a1 m => Qbz G a0 a1 m), okarg2 Q10t⟩
def Qct (G : Gt) (p5 : Value) (m : Mem) : Option Rs :=
  some (p5, m)
def Q70 (G : Gt) : Nat → Value → Value → Value → Value → Value → Mem → Option Rs
  | 0, _, _, _, _, _, _ => none
  | i + 1, p11, p10, p9, p5, p1, m =>
  bp (pur (bin .lss false true .int p11 p10) m) fun x0 m =>
  brb x0
    (bp (pur (aIndexAddrSl 2 p9 p11) m) fun x1 m =>
  bp (pur (aLoad true 2 x1 m) m) fun x2 m =>
  bp (some (aNew Q5b Qbf m)) fun x3 m =>
  bp (unt (aStore 2 x3 x2 m)) fun _ m =>
  bp (pur (aLoad true 2 x3 m) m) fun x4 m =>
  bp (evCall G.tab p1 [x4] m) fun x5 m =>
  bp (pur (aLookup .str (.int .i64 0) false p5 x5 m) m) fun x6 m =>
  bp (pur (bin .add true true .int x6 (.int .i64 1)) m) fun x7 m =>
  bp (unt (aMapUpdate .str p5 x5 x7 m)) fun _ m =>
  bp (pur (bin .add true true .int p11 (.int .i64 1)) m) fun x8 m =>
  (Q70 G i) x8 p10 p9 p5 p1 m)
    (Qct G p5 m)
def Qcu (G : Gt) (p11 p10 p9 p5 p1 : Value) (m : Mem) : Option Rs :=
  Q70 G G.rds p11 p10 p9 p5 p1 m
def Qcv (G : Gt) (p0 p5 p1 : Value) (m : Mem) : Option Rs :=
  bp (pur (lenK 1 p0 m) m) fun x9 m =>
  Qcu G (.int .i64 0) x9 p0 p5 p1 m
def Qcw (G : Gt) (p0 p1 : Value) (m : Mem) : Option Rs :=
  bp (some (aMakeMap m)) fun x10 m =>
  Qcv G p0 x10 p1 m
def Q7v (G : Gt) (p0 p1 : Value) (m : Mem) : Option Rs :=
  Qcw G p0 p1 m
theorem Qv9 (G : Gt) (a0 a1 : Value) (m : Mem) : evFn Go.Proofs.Tryz.prog G.tab G.rds (drOf Go.Proofs.Tryz.prog G.tab) Go.Proofs.Tryz.f198 [a0, a1] m = Q7v G a0 a1 m :=
  evFn_of (r := fun ρ m => Q7v G (ρ 0) (ρ 1) m) rfl rfl (tr (seqQ (f := fun ρ m => Qcw G (ρ 0) (ρ 1) m) (tr (seqQ (f := fun ρ m => Qcv G (ρ 0) (ρ 5) (ρ 1) m) (tr (tr (seqQ (f := fun ρ m => Qct G (ρ 5) m) (fun ρ m => by kernel_rfl)) (seqQ (f := fun ρ m => Qcu G (ρ 11) (ρ 10) (ρ 9) (ρ 5) (ρ 1) m) (tr (blockQ (loopQ (fun i ρ m => Q70 G i (ρ 11) (ρ 10) (ρ 9) (ρ 5) (ρ 1) m) (fun _ _ => rfl) (fun i0 => fun ρ m => by kernel_rfl))) (fun ρ m => by kernel_rfl)))) (fun ρ m => by kernel_rfl))) (fun ρ m => by kernel_rfl))) (fun ρ m => by kernel_rfl)) m
def Qv5 : Entry Go.Proofs.Tryz.prog := ⟨Qg1, Go.Proofs.Tryz.f198, Go.Proofs.Tryz.func198, by kernel_rfl, arg2 (fun G a0 a1 m => Q7v G a0 a1 m), okarg2 Qv9⟩
end
end Go.Ab.Sh
