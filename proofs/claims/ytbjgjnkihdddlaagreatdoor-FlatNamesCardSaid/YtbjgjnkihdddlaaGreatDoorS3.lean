/-
  Functions of the program as plain definitions, each with the theorem that it is what the evaluator makes of the code. No conditions.
-/
import Derived.Test.YtbjgjnkihdddlaaGreatDoorAb4
import Derived.Test.YtbjgjnkihdddlaaGreatDoorZ
import Derived.KernelRfl
import Derived.Test.YtbjgjnkihdddlaaGreatDoorProg
set_option linter.unusedVariables false
set_option maxRecDepth 100000
namespace Go.Ab.Sh
open Go Go.Ab
noncomputable section
def Qmu (G : Gt) (p0 : Value) (m : Mem) : Option Rs :=
  bp (pur (aNilCheck p0) m) fun x0 m =>
  bp (pur (aFieldAddr 0 x0) m) fun x1 m =>
  bp (G.tab Q60 [x1, (.int .u8 10)] m) fun x2 m =>
  some (.tuple ⟨[]⟩, m)
def Qb7 (G : Gt) (k0 : Value → Value → Value → Value → Value → Mem → Option Rs) (p16 p15 p14 p6 p0 : Value) (m : Mem) : Option Rs :=
  bp (pur (bin .add true true .int p16 (.int .i64 1)) m) fun x3 m =>
  k0 x3 p15 p14 p6 p0 m
def Qa2 (G : Gt) (k0 : Value → Value → Value → Value → Value → Mem → Option Rs) (p0 p8 p16 p15 p14 : Value) (m : Mem) : Option Rs :=
  bp (pur (aNilCheck p0) m) fun x4 m =>
  bp (pur (aFieldAddr 0 x4) m) fun x5 m =>
  bp (G.tab Q59 [x5, p8] m) fun x6 m =>
  Qb7 G k0 p16 p15 p14 (.bool false) p0 m
def Qmv (G : Gt) (k0 : Value → Value → Value → Value → Value → Mem → Option Rs) (p6 p0 p8 p16 p15 p14 : Value) (m : Mem) : Option Rs :=
  bp (pur (un .not p6) m) fun x7 m =>
  brb x7
    (bp (pur (aNilCheck p0) m) fun x8 m =>
  bp (pur (aFieldAddr 0 x8) m) fun x9 m =>
  bp (G.tab Q60 [x9, (.int .u8 32)] m) fun x10 m =>
  Qa2 G k0 p0 p8 p16 p15 p14 m)
    (Qa2 G k0 p0 p8 p16 p15 p14 m)
def Qmw (G : Gt) (k0 : Value → Value → Value → Value → Value → Mem → Option Rs) (p8 p16 p15 p14 p6 p0 : Value) (m : Mem) : Option Rs :=
  bp (pur (bin .eql true true .str p8 (.string ⟨#[]⟩)) m) fun x11 m =>
  brb x11
    (Qb7 G k0 p16 p15 p14 p6 p0 m)
    (Qmv G k0 p6 p0 p8 p16 p15 p14 m)
def Qmx (G : Gt) (k0 : Value → Value → Value → Value → Value → Mem → Option Rs) (p14 p16 p15 p6 p0 : Value) (m : Mem) : Option Rs :=
  bp (pur (aIndexAddrSl 1 p14 p16) m) fun x12 m =>
  bp (pur (aLoad false 1 x12 m) m) fun x13 m =>
  Qmw G k0 x13 p16 p15 p14 p6 p0 m
def Qmy (G : Gt) (k0 : Value → Value → Value → Value → Value → Mem → Option Rs) (p17 p14 p16 p15 p6 p0 : Value) (m : Mem) : Option Rs :=
  brb p17
    (Qmx G k0 p14 p16 p15 p6 p0 m)
    (Qmu G p0 m)
def Q17 (G : Gt) : Nat → Value → Value → Value → Value → Value → Mem → Option Rs
  | 0, _, _, _, _, _, _ => none
  | i + 1, p16, p15, p14, p6, p0, m =>
  bp (pur (bin .lss false true .int p16 p15) m) fun x14 m =>
  Qmy G (Q17 G i) x14 p14 p16 p15 p6 p0 m
def Qmz (G : Gt) (p16 p15 p14 p6 p0 : Value) (m : Mem) : Option Rs :=
  Q17 G G.rds p16 p15 p14 p6 p0 m
def Qn0 (G : Gt) (p2 p6 p0 : Value) (m : Mem) : Option Rs :=
  bp (pur (lenK 1 p2 m) m) fun x15 m =>
  Qmz G (.int .i64 0) x15 p2 p6 p0 m
def Qn1 (G : Gt) (p2 p0 : Value) (m : Mem) : Option Rs :=
  Qn0 G p2 (.bool true) p0 m
def Qeu (G : Gt) (p0 p1 p2 : Value) (m : Mem) : Option Rs :=
  bp (pur (aNilCheck p0) m) fun x16 m =>
  bp (pur (aFieldAddr 0 x16) m) fun x17 m =>
  bp (G.tab Q59 [x17, p1] m) fun x18 m =>
  Qn1 G p2 p0 m
theorem Q13u (G : Gt) (a0 a1 a2 : Value) (m : Mem) : evFn Go.Proofs.Tryz.prog G.tab G.rds (drOf Go.Proofs.Tryz.prog G.tab) Go.Proofs.Tryz.f16 [a0, a1, a2] m = Qeu G a0 a1 a2 m :=
  evFn_of (r := fun ρ m => Qeu G (ρ 0) (ρ 1) (ρ 2) m) rfl rfl (tr (seqQ (f := fun ρ m => Qn1 G (ρ 2) (ρ 0) m) (tr (seqQ (f := fun ρ m => Qn0 G (ρ 2) (ρ 6) (ρ 0) m) (tr (tr (seqQ (f := fun ρ m => Qmu G (ρ 0) m) (fun ρ m => by kernel_rfl)) (seqQ (f := fun ρ m => Qmz G (ρ 16) (ρ 15) (ρ 14) (ρ 6) (ρ 0) m) (tr (blockQ (loopQ (fun i ρ m => Q17 G i (ρ 16) (ρ 15) (ρ 14) (ρ 6) (ρ 0) m) (fun _ _ => rfl) (fun i0 => tr (seqQ (f := fun ρ m => Qmy G (Q17 G i0) (ρ 17) (ρ 14) (ρ 16) (ρ 15) (ρ 6) (ρ 0) m) (tr (seqQ (f := fun ρ m => Qmx G (Q17 G i0) (ρ 14) (ρ 16) (ρ 15) (ρ 6) (ρ 0) m) (tr (tr (seqQ (f := fun ρ m => Qb7 G (Q17 G i0) (ρ 16) (ρ 15) (ρ 14) (ρ 6) (ρ 0) m) (fun ρ m => by kernel_rfl)) (blockQ (seqQ (f := fun ρ m => Qmw G (Q17 G i0) (ρ 8) (ρ 16) (ρ 15) (ρ 14) (ρ 6) (ρ 0) m) (tr (seqQ (f := fun ρ m => Qmv G (Q17 G i0) (ρ 6) (ρ 0) (ρ 8) (ρ 16) (ρ 15) (ρ 14) m) (tr (seqQ (f := fun ρ m => Qa2 G (Q17 G i0) (ρ 0) (ρ 8) (ρ 16) (ρ 15) (ρ 14) m) (fun ρ m => by kernel_rfl)) (fun ρ m => by kernel_rfl))) (fun ρ m => by kernel_rfl))))) (fun ρ m => by kernel_rfl))) (fun ρ m => by kernel_rfl))) (fun ρ m => by kernel_rfl)))) (fun ρ m => by kernel_rfl)))) (fun ρ m => by kernel_rfl))) (fun ρ m => by kernel_rfl))) (fun ρ m => by kernel_rfl)) m
def Q13v : Entry Go.Proofs.Tryz.prog := ⟨Q7, Go.Proofs.Tryz.f16, Go.Proofs.Tryz.func16, by kernel_rfl, arg3 (fun G a0 a1 a2 m => Qeu G a0 a1 a2 m), okarg3 Q13u⟩
def Qa3 (G : Gt) (k0 : Value → Value → Value → Value → Mem → Option Rs) (p77 p76 p75 p0 : Value) (m : Mem) : Option Rs :=
  bp (pur (bin .add true true .int p77 (.int .i64 1)) m) fun x0 m =>
  k0 x0 p76 p75 p0 m
def Qkb (G : Gt) (k0 : Value → Value → Value → Value → Mem → Option Rs) (p75 p77 p0 p76 : Value) (m : Mem) : Option Rs :=
  bp (pur (aIndexAddrSl 2 p75 p77) m) fun x1 m =>
  bp (pur (aLoad true 2 x1 m) m) fun x2 m =>
  bp (some (aNew Qw Q1 m)) fun x3 m =>
  bp (unt (aStore 2 x3 x2 m)) fun _ m =>
  bp (pur (aFieldAddr 0 x3) m) fun x4 m =>
  bp (pur (aLoad false 1 x4 m) m) fun x5 m =>
  brb x5
    (bp (pur (aFieldAddr 1 x3) m) fun x6 m =>
  bp (pur (aLoad false 1 x6 m) m) fun x7 m =>
  bp (aBuildSlice Q2 [(.string ⟨#[]⟩)] 1 1 [(0, x7)] m) fun x8 m =>
  bp (G.tab Q7 [p0, (.string ⟨#[32]⟩), x8] m) fun x9 m =>
  Qa3 G k0 p77 p76 p75 p0 m)
    (Qa3 G k0 p77 p76 p75 p0 m)
def Qkc (G : Gt) (k0 : Value → Value → Value → Value → Mem → Option Rs) (p78 p75 p77 p0 p76 : Value) (m : Mem) : Option Rs :=
  brb p78
    (Qkb G k0 p75 p77 p0 p76 m)
    (some (.tuple ⟨[]⟩, m))
def Q2z (G : Gt) : Nat → Value → Value → Value → Value → Mem → Option Rs
  | 0, _, _, _, _, _ => none
  | i + 1, p77, p76, p75, p0, m =>
  bp (pur (bin .lss false true .int p77 p76) m) fun x10 m =>
  Qkc G (Q2z G i) x10 p75 p77 p0 p76 m
def Qkd (G : Gt) (p77 p76 p75 p0 : Value) (m : Mem) : Option Rs :=
  Q2z G G.rds p77 p76 p75 p0 m
def Qke (G : Gt) (p3 p0 : Value) (m : Mem) : Option Rs :=
  bp (pur (aFieldAddr 1 p3) m) fun x11 m =>
  bp (pur (aLoad false 1 x11 m) m) fun x12 m =>
  bp (pur (bin .neq true true .str x12 (.string ⟨#[]⟩)) m) fun x13 m =>
  bp (pur (aFieldAddr 1 p3) m) fun x14 m =>
  bp (pur (aLoad false 1 x14 m) m) fun x15 m =>
  bp (pur (bin .add true true .str (.string ⟨#[118, 114, 102, 32]⟩) x15) m) fun x16 m =>
  bp (pur (aBuild Q1 [(0, 1), (1, 1)] [(0, x13), (1, x16)]) m) fun x17 m =>
  bp (pur (aFieldAddr 3 p3) m) fun x18 m =>
  bp (pur (aLoad false 1 x18 m) m) fun x19 m =>
  bp (pur (bin .gtr true true .int x19 (.int .i64 0)) m) fun x20 m =>
  bp (pur (aFieldAddr 2 p3) m) fun x21 m =>
  bp (pur (aLoad false 1 x21 m) m) fun x22 m =>
  bp (pur (aFieldAddr 3 p3) m) fun x23 m =>
  bp (pur (aLoad false 1 x23 m) m) fun x24 m =>
  bp (pur (aFieldAddr 5 p3) m) fun x25 m =>
  bp (pur (aLoad false 1 x25 m) m) fun x26 m =>
  bp (pur (bin .neq true true .str x26 (.string ⟨#[]⟩)) m) fun x27 m =>
  bp (pur (aFieldAddr 5 p3) m) fun x28 m =>
  bp (pur (aLoad false 1 x28 m) m) fun x29 m =>
  bp (pur (bin .add true true .str (.string ⟨#[102, 105, 108, 116, 101, 114, 32]⟩) x29) m) fun x30 m =>
  bp (pur (bin .add true true .str x30 (.string ⟨#[32, 105, 110]⟩)) m) fun x31 m =>
  bp (pur (aBuild Q1 [(0, 1), (1, 1)] [(0, x27), (1, x31)]) m) fun x32 m =>
  bp (pur (aFieldAddr 6 p3) m) fun x33 m =>
  bp (pur (aLoad false 1 x33 m) m) fun x34 m =>
  bp (pur (bin .neq true true .str x34 (.string ⟨#[]⟩)) m) fun x35 m =>
  bp (pur (aFieldAddr 6 p3) m) fun x36 m =>
  bp (pur (aLoad false 1 x36 m) m) fun x37 m =>
  bp (pur (bin .add true true .str (.string ⟨#[102, 105, 108, 116, 101, 114, 32]⟩) x37) m) fun x38 m =>
  bp (pur (bin .add true true .str x38 (.string ⟨#[32, 111, 117, 116]⟩)) m) fun x39 m =>
  bp (pur (aBuild Q1 [(0, 1), (1, 1)] [(0, x35), (1, x39)]) m) fun x40 m =>
  bp (pur (aFieldAddr 7 p3) m) fun x41 m =>
  bp (pur (aLoad false 1 x41 m) m) fun x42 m =>
  bp (pur (bin .neq true true .int x42 (.int .u8 0)) m) fun x43 m =>
  bp (pur (aFieldAddr 7 p3) m) fun x44 m =>
  bp (pur (aLoad false 1 x44 m) m) fun x45 m =>
  bp (pur (bin .eql true true .int x45 (.int .u8 1)) m) fun x46 m =>
  bp (pur (aFieldAddr 8 p3) m) fun x47 m =>
  bp (pur (aLoad false 1 x47 m) m) fun x48 m =>
  bp (pur (bin .geq true true .int x48 (.int .i64 0)) m) fun x49 m =>
  bp (pur (aFieldAddr 8 p3) m) fun x50 m =>
  bp (pur (aLoad false 1 x50 m) m) fun x51 m =>
  bp (pur (aFieldAddr 9 p3) m) fun x52 m =>
  bp (pur (aLoad false 1 x52 m) m) fun x53 m =>
  bp (pur (aFieldAddr 10 p3) m) fun x54 m =>
  bp (pur (aLoad false 1 x54 m) m) fun x55 m =>
  bp (pur (aBuild Q1 [(0, 1), (1, 1)] [(0, x55), (1, (.string ⟨#[111, 115, 112, 102, 32, 112, 97, 115, 115, 105, 118, 101]⟩))]) m) fun x56 m =>
  bp (pur (aFieldAddr 4 p3) m) fun x57 m =>
  bp (pur (aLoad false 1 x57 m) m) fun x58 m =>
  bp (pur (aBuild Q1 [(0, 1), (1, 1)] [(0, x58), (1, (.string ⟨#[115, 104, 117, 116, 100, 111, 119, 110]⟩))]) m) fun x59 m =>
  bp (G.tab Q1t [x22] m) fun x60 m =>
  ckB (again (pur (aLoad false 1 x11 m) m) x12 && (again (pur (aLoad false 1 x14 m) m) x15 && (again (pur (aLoad false 1 x18 m) m) x19 && (again (pur (aLoad false 1 x23 m) m) x24 && (again (pur (aLoad false 1 x25 m) m) x26 && (again (pur (aLoad false 1 x28 m) m) x29 && (again (pur (aLoad false 1 x33 m) m) x34 && (again (pur (aLoad false 1 x36 m) m) x37 && (again (pur (aLoad false 1 x41 m) m) x42 && (again (pur (aLoad false 1 x44 m) m) x45 && (again (pur (aLoad false 1 x47 m) m) x48 && (again (pur (aLoad false 1 x50 m) m) x51 && (again (pur (aLoad false 1 x52 m) m) x53 && (again (pur (aLoad false 1 x54 m) m) x55 && (again (pur (aLoad false 1 x57 m) m) x58 && true)))))))))))))))
    (bp (pur (bin .add true true .str (.string ⟨#[97, 100, 100, 114, 101, 115, 115, 32]⟩) x60) m) fun x61 m =>
  bp (pur (bin .add true true .str x61 (.string ⟨#[32]⟩)) m) fun x62 m =>
  bp (G.tab Qkf [x24, (.bool false)] m) fun x63 m =>
  ckB (again (pur (aLoad false 1 x11 m) m) x12 && (again (pur (aLoad false 1 x14 m) m) x15 && (again (pur (aLoad false 1 x18 m) m) x19 && (again (pur (aLoad false 1 x25 m) m) x26 && (again (pur (aLoad false 1 x28 m) m) x29 && (again (pur (aLoad false 1 x33 m) m) x34 && (again (pur (aLoad false 1 x36 m) m) x37 && (again (pur (aLoad false 1 x41 m) m) x42 && (again (pur (aLoad false 1 x44 m) m) x45 && (again (pur (aLoad false 1 x47 m) m) x48 && (again (pur (aLoad false 1 x50 m) m) x51 && (again (pur (aLoad false 1 x52 m) m) x53 && (again (pur (aLoad false 1 x54 m) m) x55 && (again (pur (aLoad false 1 x57 m) m) x58 && true))))))))))))))
    (bp (pur (bin .add false true .str x62 x63) m) fun x64 m =>
  bp (pur (aBuild Q1 [(0, 1), (1, 1)] [(0, x20), (1, x64)]) m) fun x65 m =>
  bp (G.tab Q9x [x46, (.string ⟨#[105, 110, 115, 105, 100, 101]⟩), (.string ⟨#[111, 117, 116, 115, 105, 100, 101]⟩)] m) fun x66 m =>
  ckB (again (pur (aLoad false 1 x11 m) m) x12 && (again (pur (aLoad false 1 x14 m) m) x15 && (again (pur (aLoad false 1 x18 m) m) x19 && (again (pur (aLoad false 1 x25 m) m) x26 && (again (pur (aLoad false 1 x28 m) m) x29 && (again (pur (aLoad false 1 x33 m) m) x34 && (again (pur (aLoad false 1 x36 m) m) x37 && (again (pur (aLoad false 1 x41 m) m) x42 && (again (pur (aLoad false 1 x47 m) m) x48 && (again (pur (aLoad false 1 x50 m) m) x51 && (again (pur (aLoad false 1 x52 m) m) x53 && (again (pur (aLoad false 1 x54 m) m) x55 && (again (pur (aLoad false 1 x57 m) m) x58 && true)))))))))))))
    (bp (pur (bin .add true true .str (.string ⟨#[110, 97, 116, 32]⟩) x66) m) fun x67 m =>
  bp (pur (aBuild Q1 [(0, 1), (1, 1)] [(0, x43), (1, x67)]) m) fun x68 m =>
  bp (G.tab Qe [x51] m) fun x69 m =>
  ckB (again (pur (aLoad false 1 x11 m) m) x12 && (again (pur (aLoad false 1 x14 m) m) x15 && (again (pur (aLoad false 1 x18 m) m) x19 && (again (pur (aLoad false 1 x25 m) m) x26 && (again (pur (aLoad false 1 x28 m) m) x29 && (again (pur (aLoad false 1 x33 m) m) x34 && (again (pur (aLoad false 1 x36 m) m) x37 && (again (pur (aLoad false 1 x41 m) m) x42 && (again (pur (aLoad false 1 x47 m) m) x48 && (again (pur (aLoad false 1 x52 m) m) x53 && (again (pur (aLoad false 1 x54 m) m) x55 && (again (pur (aLoad false 1 x57 m) m) x58 && true))))))))))))
    (bp (pur (bin .add true true .str (.string ⟨#[111, 115, 112, 102, 32, 97, 114, 101, 97, 32]⟩) x69) m) fun x70 m =>
  bp (pur (aBuild Q1 [(0, 1), (1, 1)] [(0, x49), (1, x70)]) m) fun x71 m =>
  bp (G.tab Qe [x53] m) fun x72 m =>
  ckB (again (pur (aLoad false 1 x11 m) m) x12 && (again (pur (aLoad false 1 x14 m) m) x15 && (again (pur (aLoad false 1 x18 m) m) x19 && (again (pur (aLoad false 1 x25 m) m) x26 && (again (pur (aLoad false 1 x28 m) m) x29 && (again (pur (aLoad false 1 x33 m) m) x34 && (again (pur (aLoad false 1 x36 m) m) x37 && (again (pur (aLoad false 1 x41 m) m) x42 && (again (pur (aLoad false 1 x47 m) m) x48 && (again (pur (aLoad false 1 x54 m) m) x55 && (again (pur (aLoad false 1 x57 m) m) x58 && true)))))))))))
    (bp (pur (bin .add true true .str (.string ⟨#[111, 115, 112, 102, 32, 99, 111, 115, 116, 32]⟩) x72) m) fun x73 m =>
  bp (pur (aBuild Q1 [(0, 1), (1, 1)] [(0, (.bool true)), (1, x73)]) m) fun x74 m =>
  bp (aBuildSlice Qw Q1 2 9 [(0, x17), (1, x65), (2, x32), (3, x40), (4, x68), (5, x71), (6, x74), (7, x56), (8, x59)] m) fun x75 m =>
  bp (pur (lenK 1 x75 m) m) fun x76 m =>
  Qkd G (.int .i64 0) x76 x75 p0 m)))))
def Qkg (G : Gt) (p0 p3 : Value) (m : Mem) : Option Rs :=
  bp (pur (aFieldAddr 0 p3) m) fun x77 m =>
  bp (pur (aLoad false 1 x77 m) m) fun x78 m =>
  bp (aBuildSlice Q2 [(.string ⟨#[]⟩)] 1 2 [(0, (.string ⟨#[105, 110, 116, 101, 114, 102, 97, 99, 101]⟩)), (1, x78)] m) fun x79 m =>
  bp (G.tab Q7 [p0, (.string ⟨#[]⟩), x79] m) fun x80 m =>
  Qke G p3 p0 m
def Qd5 (G : Gt) (p1 p0 : Value) (m : Mem) : Option Rs :=
  bp (some (aNew Q85 (Value.cells p1).toList m)) fun x81 m =>
  Qkg G p0 x81 m
theorem Q11o (G : Gt) (a0 a1 : Value) (m : Mem) : evFn Go.Proofs.Tryz.prog G.tab G.rds (drOf Go.Proofs.Tryz.prog G.tab) Go.Proofs.Tryz.f17 [a0, a1] m = Qd5 G a1 a0 m :=
  evFn_of (r := fun ρ m => Qd5 G (ρ 1) (ρ 0) m) rfl rfl (tr (seqQ (f := fun ρ m => Qkg G (ρ 0) (ρ 3) m) (tr (seqQ (f := fun ρ m => Qke G (ρ 3) (ρ 0) m) (tr (seqQ (f := fun ρ m => Qkd G (ρ 77) (ρ 76) (ρ 75) (ρ 0) m) (tr (blockQ (loopQ (fun i ρ m => Q2z G i (ρ 77) (ρ 76) (ρ 75) (ρ 0) m) (fun _ _ => rfl) (fun i0 => tr (seqQ (f := fun ρ m => Qkc G (Q2z G i0) (ρ 78) (ρ 75) (ρ 77) (ρ 0) (ρ 76) m) (tr (seqQ (f := fun ρ m => Qkb G (Q2z G i0) (ρ 75) (ρ 77) (ρ 0) (ρ 76) m) (tr (seqQ (f := fun ρ m => Qa3 G (Q2z G i0) (ρ 77) (ρ 76) (ρ 75) (ρ 0) m) (fun ρ m => by kernel_rfl)) (fun ρ m => by kernel_rfl))) (fun ρ m => by kernel_rfl))) (fun ρ m => by kernel_rfl)))) (fun ρ m => by kernel_rfl))) (fun ρ m => by kernel_rfl))) (fun ρ m => by kernel_rfl))) (fun ρ m => by kernel_rfl)) m
def Q11p : Entry Go.Proofs.Tryz.prog := ⟨Qoa, Go.Proofs.Tryz.f17, Go.Proofs.Tryz.func17, by kernel_rfl, arg2 (fun G a0 a1 m => Qd5 G a1 a0 m), okarg2 Q11o⟩
def Qev (G : Gt) (p1 p0 : Value) (m : Mem) : Option Rs :=
  bp (some (aNew Q7n (Value.cells p1).toList m)) fun x0 m =>
  bp (pur (aFieldAddr 0 x0) m) fun x1 m =>
  bp (pur (aLoad false 1 x1 m) m) fun x2 m =>
  bp (pur (aFieldAddr 1 x0) m) fun x3 m =>
  bp (pur (aLoad false 1 x3 m) m) fun x4 m =>
  bp (pur (bin .lss true true .int x4 (.int .i64 0)) m) fun x5 m =>
  bp (pur (aFieldAddr 1 x0) m) fun x6 m =>
  bp (pur (aLoad false 1 x6 m) m) fun x7 m =>
  bp (pur (aFieldAddr 2 x0) m) fun x8 m =>
  bp (pur (aLoad true 2 x8 m) m) fun x9 m =>
  bp (pur (aFieldAddr 6 x0) m) fun x10 m =>
  bp (pur (aLoad true 2 x10 m) m) fun x11 m =>
  bp (pur (aFieldAddr 4 x0) m) fun x12 m =>
  bp (pur (aLoad true 2 x12 m) m) fun x13 m =>
  bp (pur (aFieldAddr 8 x0) m) fun x14 m =>
  bp (pur (aLoad true 2 x14 m) m) fun x15 m =>
  bp (G.tab Q9x [x2, (.string ⟨#[112, 101, 114, 109, 105, 116]⟩), (.string ⟨#[100, 101, 110, 121]⟩)] m) fun x16 m =>
  ckB (again (pur (aLoad false 1 x3 m) m) x4 && (again (pur (aLoad false 1 x6 m) m) x7 && (again (pur (aLoad true 2 x8 m) m) x9 && (again (pur (aLoad true 2 x10 m) m) x11 && (again (pur (aLoad true 2 x12 m) m) x13 && (again (pur (aLoad true 2 x14 m) m) x15 && true))))))
    (bp (G.tab Qe [x7] m) fun x17 m =>
  ckB (again (pur (aLoad false 1 x3 m) m) x4 && (again (pur (aLoad true 2 x8 m) m) x9 && (again (pur (aLoad true 2 x10 m) m) x11 && (again (pur (aLoad true 2 x12 m) m) x13 && (again (pur (aLoad true 2 x14 m) m) x15 && true)))))
    (bp (G.tab Q9x [x5, (.string ⟨#[97, 110, 121]⟩), x17] m) fun x18 m =>
  ckB (again (pur (aLoad true 2 x8 m) m) x9 && (again (pur (aLoad true 2 x10 m) m) x11 && (again (pur (aLoad true 2 x12 m) m) x13 && (again (pur (aLoad true 2 x14 m) m) x15 && true))))
    (bp (G.tab Qyf [x9] m) fun x19 m =>
  ckB (again (pur (aLoad true 2 x10 m) m) x11 && (again (pur (aLoad true 2 x12 m) m) x13 && (again (pur (aLoad true 2 x14 m) m) x15 && true)))
    (bp (G.tab Qgj [x11] m) fun x20 m =>
  ckB (again (pur (aLoad true 2 x12 m) m) x13 && (again (pur (aLoad true 2 x14 m) m) x15 && true))
    (bp (G.tab Qyf [x13] m) fun x21 m =>
  ckB (again (pur (aLoad true 2 x14 m) m) x15 && true)
    (bp (G.tab Qgj [x15] m) fun x22 m =>
  bp (aBuildSlice Q2 [(.string ⟨#[]⟩)] 1 6 [(0, x16), (1, x18), (2, x19), (3, x20), (4, x21), (5, x22)] m) fun x23 m =>
  bp (G.tab Q7 [p0, (.string ⟨#[32]⟩), x23] m) fun x24 m =>
  some (.tuple ⟨[]⟩, m)))))))
theorem Q13w (G : Gt) (a0 a1 : Value) (m : Mem) : evFn Go.Proofs.Tryz.prog G.tab G.rds (drOf Go.Proofs.Tryz.prog G.tab) Go.Proofs.Tryz.f18 [a0, a1] m = Qev G a1 a0 m :=
  evFn_of (r := fun ρ m => Qev G (ρ 1) (ρ 0) m) rfl rfl (fun ρ m => by kernel_rfl) m
def Q13x : Entry Go.Proofs.Tryz.prog := ⟨Qqq, Go.Proofs.Tryz.f18, Go.Proofs.Tryz.func18, by kernel_rfl, arg2 (fun G a0 a1 m => Qev G a1 a0 m), okarg2 Q13w⟩
def Q11q (G : Gt) (p0 p1 p2 : Value) (m : Mem) : Option Rs :=
  brb p0
    (some (p1, m))
    (some (p2, m))
theorem Q1dl (G : Gt) (a0 a1 a2 : Value) (m : Mem) : evFn Go.Proofs.Tryz.prog G.tab G.rds (drOf Go.Proofs.Tryz.prog G.tab) Go.Proofs.Tryz.f19 [a0, a1, a2] m = Q11q G a0 a1 a2 m :=
  evFn_of (r := fun ρ m => Q11q G (ρ 0) (ρ 1) (ρ 2) m) rfl rfl (fun ρ m => by kernel_rfl) m
def Q1dm : Entry Go.Proofs.Tryz.prog := ⟨Q9x, Go.Proofs.Tryz.f19, Go.Proofs.Tryz.func19, by kernel_rfl, arg3 (fun G a0 a1 a2 m => Q11q G a0 a1 a2 m), okarg3 Q1dl⟩
def Q12g (G : Gt) (p3 : Value) (m : Mem) : Option Rs :=
  bp (pur (aSliceArr 4 1 p3 none none m) m) fun x0 m =>
  bp (G.tab Q61 [x0, (.string ⟨#[46]⟩)] m) fun x1 m =>
  some (x1, m)
def Qte (G : Gt) : Nat → Value → Value → Value → Mem → Option Rs
  | 0, _, _, _, _ => none
  | i + 1, p5, p0, p3, m =>
  bp (pur (bin .lss true true .int p5 (.int .i64 4)) m) fun x2 m =>
  brb x2
    (bp (pur (bin .mul true true .int (.int .i64 8) p5) m) fun x3 m =>
  bp (pur (bin .sub true true .int (.int .i64 24) x3) m) fun x4 m =>
  bp (pur (bin .shr false true .int p0 x4) m) fun x5 m =>
  bp (pur (bin .and true true .int x5 (.int .u32 255)) m) fun x6 m =>
  bp (conv (.int .i64) x6 m) fun x7 m =>
  bp (G.tab Q26 [x7] m) fun x8 m =>
  bp (pur (aIndexAddrArr 4 1 p3 p5) m) fun x9 m =>
  bp (unt (aStore 1 x9 x8 m)) fun _ m =>
  bp (pur (bin .add true true .int p5 (.int .i64 1)) m) fun x10 m =>
  (Qte G i) x10 p0 p3 m)
    (Q12g G p3 m)
def Q12h (G : Gt) (p5 p0 p3 : Value) (m : Mem) : Option Rs :=
  Qte G G.rds p5 p0 p3 m
def Q12i (G : Gt) (p0 p3 : Value) (m : Mem) : Option Rs :=
  Q12h G (.int .i64 0) p0 p3 m
def Q12j (G : Gt) (p0 : Value) (m : Mem) : Option Rs :=
  bp (some (aNew Q1ck Q1cl m)) fun x11 m =>
  Q12i G p0 x11 m
def Qyg (G : Gt) (p0 : Value) (m : Mem) : Option Rs :=
  Q12j G p0 m
theorem Q1cm (G : Gt) (a0 : Value) (m : Mem) : evFn Go.Proofs.Tryz.prog G.tab G.rds (drOf Go.Proofs.Tryz.prog G.tab) Go.Proofs.Tryz.f20 [a0] m = Qyg G a0 m :=
  evFn_of (r := fun ρ m => Qyg G (ρ 0) m) rfl rfl (tr (seqQ (f := fun ρ m => Q12j G (ρ 0) m) (tr (seqQ (f := fun ρ m => Q12i G (ρ 0) (ρ 3) m) (tr (tr (seqQ (f := fun ρ m => Q12g G (ρ 3) m) (fun ρ m => by kernel_rfl)) (seqQ (f := fun ρ m => Q12h G (ρ 5) (ρ 0) (ρ 3) m) (tr (blockQ (loopQ (fun i ρ m => Qte G i (ρ 5) (ρ 0) (ρ 3) m) (fun _ _ => rfl) (fun i0 => fun ρ m => by kernel_rfl))) (fun ρ m => by kernel_rfl)))) (fun ρ m => by kernel_rfl))) (fun ρ m => by kernel_rfl))) (fun ρ m => by kernel_rfl)) m
def Q1cn : Entry Go.Proofs.Tryz.prog := ⟨Q1t, Go.Proofs.Tryz.f20, Go.Proofs.Tryz.func20, by kernel_rfl, arg1 (fun G a0 m => Qyg G a0 m), okarg1 Q1cm⟩
def Q11r (G : Gt) (p0 p1 : Value) (m : Mem) : Option Rs :=
  bp (pur (un .not p0) m) fun x0 m =>
  brb x0
    (some ((.string ⟨#[]⟩), m))
    (bp (G.tab Q61 [p1, (.string ⟨#[32]⟩)] m) fun x1 m =>
  some (x1, m))
theorem Q1dn (G : Gt) (a0 a1 : Value) (m : Mem) : evFn Go.Proofs.Tryz.prog G.tab G.rds (drOf Go.Proofs.Tryz.prog G.tab) Go.Proofs.Tryz.f21 [a0, a1] m = Q11r G a0 a1 m :=
  evFn_of (r := fun ρ m => Q11r G (ρ 0) (ρ 1) m) rfl rfl (fun ρ m => by kernel_rfl) m
def Q1do : Entry Go.Proofs.Tryz.prog := ⟨Q6o, Go.Proofs.Tryz.f21, Go.Proofs.Tryz.func21, by kernel_rfl, arg2 (fun G a0 a1 m => Q11r G a0 a1 m), okarg2 Q1dn⟩
def Qtf (G : Gt) (p5 : Value) (m : Mem) : Option Rs :=
  bp (G.tab Q1t [p5] m) fun x0 m =>
  some (x0, m)
def Q12k (G : Gt) (p1 p5 : Value) (m : Mem) : Option Rs :=
  brb p1
    (bp (pur (un .xor p5) m) fun x1 m =>
  Qtf G x1 m)
    (Qtf G p5 m)
def Q12l (G : Gt) (p0 p1 : Value) (m : Mem) : Option Rs :=
  bp (G.tab Q186 [p0] m) fun x2 m =>
  bp (pur (aExtract x2 0) m) fun x3 m =>
  bp (pur (aExtract x2 1) m) fun x4 m =>
  Q12k G p1 x3 m
def Qyh (G : Gt) (p0 p1 : Value) (m : Mem) : Option Rs :=
  Q12l G p0 p1 m
theorem Q1co (G : Gt) (a0 a1 : Value) (m : Mem) : evFn Go.Proofs.Tryz.prog G.tab G.rds (drOf Go.Proofs.Tryz.prog G.tab) Go.Proofs.Tryz.f22 [a0, a1] m = Qyh G a0 a1 m :=
  evFn_of (r := fun ρ m => Qyh G (ρ 0) (ρ 1) m) rfl rfl (tr (seqQ (f := fun ρ m => Q12l G (ρ 0) (ρ 1) m) (tr (seqQ (f := fun ρ m => Q12k G (ρ 1) (ρ 5) m) (tr (seqQ (f := fun ρ m => Qtf G (ρ 5) m) (fun ρ m => by kernel_rfl)) (fun ρ m => by kernel_rfl))) (fun ρ m => by kernel_rfl))) (fun ρ m => by kernel_rfl)) m
def Q1cp : Entry Go.Proofs.Tryz.prog := ⟨Qkf, Go.Proofs.Tryz.f22, Go.Proofs.Tryz.func22, by kernel_rfl, arg2 (fun G a0 a1 m => Qyh G a0 a1 m), okarg2 Q1co⟩
def Qtg (G : Gt) (p0 : Value) (m : Mem) : Option Rs :=
  bp (G.tab Q26 [p0] m) fun x0 m =>
  some (x0, m)
theorem Q1ae (G : Gt) (a0 : Value) (m : Mem) : evFn Go.Proofs.Tryz.prog G.tab G.rds (drOf Go.Proofs.Tryz.prog G.tab) Go.Proofs.Tryz.f23 [a0] m = Qtg G a0 m :=
  evFn_of (r := fun ρ m => Qtg G (ρ 0) m) rfl rfl (fun ρ m => by kernel_rfl) m
def Q1af : Entry Go.Proofs.Tryz.prog := ⟨Qe, Go.Proofs.Tryz.f23, Go.Proofs.Tryz.func23, by kernel_rfl, arg1 (fun G a0 m => Qtg G a0 m), okarg1 Q1ae⟩
end
end Go.Ab.Sh

set_option linter.unusedVariables false
set_option maxRecDepth 100000
namespace Go.Ab.Sh
open Go Go.Ab
noncomputable section
def Qkh (G : Gt) (k0 : Value → Value → Value → Value → Mem → Option Rs) (p48 p47 p46 p0 : Value) (m : Mem) : Option Rs :=
  bp (pur (bin .add true true .int p48 (.int .i64 1)) m) fun x0 m =>
  k0 x0 p47 p46 p0 m
def Qa4 (G : Gt) (k0 : Value → Value → Value → Value → Mem → Option Rs) : Nat → Value → Value → Value → Value → Value → Value → Value → Value → Mem → Option Rs
  | 0, _, _, _, _, _, _, _, _, _ => none
  | i + 1, p55, p54, p53, p0, p9, p48, p47, p46, m =>
  bp (pur (bin .lss false true .int p55 p54) m) fun x1 m =>
  brb x1
    (bp (pur (aIndexAddrSl 2 p53 p55) m) fun x2 m =>
  bp (pur (aLoad true 2 x2 m) m) fun x3 m =>
  bp (some (aNew Qb8 Qgk m)) fun x4 m =>
  bp (unt (aStore 2 x4 x3 m)) fun _ m =>
  bp (pur (aFieldAddr 0 p9) m) fun x5 m =>
  bp (pur (aLoad false 1 x5 m) m) fun x6 m =>
  bp (pur (aFieldAddr 0 x4) m) fun x7 m =>
  bp (pur (aLoad false 1 x7 m) m) fun x8 m =>
  bp (pur (aFieldAddr 1 x4) m) fun x9 m =>
  bp (pur (aLoad false 1 x9 m) m) fun x10 m =>
  bp (G.tab Q9x [x8, (.string ⟨#[112, 101, 114, 109, 105, 116]⟩), (.string ⟨#[100, 101, 110, 121]⟩)] m) fun x11 m =>
  ckB (again (pur (aLoad false 1 x5 m) m) x6 && (again (pur (aLoad false 1 x9 m) m) x10 && true))
    (bp (G.tab Qvf [x10] m) fun x12 m =>
  ckB (again (pur (aLoad false 1 x5 m) m) x6 && true)
    (bp (aBuildSlice Q2 [(.string ⟨#[]⟩)] 1 4 [(0, (.string ⟨#[105, 112, 32, 99, 111, 109, 109, 117, 110, 105, 116, 121, 45, 108, 105, 115, 116]⟩)), (1, x6), (2, x11), (3, x12)] m) fun x13 m =>
  bp (G.tab Q7 [p0, (.string ⟨#[]⟩), x13] m) fun x14 m =>
  bp (pur (bin .add true true .int p55 (.int .i64 1)) m) fun x15 m =>
  (Qa4 G k0 i) x15 p54 p53 p0 p9 p48 p47 p46 m)))
    (Qkh G k0 p48 p47 p46 p0 m)
def Qki (G : Gt) (k0 : Value → Value → Value → Value → Mem → Option Rs) (p55 p54 p53 p0 p9 p48 p47 p46 : Value) (m : Mem) : Option Rs :=
  Qa4 G k0 G.rds p55 p54 p53 p0 p9 p48 p47 p46 m
def Qkj (G : Gt) (k0 : Value → Value → Value → Value → Mem → Option Rs) (p9 p0 p48 p47 p46 : Value) (m : Mem) : Option Rs :=
  bp (pur (aFieldAddr 1 p9) m) fun x16 m =>
  bp (pur (aLoad false 1 x16 m) m) fun x17 m =>
  bp (pur (lenK 1 x17 m) m) fun x18 m =>
  Qki G k0 (.int .i64 0) x18 x17 p0 p9 p48 p47 p46 m
def Qkk (G : Gt) (k0 : Value → Value → Value → Value → Mem → Option Rs) (p46 p48 p0 p47 : Value) (m : Mem) : Option Rs :=
  bp (pur (aIndexAddrSl 2 p46 p48) m) fun x19 m =>
  bp (pur (aLoad true 2 x19 m) m) fun x20 m =>
  bp (some (aNew Q24 Q3y m)) fun x21 m =>
  bp (unt (aStore 2 x21 x20 m)) fun _ m =>
  Qkj G k0 x21 p0 p48 p47 p46 m
def Qkl (G : Gt) (k0 : Value → Value → Value → Value → Mem → Option Rs) (p49 p46 p48 p0 p47 : Value) (m : Mem) : Option Rs :=
  brb p49
    (Qkk G k0 p46 p48 p0 p47 m)
    (some (.tuple ⟨[]⟩, m))
def Q13 (G : Gt) : Nat → Value → Value → Value → Value → Mem → Option Rs
  | 0, _, _, _, _, _ => none
  | i + 1, p48, p47, p46, p0, m =>
  bp (pur (bin .lss false true .int p48 p47) m) fun x22 m =>
  Qkl G (Q13 G i) x22 p46 p48 p0 p47 m
def Qkm (G : Gt) (p48 p47 p46 p0 : Value) (m : Mem) : Option Rs :=
  Q13 G G.rds p48 p47 p46 p0 m
def Qkn (G : Gt) (p3 p0 : Value) (m : Mem) : Option Rs :=
  bp (pur (aFieldAddr 8 p3) m) fun x23 m =>
  bp (pur (aLoad false 1 x23 m) m) fun x24 m =>
  bp (pur (lenK 1 x24 m) m) fun x25 m =>
  Qkm G (.int .i64 0) x25 x24 p0 m
def Qie (G : Gt) (k0 : Value → Value → Value → Value → Value → Mem → Option Rs) (p15 p14 p13 p0 p3 : Value) (m : Mem) : Option Rs :=
  bp (pur (bin .add true true .int p15 (.int .i64 1)) m) fun x26 m =>
  k0 x26 p14 p13 p0 p3 m
def Q98 (G : Gt) (k0 : Value → Value → Value → Value → Value → Mem → Option Rs) : Nat → Value → Value → Value → Value → Value → Value → Value → Value → Value → Mem → Option Rs
  | 0, _, _, _, _, _, _, _, _, _, _ => none
  | i + 1, p22, p21, p20, p0, p5, p15, p14, p13, p3, m =>
  bp (pur (bin .lss false true .int p22 p21) m) fun x27 m =>
  brb x27
    (bp (pur (aIndexAddrSl 5 p20 p22) m) fun x28 m =>
  bp (pur (aLoad true 5 x28 m) m) fun x29 m =>
  bp (some (aNew Q86 Qa5 m)) fun x30 m =>
  bp (unt (aStore 5 x30 x29 m)) fun _ m =>
  bp (pur (aFieldAddr 0 p5) m) fun x31 m =>
  bp (pur (aLoad false 1 x31 m) m) fun x32 m =>
  bp (pur (aFieldAddr 0 x30) m) fun x33 m =>
  bp (pur (aLoad false 1 x33 m) m) fun x34 m =>
  bp (pur (aFieldAddr 1 x30) m) fun x35 m =>
  bp (pur (aLoad true 2 x35 m) m) fun x36 m =>
  bp (pur (aFieldAddr 3 x30) m) fun x37 m =>
  bp (pur (aLoad false 1 x37 m) m) fun x38 m =>
  bp (pur (aFieldAddr 4 x30) m) fun x39 m =>
  bp (pur (aLoad false 1 x39 m) m) fun x40 m =>
  bp (G.tab Q9x [x34, (.string ⟨#[112, 101, 114, 109, 105, 116]⟩), (.string ⟨#[100, 101, 110, 121]⟩)] m) fun x41 m =>
  ckB (again (pur (aLoad false 1 x31 m) m) x32 && (again (pur (aLoad true 2 x35 m) m) x36 && (again (pur (aLoad false 1 x37 m) m) x38 && (again (pur (aLoad false 1 x39 m) m) x40 && true))))
    (bp (G.tab Qjm [x36] m) fun x42 m =>
  ckB (again (pur (aLoad false 1 x31 m) m) x32 && (again (pur (aLoad false 1 x37 m) m) x38 && (again (pur (aLoad false 1 x39 m) m) x40 && true)))
    (bp (G.tab Qe [x38] m) fun x43 m =>
  ckB (again (pur (aLoad false 1 x31 m) m) x32 && (again (pur (aLoad false 1 x39 m) m) x40 && true))
    (bp (G.tab Qe [x40] m) fun x44 m =>
  ckB (again (pur (aLoad false 1 x31 m) m) x32 && true)
    (bp (aBuildSlice Q2 [(.string ⟨#[]⟩)] 1 8 [(0, (.string ⟨#[105, 112, 32, 112, 114, 101, 102, 105, 120, 45, 108, 105, 115, 116]⟩)), (1, x32), (2, x41), (3, x42), (4, (.string ⟨#[103, 101]⟩)), (5, x43), (6, (.string ⟨#[108, 101]⟩)), (7, x44)] m) fun x45 m =>
  bp (G.tab Q7 [p0, (.string ⟨#[]⟩), x45] m) fun x46 m =>
  bp (pur (bin .add true true .int p22 (.int .i64 1)) m) fun x47 m =>
  (Q98 G k0 i) x47 p21 p20 p0 p5 p15 p14 p13 p3 m)))))
    (Qie G k0 p15 p14 p13 p0 p3 m)
def Qif (G : Gt) (k0 : Value → Value → Value → Value → Value → Mem → Option Rs) (p22 p21 p20 p0 p5 p15 p14 p13 p3 : Value) (m : Mem) : Option Rs :=
  Q98 G k0 G.rds p22 p21 p20 p0 p5 p15 p14 p13 p3 m
def Qig (G : Gt) (k0 : Value → Value → Value → Value → Value → Mem → Option Rs) (p5 p0 p15 p14 p13 p3 : Value) (m : Mem) : Option Rs :=
  bp (pur (aFieldAddr 1 p5) m) fun x48 m =>
  bp (pur (aLoad false 1 x48 m) m) fun x49 m =>
  bp (pur (lenK 1 x49 m) m) fun x50 m =>
  Qif G k0 (.int .i64 0) x50 x49 p0 p5 p15 p14 p13 p3 m
def Qih (G : Gt) (k0 : Value → Value → Value → Value → Value → Mem → Option Rs) (p13 p15 p0 p14 p3 : Value) (m : Mem) : Option Rs :=
  bp (pur (aIndexAddrSl 2 p13 p15) m) fun x51 m =>
  bp (pur (aLoad true 2 x51 m) m) fun x52 m =>
  bp (some (aNew Q2m Q62 m)) fun x53 m =>
  bp (unt (aStore 2 x53 x52 m)) fun _ m =>
  Qig G k0 x53 p0 p15 p14 p13 p3 m
def Qii (G : Gt) (k0 : Value → Value → Value → Value → Value → Mem → Option Rs) (p16 p13 p15 p0 p14 p3 : Value) (m : Mem) : Option Rs :=
  brb p16
    (Qih G k0 p13 p15 p0 p14 p3 m)
    (Qkn G p3 p0 m)
def Q10 (G : Gt) : Nat → Value → Value → Value → Value → Value → Mem → Option Rs
  | 0, _, _, _, _, _, _ => none
  | i + 1, p15, p14, p13, p0, p3, m =>
  bp (pur (bin .lss false true .int p15 p14) m) fun x54 m =>
  Qii G (Q10 G i) x54 p13 p15 p0 p14 p3 m
def Qij (G : Gt) (p15 p14 p13 p0 p3 : Value) (m : Mem) : Option Rs :=
  Q10 G G.rds p15 p14 p13 p0 p3 m
def Qko (G : Gt) (p3 p0 : Value) (m : Mem) : Option Rs :=
  bp (pur (aFieldAddr 7 p3) m) fun x55 m =>
  bp (pur (aLoad false 1 x55 m) m) fun x56 m =>
  bp (pur (lenK 1 x56 m) m) fun x57 m =>
  Qij G (.int .i64 0) x57 x56 p0 p3 m
def Qd6 (G : Gt) (p1 p0 : Value) (m : Mem) : Option Rs :=
  bp (some (aNew Qq (Value.cells p1).toList m)) fun x58 m =>
  Qko G x58 p0 m
theorem Q11s (G : Gt) (a0 a1 : Value) (m : Mem) : evFn Go.Proofs.Tryz.prog G.tab G.rds (drOf Go.Proofs.Tryz.prog G.tab) Go.Proofs.Tryz.f24 [a0, a1] m = Qd6 G a1 a0 m :=
  evFn_of (r := fun ρ m => Qd6 G (ρ 1) (ρ 0) m) rfl rfl (tr (seqQ (f := fun ρ m => Qko G (ρ 3) (ρ 0) m) (tr (tr (seqQ (f := fun ρ m => Qkn G (ρ 3) (ρ 0) m) (tr (seqQ (f := fun ρ m => Qkm G (ρ 48) (ρ 47) (ρ 46) (ρ 0) m) (tr (blockQ (loopQ (fun i ρ m => Q13 G i (ρ 48) (ρ 47) (ρ 46) (ρ 0) m) (fun _ _ => rfl) (fun i0 => tr (seqQ (f := fun ρ m => Qkl G (Q13 G i0) (ρ 49) (ρ 46) (ρ 48) (ρ 0) (ρ 47) m) (tr (seqQ (f := fun ρ m => Qkk G (Q13 G i0) (ρ 46) (ρ 48) (ρ 0) (ρ 47) m) (tr (tr (seqQ (f := fun ρ m => Qkh G (Q13 G i0) (ρ 48) (ρ 47) (ρ 46) (ρ 0) m) (fun ρ m => by kernel_rfl)) (blockQ (seqQ (f := fun ρ m => Qkj G (Q13 G i0) (ρ 9) (ρ 0) (ρ 48) (ρ 47) (ρ 46) m) (tr (seqQ (f := fun ρ m => Qki G (Q13 G i0) (ρ 55) (ρ 54) (ρ 53) (ρ 0) (ρ 9) (ρ 48) (ρ 47) (ρ 46) m) (tr (blockQ (loopQ (fun i ρ m => Qa4 G (Q13 G i0) i (ρ 55) (ρ 54) (ρ 53) (ρ 0) (ρ 9) (ρ 48) (ρ 47) (ρ 46) m) (fun _ _ => rfl) (fun i1 => fun ρ m => by kernel_rfl))) (fun ρ m => by kernel_rfl))) (fun ρ m => by kernel_rfl))))) (fun ρ m => by kernel_rfl))) (fun ρ m => by kernel_rfl))) (fun ρ m => by kernel_rfl)))) (fun ρ m => by kernel_rfl))) (fun ρ m => by kernel_rfl))) (seqQ (f := fun ρ m => Qij G (ρ 15) (ρ 14) (ρ 13) (ρ 0) (ρ 3) m) (tr (blockQ (loopQ (fun i ρ m => Q10 G i (ρ 15) (ρ 14) (ρ 13) (ρ 0) (ρ 3) m) (fun _ _ => rfl) (fun i0 => tr (seqQ (f := fun ρ m => Qii G (Q10 G i0) (ρ 16) (ρ 13) (ρ 15) (ρ 0) (ρ 14) (ρ 3) m) (tr (seqQ (f := fun ρ m => Qih G (Q10 G i0) (ρ 13) (ρ 15) (ρ 0) (ρ 14) (ρ 3) m) (tr (tr (seqQ (f := fun ρ m => Qie G (Q10 G i0) (ρ 15) (ρ 14) (ρ 13) (ρ 0) (ρ 3) m) (fun ρ m => by kernel_rfl)) (blockQ (seqQ (f := fun ρ m => Qig G (Q10 G i0) (ρ 5) (ρ 0) (ρ 15) (ρ 14) (ρ 13) (ρ 3) m) (tr (seqQ (f := fun ρ m => Qif G (Q10 G i0) (ρ 22) (ρ 21) (ρ 20) (ρ 0) (ρ 5) (ρ 15) (ρ 14) (ρ 13) (ρ 3) m) (tr (blockQ (loopQ (fun i ρ m => Q98 G (Q10 G i0) i (ρ 22) (ρ 21) (ρ 20) (ρ 0) (ρ 5) (ρ 15) (ρ 14) (ρ 13) (ρ 3) m) (fun _ _ => rfl) (fun i1 => fun ρ m => by kernel_rfl))) (fun ρ m => by kernel_rfl))) (fun ρ m => by kernel_rfl))))) (fun ρ m => by kernel_rfl))) (fun ρ m => by kernel_rfl))) (fun ρ m => by kernel_rfl)))) (fun ρ m => by kernel_rfl)))) (fun ρ m => by kernel_rfl))) (fun ρ m => by kernel_rfl)) m
def Q11t : Entry Go.Proofs.Tryz.prog := ⟨Qob, Go.Proofs.Tryz.f24, Go.Proofs.Tryz.func24, by kernel_rfl, arg2 (fun G a0 a1 m => Qd6 G a1 a0 m), okarg2 Q11s⟩
end
end Go.Ab.Sh
