/-
  Functions of the program as plain definitions, each with the theorem that it is what the evaluator makes of the code. No conditions.
-/
import Derived.Test.YtbjgjnkihdddlaaGreatDoorAb4
import Derived.Test.YtbjgjnkihdddlaaGreatDoorZ
import Derived.KernelRfl
import Derived.Test.YtbjgjnkihdddlaaGreatDoorProg
set_option linter.unusedVariables false
set_option maxRecDepth 100000
namespace Go.Ab.Sh
open Go Go.Ab
noncomputable section
def Q9n (G : Gt) (k0 : Value → Value → Value → Value → Mem → Option Rs) (p137 p136 p135 p0 : Value) (m : Mem) : Option Rs :=
  bp (pur (bin .add true true .int p137 (.int .i64 1)) m) fun x0 m =>
  k0 x0 p136 p135 p0 m
def Qjb (G : Gt) (k0 : Value → Value → Value → Value → Mem → Option Rs) (p135 p137 p0 p136 : Value) (m : Mem) : Option Rs :=
  bp (pur (aIndexAddrSl 2 p135 p137) m) fun x1 m =>
  bp (pur (aLoad true 2 x1 m) m) fun x2 m =>
  bp (some (aNew Qw Q1 m)) fun x3 m =>
  bp (unt (aStore 2 x3 x2 m)) fun _ m =>
  bp (pur (aFieldAddr 0 x3) m) fun x4 m =>
  bp (pur (aLoad false 1 x4 m) m) fun x5 m =>
  brb x5
    (bp (pur (aFieldAddr 1 x3) m) fun x6 m =>
  bp (pur (aLoad false 1 x6 m) m) fun x7 m =>
  bp (aBuildSlice Q2 [(.string ⟨#[]⟩)] 1 1 [(0, x7)] m) fun x8 m =>
  bp (G.tab Q7 [p0, (.string ⟨#[32]⟩), x8] m) fun x9 m =>
  Q9n G k0 p137 p136 p135 p0 m)
    (Q9n G k0 p137 p136 p135 p0 m)
def Qjc (G : Gt) (k0 : Value → Value → Value → Value → Mem → Option Rs) (p138 p135 p137 p0 p136 : Value) (m : Mem) : Option Rs :=
  brb p138
    (Qjb G k0 p135 p137 p0 p136 m)
    (some (.tuple ⟨[]⟩, m))
def Q2l (G : Gt) : Nat → Value → Value → Value → Value → Mem → Option Rs
  | 0, _, _, _, _, _ => none
  | i + 1, p137, p136, p135, p0, m =>
  bp (pur (bin .lss false true .int p137 p136) m) fun x10 m =>
  Qjc G (Q2l G i) x10 p135 p137 p0 p136 m
def Qjd (G : Gt) (p137 p136 p135 p0 : Value) (m : Mem) : Option Rs :=
  Q2l G G.rds p137 p136 p135 p0 m
def Qje (G : Gt) (p5 p6 p0 : Value) (m : Mem) : Option Rs :=
  bp (pur (aFieldAddr 2 p5) m) fun x11 m =>
  bp (pur (aLoad false 1 x11 m) m) fun x12 m =>
  bp (pur (bin .neq true true .str x12 (.string ⟨#[]⟩)) m) fun x13 m =>
  bp (pur (aFieldAddr 2 p5) m) fun x14 m =>
  bp (pur (aLoad false 1 x14 m) m) fun x15 m =>
  bp (pur (bin .add true true .str (.string ⟨#[109, 97, 116, 99, 104, 32, 112, 114, 101, 102, 105, 120, 45, 108, 105, 115, 116, 32]⟩) x15) m) fun x16 m =>
  bp (pur (aBuild Q1 [(0, 1), (1, 1)] [(0, x13), (1, x16)]) m) fun x17 m =>
  bp (pur (aFieldAddr 3 p5) m) fun x18 m =>
  bp (pur (aLoad false 1 x18 m) m) fun x19 m =>
  bp (pur (bin .neq true true .str x19 (.string ⟨#[]⟩)) m) fun x20 m =>
  bp (pur (aFieldAddr 3 p5) m) fun x21 m =>
  bp (pur (aLoad false 1 x21 m) m) fun x22 m =>
  bp (pur (bin .add true true .str (.string ⟨#[109, 97, 116, 99, 104, 32, 99, 111, 109, 109, 117, 110, 105, 116, 121, 45, 108, 105, 115, 116, 32]⟩) x22) m) fun x23 m =>
  bp (pur (aBuild Q1 [(0, 1), (1, 1)] [(0, x20), (1, x23)]) m) fun x24 m =>
  bp (pur (aFieldAddr 4 p5) m) fun x25 m =>
  bp (pur (aLoad false 1 x25 m) m) fun x26 m =>
  bp (pur (bin .geq true true .int x26 (.int .i64 0)) m) fun x27 m =>
  bp (pur (aFieldAddr 4 p5) m) fun x28 m =>
  bp (pur (aLoad false 1 x28 m) m) fun x29 m =>
  bp (pur (aFieldAddr 5 p5) m) fun x30 m =>
  bp (pur (aLoad false 1 x30 m) m) fun x31 m =>
  bp (pur (bin .geq true true .int x31 (.int .i64 0)) m) fun x32 m =>
  bp (pur (aFieldAddr 5 p5) m) fun x33 m =>
  bp (pur (aLoad false 1 x33 m) m) fun x34 m =>
  bp (pur (aFieldAddr 6 p5) m) fun x35 m =>
  bp (pur (aLoad false 1 x35 m) m) fun x36 m =>
  bp (pur (bin .geq true true .int x36 (.int .i64 0)) m) fun x37 m =>
  bp (pur (aFieldAddr 6 p5) m) fun x38 m =>
  bp (pur (aLoad false 1 x38 m) m) fun x39 m =>
  bp (pur (aFieldAddr 7 p5) m) fun x40 m =>
  bp (pur (aLoad false 1 x40 m) m) fun x41 m =>
  bp (pur (bin .geq true true .int x41 (.int .i64 0)) m) fun x42 m =>
  bp (pur (aFieldAddr 7 p5) m) fun x43 m =>
  bp (pur (aLoad false 1 x43 m) m) fun x44 m =>
  bp (pur (aFieldAddr 8 p5) m) fun x45 m =>
  bp (pur (aLoad false 1 x45 m) m) fun x46 m =>
  bp (pur (bin .geq true true .int x46 (.int .i64 0)) m) fun x47 m =>
  bp (pur (aFieldAddr 8 p5) m) fun x48 m =>
  bp (pur (aLoad false 1 x48 m) m) fun x49 m =>
  bp (pur (aFieldAddr 9 p5) m) fun x50 m =>
  bp (pur (aLoad false 1 x50 m) m) fun x51 m =>
  bp (pur (bin .geq true true .int x51 (.int .i64 0)) m) fun x52 m =>
  bp (pur (aFieldAddr 9 p5) m) fun x53 m =>
  bp (pur (aLoad false 1 x53 m) m) fun x54 m =>
  bp (pur (aFieldAddr 10 p5) m) fun x55 m =>
  bp (pur (aLoad false 1 x55 m) m) fun x56 m =>
  bp (pur (lenK 1 x56 m) m) fun x57 m =>
  bp (pur (bin .gtr true true .int x57 (.int .i64 0)) m) fun x58 m =>
  bp (pur (aFieldAddr 11 p5) m) fun x59 m =>
  bp (pur (aLoad false 1 x59 m) m) fun x60 m =>
  bp (aBuildSlice Q2 [(.string ⟨#[]⟩)] 1 1 [(0, (.string ⟨#[97, 100, 100, 32]⟩))] m) fun x61 m =>
  bp (pur (aFieldAddr 10 p5) m) fun x62 m =>
  bp (pur (aLoad false 1 x62 m) m) fun x63 m =>
  bp (pur (lenK 1 p6 m) m) fun x64 m =>
  bp (pur (bin .gtr true true .int x64 (.int .i64 0)) m) fun x65 m =>
  bp (pur (aFieldAddr 13 p5) m) fun x66 m =>
  bp (pur (aLoad false 1 x66 m) m) fun x67 m =>
  bp (pur (bin .neq true true .int x67 (.int .u32 0)) m) fun x68 m =>
  bp (pur (aFieldAddr 13 p5) m) fun x69 m =>
  bp (pur (aLoad false 1 x69 m) m) fun x70 m =>
  bp (pur (aFieldAddr 14 p5) m) fun x71 m =>
  bp (pur (aLoad false 1 x71 m) m) fun x72 m =>
  bp (pur (bin .neq true true .int x72 (.int .i64 0)) m) fun x73 m =>
  bp (pur (aFieldAddr 14 p5) m) fun x74 m =>
  bp (pur (aLoad false 1 x74 m) m) fun x75 m =>
  bp (G.tab Qe [x29] m) fun x76 m =>
  ckB (again (pur (aLoad false 1 x11 m) m) x12 && (again (pur (aLoad false 1 x14 m) m) x15 && (again (pur (aLoad false 1 x18 m) m) x19 && (again (pur (aLoad false 1 x21 m) m) x22 && (again (pur (aLoad false 1 x25 m) m) x26 && (again (pur (aLoad false 1 x30 m) m) x31 && (again (pur (aLoad false 1 x33 m) m) x34 && (again (pur (aLoad false 1 x35 m) m) x36 && (again (pur (aLoad false 1 x38 m) m) x39 && (again (pur (aLoad false 1 x40 m) m) x41 && (again (pur (aLoad false 1 x43 m) m) x44 && (again (pur (aLoad false 1 x45 m) m) x46 && (again (pur (aLoad false 1 x48 m) m) x49 && (again (pur (aLoad false 1 x50 m) m) x51 && (again (pur (aLoad false 1 x53 m) m) x54 && (again (pur (aLoad false 1 x55 m) m) x56 && (again (pur (aLoad false 1 x59 m) m) x60 && (again (pur (aLoad false 1 x62 m) m) x63 && (again (pur (aLoad false 1 x66 m) m) x67 && (again (pur (aLoad false 1 x69 m) m) x70 && (again (pur (aLoad false 1 x71 m) m) x72 && (again (pur (aLoad false 1 x74 m) m) x75 && true))))))))))))))))))))))
    (bp (pur (bin .add true true .str (.string ⟨#[109, 97, 116, 99, 104, 32, 116, 97, 103, 32]⟩) x76) m) fun x77 m =>
  bp (pur (aBuild Q1 [(0, 1), (1, 1)] [(0, x27), (1, x77)]) m) fun x78 m =>
  bp (G.tab Qe [x34] m) fun x79 m =>
  ckB (again (pur (aLoad false 1 x11 m) m) x12 && (again (pur (aLoad false 1 x14 m) m) x15 && (again (pur (aLoad false 1 x18 m) m) x19 && (again (pur (aLoad false 1 x21 m) m) x22 && (again (pur (aLoad false 1 x25 m) m) x26 && (again (pur (aLoad false 1 x30 m) m) x31 && (again (pur (aLoad false 1 x35 m) m) x36 && (again (pur (aLoad false 1 x38 m) m) x39 && (again (pur (aLoad false 1 x40 m) m) x41 && (again (pur (aLoad false 1 x43 m) m) x44 && (again (pur (aLoad false 1 x45 m) m) x46 && (again (pur (aLoad false 1 x48 m) m) x49 && (again (pur (aLoad false 1 x50 m) m) x51 && (again (pur (aLoad false 1 x53 m) m) x54 && (again (pur (aLoad false 1 x55 m) m) x56 && (again (pur (aLoad false 1 x59 m) m) x60 && (again (pur (aLoad false 1 x62 m) m) x63 && (again (pur (aLoad false 1 x66 m) m) x67 && (again (pur (aLoad false 1 x69 m) m) x70 && (again (pur (aLoad false 1 x71 m) m) x72 && (again (pur (aLoad false 1 x74 m) m) x75 && true)))))))))))))))))))))
    (bp (pur (bin .add true true .str (.string ⟨#[109, 97, 116, 99, 104, 32, 109, 101, 116, 114, 105, 99, 32]⟩) x79) m) fun x80 m =>
  bp (pur (aBuild Q1 [(0, 1), (1, 1)] [(0, x32), (1, x80)]) m) fun x81 m =>
  bp (G.tab Qe [x39] m) fun x82 m =>
  ckB (again (pur (aLoad false 1 x11 m) m) x12 && (again (pur (aLoad false 1 x14 m) m) x15 && (again (pur (aLoad false 1 x18 m) m) x19 && (again (pur (aLoad false 1 x21 m) m) x22 && (again (pur (aLoad false 1 x25 m) m) x26 && (again (pur (aLoad false 1 x30 m) m) x31 && (again (pur (aLoad false 1 x35 m) m) x36 && (again (pur (aLoad false 1 x40 m) m) x41 && (again (pur (aLoad false 1 x43 m) m) x44 && (again (pur (aLoad false 1 x45 m) m) x46 && (again (pur (aLoad false 1 x48 m) m) x49 && (again (pur (aLoad false 1 x50 m) m) x51 && (again (pur (aLoad false 1 x53 m) m) x54 && (again (pur (aLoad false 1 x55 m) m) x56 && (again (pur (aLoad false 1 x59 m) m) x60 && (again (pur (aLoad false 1 x62 m) m) x63 && (again (pur (aLoad false 1 x66 m) m) x67 && (again (pur (aLoad false 1 x69 m) m) x70 && (again (pur (aLoad false 1 x71 m) m) x72 && (again (pur (aLoad false 1 x74 m) m) x75 && true))))))))))))))))))))
    (bp (pur (bin .add true true .str (.string ⟨#[109, 97, 116, 99, 104, 32, 97, 115, 32]⟩) x82) m) fun x83 m =>
  bp (pur (aBuild Q1 [(0, 1), (1, 1)] [(0, x37), (1, x83)]) m) fun x84 m =>
  bp (G.tab Qe [x44] m) fun x85 m =>
  ckB (again (pur (aLoad false 1 x11 m) m) x12 && (again (pur (aLoad false 1 x14 m) m) x15 && (again (pur (aLoad false 1 x18 m) m) x19 && (again (pur (aLoad false 1 x21 m) m) x22 && (again (pur (aLoad false 1 x25 m) m) x26 && (again (pur (aLoad false 1 x30 m) m) x31 && (again (pur (aLoad false 1 x35 m) m) x36 && (again (pur (aLoad false 1 x40 m) m) x41 && (again (pur (aLoad false 1 x45 m) m) x46 && (again (pur (aLoad false 1 x48 m) m) x49 && (again (pur (aLoad false 1 x50 m) m) x51 && (again (pur (aLoad false 1 x53 m) m) x54 && (again (pur (aLoad false 1 x55 m) m) x56 && (again (pur (aLoad false 1 x59 m) m) x60 && (again (pur (aLoad false 1 x62 m) m) x63 && (again (pur (aLoad false 1 x66 m) m) x67 && (again (pur (aLoad false 1 x69 m) m) x70 && (again (pur (aLoad false 1 x71 m) m) x72 && (again (pur (aLoad false 1 x74 m) m) x75 && true)))))))))))))))))))
    (bp (pur (bin .add true true .str (.string ⟨#[115, 101, 116, 32, 109, 101, 116, 114, 105, 99, 32]⟩) x85) m) fun x86 m =>
  bp (pur (aBuild Q1 [(0, 1), (1, 1)] [(0, x42), (1, x86)]) m) fun x87 m =>
  bp (G.tab Qe [x49] m) fun x88 m =>
  ckB (again (pur (aLoad false 1 x11 m) m) x12 && (again (pur (aLoad false 1 x14 m) m) x15 && (again (pur (aLoad false 1 x18 m) m) x19 && (again (pur (aLoad false 1 x21 m) m) x22 && (again (pur (aLoad false 1 x25 m) m) x26 && (again (pur (aLoad false 1 x30 m) m) x31 && (again (pur (aLoad false 1 x35 m) m) x36 && (again (pur (aLoad false 1 x40 m) m) x41 && (again (pur (aLoad false 1 x45 m) m) x46 && (again (pur (aLoad false 1 x50 m) m) x51 && (again (pur (aLoad false 1 x53 m) m) x54 && (again (pur (aLoad false 1 x55 m) m) x56 && (again (pur (aLoad false 1 x59 m) m) x60 && (again (pur (aLoad false 1 x62 m) m) x63 && (again (pur (aLoad false 1 x66 m) m) x67 && (again (pur (aLoad false 1 x69 m) m) x70 && (again (pur (aLoad false 1 x71 m) m) x72 && (again (pur (aLoad false 1 x74 m) m) x75 && true))))))))))))))))))
    (bp (pur (bin .add true true .str (.string ⟨#[115, 101, 116, 32, 112, 114, 101, 102, 101, 114, 101, 110, 99, 101, 32]⟩) x88) m) fun x89 m =>
  bp (pur (aBuild Q1 [(0, 1), (1, 1)] [(0, x47), (1, x89)]) m) fun x90 m =>
  bp (G.tab Qe [x54] m) fun x91 m =>
  ckB (again (pur (aLoad false 1 x11 m) m) x12 && (again (pur (aLoad false 1 x14 m) m) x15 && (again (pur (aLoad false 1 x18 m) m) x19 && (again (pur (aLoad false 1 x21 m) m) x22 && (again (pur (aLoad false 1 x25 m) m) x26 && (again (pur (aLoad false 1 x30 m) m) x31 && (again (pur (aLoad false 1 x35 m) m) x36 && (again (pur (aLoad false 1 x40 m) m) x41 && (again (pur (aLoad false 1 x45 m) m) x46 && (again (pur (aLoad false 1 x50 m) m) x51 && (again (pur (aLoad false 1 x55 m) m) x56 && (again (pur (aLoad false 1 x59 m) m) x60 && (again (pur (aLoad false 1 x62 m) m) x63 && (again (pur (aLoad false 1 x66 m) m) x67 && (again (pur (aLoad false 1 x69 m) m) x70 && (again (pur (aLoad false 1 x71 m) m) x72 && (again (pur (aLoad false 1 x74 m) m) x75 && true)))))))))))))))))
    (bp (pur (bin .add true true .str (.string ⟨#[115, 101, 116, 32, 116, 97, 103, 32]⟩) x91) m) fun x92 m =>
  bp (pur (aBuild Q1 [(0, 1), (1, 1)] [(0, x52), (1, x92)]) m) fun x93 m =>
  bp (G.tab Q6o [x60, x61] m) fun x94 m =>
  ckB (again (pur (aLoad false 1 x11 m) m) x12 && (again (pur (aLoad false 1 x14 m) m) x15 && (again (pur (aLoad false 1 x18 m) m) x19 && (again (pur (aLoad false 1 x21 m) m) x22 && (again (pur (aLoad false 1 x25 m) m) x26 && (again (pur (aLoad false 1 x30 m) m) x31 && (again (pur (aLoad false 1 x35 m) m) x36 && (again (pur (aLoad false 1 x40 m) m) x41 && (again (pur (aLoad false 1 x45 m) m) x46 && (again (pur (aLoad false 1 x50 m) m) x51 && (again (pur (aLoad false 1 x55 m) m) x56 && (again (pur (aLoad false 1 x62 m) m) x63 && (again (pur (aLoad false 1 x66 m) m) x67 && (again (pur (aLoad false 1 x69 m) m) x70 && (again (pur (aLoad false 1 x71 m) m) x72 && (again (pur (aLoad false 1 x74 m) m) x75 && true))))))))))))))))
    (bp (pur (bin .add true true .str (.string ⟨#[115, 101, 116, 32, 99, 111, 109, 109, 117, 110, 105, 116, 121, 32]⟩) x94) m) fun x95 m =>
  bp (G.tab Qvf [x63] m) fun x96 m =>
  ckB (again (pur (aLoad false 1 x11 m) m) x12 && (again (pur (aLoad false 1 x14 m) m) x15 && (again (pur (aLoad false 1 x18 m) m) x19 && (again (pur (aLoad false 1 x21 m) m) x22 && (again (pur (aLoad false 1 x25 m) m) x26 && (again (pur (aLoad false 1 x30 m) m) x31 && (again (pur (aLoad false 1 x35 m) m) x36 && (again (pur (aLoad false 1 x40 m) m) x41 && (again (pur (aLoad false 1 x45 m) m) x46 && (again (pur (aLoad false 1 x50 m) m) x51 && (again (pur (aLoad false 1 x55 m) m) x56 && (again (pur (aLoad false 1 x66 m) m) x67 && (again (pur (aLoad false 1 x69 m) m) x70 && (again (pur (aLoad false 1 x71 m) m) x72 && (again (pur (aLoad false 1 x74 m) m) x75 && true)))))))))))))))
    (bp (pur (bin .add false true .str x95 x96) m) fun x97 m =>
  bp (pur (aBuild Q1 [(0, 1), (1, 1)] [(0, x58), (1, x97)]) m) fun x98 m =>
  bp (G.tab Q61 [p6, (.string ⟨#[32]⟩)] m) fun x99 m =>
  ckB (again (pur (aLoad false 1 x11 m) m) x12 && (again (pur (aLoad false 1 x14 m) m) x15 && (again (pur (aLoad false 1 x18 m) m) x19 && (again (pur (aLoad false 1 x21 m) m) x22 && (again (pur (aLoad false 1 x25 m) m) x26 && (again (pur (aLoad false 1 x30 m) m) x31 && (again (pur (aLoad false 1 x35 m) m) x36 && (again (pur (aLoad false 1 x40 m) m) x41 && (again (pur (aLoad false 1 x45 m) m) x46 && (again (pur (aLoad false 1 x50 m) m) x51 && (again (pur (aLoad false 1 x55 m) m) x56 && (again (pur (aLoad false 1 x66 m) m) x67 && (again (pur (aLoad false 1 x69 m) m) x70 && (again (pur (aLoad false 1 x71 m) m) x72 && (again (pur (aLoad false 1 x74 m) m) x75 && true)))))))))))))))
    (bp (pur (bin .add true true .str (.string ⟨#[115, 101, 116, 32, 112, 114, 101, 112, 101, 110, 100, 32]⟩) x99) m) fun x100 m =>
  bp (pur (aBuild Q1 [(0, 1), (1, 1)] [(0, x65), (1, x100)]) m) fun x101 m =>
  bp (G.tab Q1t [x70] m) fun x102 m =>
  ckB (again (pur (aLoad false 1 x11 m) m) x12 && (again (pur (aLoad false 1 x14 m) m) x15 && (again (pur (aLoad false 1 x18 m) m) x19 && (again (pur (aLoad false 1 x21 m) m) x22 && (again (pur (aLoad false 1 x25 m) m) x26 && (again (pur (aLoad false 1 x30 m) m) x31 && (again (pur (aLoad false 1 x35 m) m) x36 && (again (pur (aLoad false 1 x40 m) m) x41 && (again (pur (aLoad false 1 x45 m) m) x46 && (again (pur (aLoad false 1 x50 m) m) x51 && (again (pur (aLoad false 1 x55 m) m) x56 && (again (pur (aLoad false 1 x66 m) m) x67 && (again (pur (aLoad false 1 x71 m) m) x72 && (again (pur (aLoad false 1 x74 m) m) x75 && true))))))))))))))
    (bp (pur (bin .add true true .str (.string ⟨#[115, 101, 116, 32, 110, 101, 120, 116, 45, 104, 111, 112, 32]⟩) x102) m) fun x103 m =>
  bp (pur (aBuild Q1 [(0, 1), (1, 1)] [(0, x68), (1, x103)]) m) fun x104 m =>
  bp (G.tab Qe [x75] m) fun x105 m =>
  ckB (again (pur (aLoad false 1 x11 m) m) x12 && (again (pur (aLoad false 1 x14 m) m) x15 && (again (pur (aLoad false 1 x18 m) m) x19 && (again (pur (aLoad false 1 x21 m) m) x22 && (again (pur (aLoad false 1 x25 m) m) x26 && (again (pur (aLoad false 1 x30 m) m) x31 && (again (pur (aLoad false 1 x35 m) m) x36 && (again (pur (aLoad false 1 x40 m) m) x41 && (again (pur (aLoad false 1 x45 m) m) x46 && (again (pur (aLoad false 1 x50 m) m) x51 && (again (pur (aLoad false 1 x55 m) m) x56 && (again (pur (aLoad false 1 x66 m) m) x67 && (again (pur (aLoad false 1 x71 m) m) x72 && true)))))))))))))
    (bp (pur (bin .add true true .str (.string ⟨#[99, 111, 110, 116, 105, 110, 117, 101, 32]⟩) x105) m) fun x106 m =>
  bp (pur (aBuild Q1 [(0, 1), (1, 1)] [(0, x73), (1, x106)]) m) fun x107 m =>
  bp (aBuildSlice Qw Q1 2 12 [(0, x17), (1, x24), (2, x78), (3, x81), (4, x84), (5, x87), (6, x90), (7, x93), (8, x98), (9, x101), (10, x104), (11, x107)] m) fun x108 m =>
  bp (pur (lenK 1 x108 m) m) fun x109 m =>
  Qjd G (.int .i64 0) x109 x108 p0 m)))))))))))
def Q8r (G : Gt) : Nat → Value → Value → Value → Value → Value → Value → Mem → Option Rs
  | 0, _, _, _, _, _, _, _ => none
  | i + 1, p25, p24, p23, p6, p5, p0, m =>
  bp (pur (bin .lss false true .int p25 p24) m) fun x110 m =>
  brb x110
    (bp (pur (aIndexAddrSl 1 p23 p25) m) fun x111 m =>
  bp (pur (aLoad false 1 x111 m) m) fun x112 m =>
  bp (conv (.int .i64) x112 m) fun x113 m =>
  bp (G.tab Qe [x113] m) fun x114 m =>
  bp (aBuildSlice Q2 [(.string ⟨#[]⟩)] 1 1 [(0, x114)] m) fun x115 m =>
  bp (apS Q2 1 16 p6 x115 m) fun x116 m =>
  bp (pur (bin .add true true .int p25 (.int .i64 1)) m) fun x117 m =>
  (Q8r G i) x117 p24 p23 x116 p5 p0 m)
    (Qje G p5 p6 p0 m)
def Qjf (G : Gt) (p25 p24 p23 p6 p5 p0 : Value) (m : Mem) : Option Rs :=
  Q8r G G.rds p25 p24 p23 p6 p5 p0 m
def Qjg (G : Gt) (p5 p6 p0 : Value) (m : Mem) : Option Rs :=
  bp (pur (aFieldAddr 12 p5) m) fun x118 m =>
  bp (pur (aLoad false 1 x118 m) m) fun x119 m =>
  bp (pur (lenK 1 x119 m) m) fun x120 m =>
  Qjf G (.int .i64 0) x120 x119 p6 p5 p0 m
def Qjh (G : Gt) (p5 p0 : Value) (m : Mem) : Option Rs :=
  Qjg G p5 (.slice none 0 0) p0 m
def Qji (G : Gt) (p0 p1 p5 : Value) (m : Mem) : Option Rs :=
  bp (pur (aBuildArr Q1cz 1 [(0, (.string ⟨#[100, 101, 110, 121]⟩)), (1, (.string ⟨#[112, 101, 114, 109, 105, 116]⟩)), (2, (.string ⟨#[110, 101, 120, 116]⟩))]) m) fun x121 m =>
  bp (pur (aFieldAddr 1 p5) m) fun x122 m =>
  bp (pur (aLoad false 1 x122 m) m) fun x123 m =>
  bp (pur (aIndexArr 3 1 false x121 x123) m) fun x124 m =>
  bp (pur (aFieldAddr 0 p5) m) fun x125 m =>
  bp (pur (aLoad false 1 x125 m) m) fun x126 m =>
  bp (G.tab Qe [x126] m) fun x127 m =>
  ckB (again (pur (aLoad false 1 x122 m) m) x123 && true)
    (bp (aBuildSlice Q2 [(.string ⟨#[]⟩)] 1 4 [(0, (.string ⟨#[114, 111, 117, 116, 101, 45, 109, 97, 112]⟩)), (1, p1), (2, x124), (3, x127)] m) fun x128 m =>
  bp (G.tab Q7 [p0, (.string ⟨#[]⟩), x128] m) fun x129 m =>
  Qjh G p5 p0 m)
def Qc0 (G : Gt) (p2 p0 p1 : Value) (m : Mem) : Option Rs :=
  bp (some (aNew Q6v (Value.cells p2).toList m)) fun x130 m =>
  Qji G p0 p1 x130 m
theorem Q10u (G : Gt) (a0 a1 a2 : Value) (m : Mem) : evFn Go.Proofs.Tryz.prog G.tab G.rds (drOf Go.Proofs.Tryz.prog G.tab) Go.Proofs.Tryz.f25 [a0, a1, a2] m = Qc0 G a2 a0 a1 m :=
  evFn_of (r := fun ρ m => Qc0 G (ρ 2) (ρ 0) (ρ 1) m) rfl rfl (tr (seqQ (f := fun ρ m => Qji G (ρ 0) (ρ 1) (ρ 5) m) (tr (seqQ (f := fun ρ m => Qjh G (ρ 5) (ρ 0) m) (tr (seqQ (f := fun ρ m => Qjg G (ρ 5) (ρ 6) (ρ 0) m) (tr (tr (seqQ (f := fun ρ m => Qje G (ρ 5) (ρ 6) (ρ 0) m) (tr (seqQ (f := fun ρ m => Qjd G (ρ 137) (ρ 136) (ρ 135) (ρ 0) m) (tr (blockQ (loopQ (fun i ρ m => Q2l G i (ρ 137) (ρ 136) (ρ 135) (ρ 0) m) (fun _ _ => rfl) (fun i0 => tr (seqQ (f := fun ρ m => Qjc G (Q2l G i0) (ρ 138) (ρ 135) (ρ 137) (ρ 0) (ρ 136) m) (tr (seqQ (f := fun ρ m => Qjb G (Q2l G i0) (ρ 135) (ρ 137) (ρ 0) (ρ 136) m) (tr (seqQ (f := fun ρ m => Q9n G (Q2l G i0) (ρ 137) (ρ 136) (ρ 135) (ρ 0) m) (fun ρ m => by kernel_rfl)) (fun ρ m => by kernel_rfl))) (fun ρ m => by kernel_rfl))) (fun ρ m => by kernel_rfl)))) (fun ρ m => by kernel_rfl))) (fun ρ m => by kernel_rfl))) (seqQ (f := fun ρ m => Qjf G (ρ 25) (ρ 24) (ρ 23) (ρ 6) (ρ 5) (ρ 0) m) (tr (blockQ (loopQ (fun i ρ m => Q8r G i (ρ 25) (ρ 24) (ρ 23) (ρ 6) (ρ 5) (ρ 0) m) (fun _ _ => rfl) (fun i0 => fun ρ m => by kernel_rfl))) (fun ρ m => by kernel_rfl)))) (fun ρ m => by kernel_rfl))) (fun ρ m => by kernel_rfl))) (fun ρ m => by kernel_rfl))) (fun ρ m => by kernel_rfl)) m
def Q10n : Entry Go.Proofs.Tryz.prog := ⟨Qnb, Go.Proofs.Tryz.f25, Go.Proofs.Tryz.func25, by kernel_rfl, arg3 (fun G a0 a1 a2 m => Qc0 G a2 a0 a1 m), okarg3 Q10u⟩
def Q5d (G : Gt) (k0 : Value → Value → Value → Value → Value → Value → Mem → Option Rs) (p0 p10 p9 p3 p13 p12 p11 p2 : Value) (m : Mem) : Option Rs :=
  bp (pur (aFieldAddr 1 p9) m) fun x0 m =>
  bp (pur (aLoad false 1 x0 m) m) fun x1 m =>
  bp (pur (bin .geq true true .int x1 (.int .i64 0)) m) fun x2 m =>
  bp (pur (aFieldAddr 1 p9) m) fun x3 m =>
  bp (pur (aLoad false 1 x3 m) m) fun x4 m =>
  bp (pur (aFieldAddr 2 p9) m) fun x5 m =>
  bp (pur (aLoad false 1 x5 m) m) fun x6 m =>
  bp (conv (.int .i64) x6 m) fun x7 m =>
  bp (pur (aFieldAddr 3 p9) m) fun x8 m =>
  bp (pur (aLoad false 1 x8 m) m) fun x9 m =>
  bp (pur (bin .neq true true .str x9 (.string ⟨#[]⟩)) m) fun x10 m =>
  bp (pur (aFieldAddr 3 p9) m) fun x11 m =>
  bp (pur (aLoad false 1 x11 m) m) fun x12 m =>
  bp (aBuildSlice Q2 [(.string ⟨#[]⟩)] 1 2 [(0, (.string ⟨#[114, 111, 117, 116, 101, 45, 109, 97, 112]⟩)), (1, x12)] m) fun x13 m =>
  bp (G.tab Qe [x4] m) fun x14 m =>
  ckB (again (pur (aLoad false 1 x0 m) m) x1 && (again (pur (aLoad false 1 x5 m) m) x6 && (again (pur (aLoad false 1 x8 m) m) x9 && (again (pur (aLoad false 1 x11 m) m) x12 && true))))
    (bp (aBuildSlice Q2 [(.string ⟨#[]⟩)] 1 2 [(0, (.string ⟨#[109, 101, 116, 114, 105, 99]⟩)), (1, x14)] m) fun x15 m =>
  bp (G.tab Q6o [x2, x15] m) fun x16 m =>
  ckB (again (pur (aLoad false 1 x5 m) m) x6 && (again (pur (aLoad false 1 x8 m) m) x9 && (again (pur (aLoad false 1 x11 m) m) x12 && true)))
    (bp (G.tab Qe [x7] m) fun x17 m =>
  ckB (again (pur (aLoad false 1 x8 m) m) x9 && (again (pur (aLoad false 1 x11 m) m) x12 && true))
    (bp (aBuildSlice Q2 [(.string ⟨#[]⟩)] 1 2 [(0, (.string ⟨#[116, 121, 112, 101]⟩)), (1, x17)] m) fun x18 m =>
  bp (G.tab Q6o [p3, x18] m) fun x19 m =>
  ckB (again (pur (aLoad false 1 x8 m) m) x9 && (again (pur (aLoad false 1 x11 m) m) x12 && true))
    (bp (G.tab Q6o [x10, x13] m) fun x20 m =>
  bp (aBuildSlice Q2 [(.string ⟨#[]⟩)] 1 5 [(0, (.string ⟨#[114, 101, 100, 105, 115, 116, 114, 105, 98, 117, 116, 101]⟩)), (1, p10), (2, x16), (3, x19), (4, x20)] m) fun x21 m =>
  bp (G.tab Q7 [p0, (.string ⟨#[32]⟩), x21] m) fun x22 m =>
  bp (pur (bin .add true true .int p13 (.int .i64 1)) m) fun x23 m =>
  k0 x23 p12 p11 p2 p0 p3 m))))
def Qhe (G : Gt) (k0 : Value → Value → Value → Value → Value → Value → Mem → Option Rs) (p9 p0 p3 p13 p12 p11 p2 p10 : Value) (m : Mem) : Option Rs :=
  bp (pur (aFieldAddr 0 p9) m) fun x24 m =>
  bp (pur (aLoad false 1 x24 m) m) fun x25 m =>
  bp (pur (bin .eql true true .int x25 (.int .u8 1)) m) fun x26 m =>
  brb x26
    (Q5d G k0 p0 (.string ⟨#[99, 111, 110, 110, 101, 99, 116, 101, 100]⟩) p9 p3 p13 p12 p11 p2 m)
    (bp (pur (bin .eql true true .int x25 (.int .u8 2)) m) fun x27 m =>
  brb x27
    (Q5d G k0 p0 (.string ⟨#[115, 116, 97, 116, 105, 99]⟩) p9 p3 p13 p12 p11 p2 m)
    (Q5d G k0 p0 p10 p9 p3 p13 p12 p11 p2 m))
def Qhf (G : Gt) (k0 : Value → Value → Value → Value → Value → Value → Mem → Option Rs) (p2 p9 p0 p3 p13 p12 p11 : Value) (m : Mem) : Option Rs :=
  Qhe G k0 p9 p0 p3 p13 p12 p11 p2 p2 m
def Qhg (G : Gt) (k0 : Value → Value → Value → Value → Value → Value → Mem → Option Rs) (p11 p13 p2 p0 p3 p12 : Value) (m : Mem) : Option Rs :=
  bp (pur (aIndexAddrSl 4 p11 p13) m) fun x28 m =>
  bp (pur (aLoad true 4 x28 m) m) fun x29 m =>
  bp (some (aNew Q5a Q6u m)) fun x30 m =>
  bp (unt (aStore 4 x30 x29 m)) fun _ m =>
  Qhf G k0 p2 x30 p0 p3 p13 p12 p11 m
def Qhh (G : Gt) (k0 : Value → Value → Value → Value → Value → Value → Mem → Option Rs) (p14 p11 p13 p2 p0 p3 p12 : Value) (m : Mem) : Option Rs :=
  brb p14
    (Qhg G k0 p11 p13 p2 p0 p3 p12 m)
    (some (.tuple ⟨[]⟩, m))
def Q15 (G : Gt) : Nat → Value → Value → Value → Value → Value → Value → Mem → Option Rs
  | 0, _, _, _, _, _, _, _ => none
  | i + 1, p13, p12, p11, p2, p0, p3, m =>
  bp (pur (bin .lss false true .int p13 p12) m) fun x31 m =>
  Qhh G (Q15 G i) x31 p11 p13 p2 p0 p3 p12 m
def Qhi (G : Gt) (p13 p12 p11 p2 p0 p3 : Value) (m : Mem) : Option Rs :=
  Q15 G G.rds p13 p12 p11 p2 p0 p3 m
def Qai (G : Gt) (p1 p2 p0 p3 : Value) (m : Mem) : Option Rs :=
  bp (pur (lenK 1 p1 m) m) fun x32 m =>
  Qhi G (.int .i64 0) x32 p1 p2 p0 p3 m
theorem Qyy (G : Gt) (a0 a1 a2 a3 : Value) (m : Mem) : evFn Go.Proofs.Tryz.prog G.tab G.rds (drOf Go.Proofs.Tryz.prog G.tab) Go.Proofs.Tryz.f26 [a0, a1, a2, a3] m = Qai G a1 a2 a0 a3 m :=
  evFn_of (r := fun ρ m => Qai G (ρ 1) (ρ 2) (ρ 0) (ρ 3) m) rfl rfl (tr (seqQ (f := fun ρ m => Qhi G (ρ 13) (ρ 12) (ρ 11) (ρ 2) (ρ 0) (ρ 3) m) (tr (blockQ (loopQ (fun i ρ m => Q15 G i (ρ 13) (ρ 12) (ρ 11) (ρ 2) (ρ 0) (ρ 3) m) (fun _ _ => rfl) (fun i0 => tr (seqQ (f := fun ρ m => Qhh G (Q15 G i0) (ρ 14) (ρ 11) (ρ 13) (ρ 2) (ρ 0) (ρ 3) (ρ 12) m) (tr (seqQ (f := fun ρ m => Qhg G (Q15 G i0) (ρ 11) (ρ 13) (ρ 2) (ρ 0) (ρ 3) (ρ 12) m) (tr (tr seqD (blockQ (seqQ (f := fun ρ m => Qhf G (Q15 G i0) (ρ 2) (ρ 9) (ρ 0) (ρ 3) (ρ 13) (ρ 12) (ρ 11) m) (tr (seqQ (f := fun ρ m => Qhe G (Q15 G i0) (ρ 9) (ρ 0) (ρ 3) (ρ 13) (ρ 12) (ρ 11) (ρ 2) (ρ 10) m) (tr (seqQ (f := fun ρ m => Q5d G (Q15 G i0) (ρ 0) (ρ 10) (ρ 9) (ρ 3) (ρ 13) (ρ 12) (ρ 11) (ρ 2) m) (fun ρ m => by kernel_rfl)) (fun ρ m => by kernel_rfl))) (fun ρ m => by kernel_rfl))))) (fun ρ m => by kernel_rfl))) (fun ρ m => by kernel_rfl))) (fun ρ m => by kernel_rfl)))) (fun ρ m => by kernel_rfl))) (fun ρ m => by kernel_rfl)) m
def Qyv : Entry Go.Proofs.Tryz.prog := ⟨Qaj, Go.Proofs.Tryz.f26, Go.Proofs.Tryz.func26, by kernel_rfl, arg4 (fun G a0 a1 a2 a3 m => Qai G a1 a2 a0 a3 m), okarg4 Qyy⟩
end
end Go.Ab.Sh

set_option linter.unusedVariables false
set_option maxRecDepth 100000
namespace Go.Ab.Sh
open Go Go.Ab
noncomputable section
def Qpn (G : Gt) (p0 p3 : Value) (m : Mem) : Option Rs :=
  bp (pur (aFieldAddr 5 p3) m) fun x0 m =>
  bp (pur (aLoad false 1 x0 m) m) fun x1 m =>
  bp (G.tab Qaj [p0, x1, (.string ⟨#[111, 115, 112, 102]⟩), (.bool false)] m) fun x2 m =>
  some (.tuple ⟨[]⟩, m)
def Qpo (G : Gt) (k0 : Value → Value → Value → Value → Value → Mem → Option Rs) (p51 p50 p49 p0 p3 : Value) (m : Mem) : Option Rs :=
  bp (pur (bin .add true true .int p51 (.int .i64 1)) m) fun x3 m =>
  k0 x3 p50 p49 p0 p3 m
def Qc1 (G : Gt) (k1 : Value → Value → Value → Value → Value → Value → Value → Value → Value → Mem → Option Rs) (p91 p90 p89 p0 p8 p51 p50 p49 p3 : Value) (m : Mem) : Option Rs :=
  bp (pur (bin .add true true .int p91 (.int .i64 1)) m) fun x4 m =>
  k1 x4 p90 p89 p0 p8 p51 p50 p49 p3 m
def Qnc (G : Gt) (k1 : Value → Value → Value → Value → Value → Value → Value → Value → Value → Mem → Option Rs) (p89 p91 p0 p8 p90 p51 p50 p49 p3 : Value) (m : Mem) : Option Rs :=
  bp (pur (aIndexAddrSl 2 p89 p91) m) fun x5 m =>
  bp (pur (aLoad true 2 x5 m) m) fun x6 m =>
  bp (some (aNew Qw Q1 m)) fun x7 m =>
  bp (unt (aStore 2 x7 x6 m)) fun _ m =>
  bp (pur (aFieldAddr 0 x7) m) fun x8 m =>
  bp (pur (aLoad false 1 x8 m) m) fun x9 m =>
  brb x9
    (bp (pur (aFieldAddr 1 x7) m) fun x10 m =>
  bp (pur (aLoad false 1 x10 m) m) fun x11 m =>
  bp (aBuildSlice Q2 [(.string ⟨#[]⟩)] 1 2 [(0, p8), (1, x11)] m) fun x12 m =>
  bp (G.tab Q7 [p0, (.string ⟨#[32]⟩), x12] m) fun x13 m =>
  Qc1 G k1 p91 p90 p89 p0 p8 p51 p50 p49 p3 m)
    (Qc1 G k1 p91 p90 p89 p0 p8 p51 p50 p49 p3 m)
def Qnd (G : Gt) (k1 : Value → Value → Value → Value → Value → Value → Value → Value → Value → Mem → Option Rs) (k0 : Value → Value → Value → Value → Value → Mem → Option Rs) (p92 p89 p91 p0 p8 p90 p51 p50 p49 p3 : Value) (m : Mem) : Option Rs :=
  brb p92
    (Qnc G k1 p89 p91 p0 p8 p90 p51 p50 p49 p3 m)
    (Qpo G k0 p51 p50 p49 p0 p3 m)
def Q3b (G : Gt) (k0 : Value → Value → Value → Value → Value → Mem → Option Rs) : Nat → Value → Value → Value → Value → Value → Value → Value → Value → Value → Mem → Option Rs
  | 0, _, _, _, _, _, _, _, _, _, _ => none
  | i + 1, p91, p90, p89, p0, p8, p51, p50, p49, p3, m =>
  bp (pur (bin .lss false true .int p91 p90) m) fun x14 m =>
  Qnd G (Q3b G k0 i) k0 x14 p89 p91 p0 p8 p90 p51 p50 p49 p3 m
def Qne (G : Gt) (k0 : Value → Value → Value → Value → Value → Mem → Option Rs) (p91 p90 p89 p0 p8 p51 p50 p49 p3 : Value) (m : Mem) : Option Rs :=
  Q3b G k0 G.rds p91 p90 p89 p0 p8 p51 p50 p49 p3 m
def Qnf (G : Gt) (k0 : Value → Value → Value → Value → Value → Mem → Option Rs) (p7 p0 p8 p51 p50 p49 p3 : Value) (m : Mem) : Option Rs :=
  bp (pur (aFieldAddr 2 p7) m) fun x15 m =>
  bp (pur (aLoad false 1 x15 m) m) fun x16 m =>
  bp (pur (bin .neq true true .str x16 (.string ⟨#[]⟩)) m) fun x17 m =>
  bp (pur (aFieldAddr 2 p7) m) fun x18 m =>
  bp (pur (aLoad false 1 x18 m) m) fun x19 m =>
  bp (pur (bin .add true true .str (.string ⟨#[114, 111, 117, 116, 101, 45, 109, 97, 112, 32]⟩) x19) m) fun x20 m =>
  bp (pur (bin .add true true .str x20 (.string ⟨#[32, 105, 110]⟩)) m) fun x21 m =>
  bp (pur (aBuild Q1 [(0, 1), (1, 1)] [(0, x17), (1, x21)]) m) fun x22 m =>
  bp (pur (aFieldAddr 3 p7) m) fun x23 m =>
  bp (pur (aLoad false 1 x23 m) m) fun x24 m =>
  bp (pur (bin .neq true true .str x24 (.string ⟨#[]⟩)) m) fun x25 m =>
  bp (pur (aFieldAddr 3 p7) m) fun x26 m =>
  bp (pur (aLoad false 1 x26 m) m) fun x27 m =>
  bp (pur (bin .add true true .str (.string ⟨#[114, 111, 117, 116, 101, 45, 109, 97, 112, 32]⟩) x27) m) fun x28 m =>
  bp (pur (bin .add true true .str x28 (.string ⟨#[32, 111, 117, 116]⟩)) m) fun x29 m =>
  bp (pur (aBuild Q1 [(0, 1), (1, 1)] [(0, x25), (1, x29)]) m) fun x30 m =>
  bp (pur (aFieldAddr 4 p7) m) fun x31 m =>
  bp (pur (aLoad false 1 x31 m) m) fun x32 m =>
  bp (pur (aBuild Q1 [(0, 1), (1, 1)] [(0, x32), (1, (.string ⟨#[99, 108, 105, 101, 110, 116]⟩))]) m) fun x33 m =>
  bp (pur (aFieldAddr 5 p7) m) fun x34 m =>
  bp (pur (aLoad false 1 x34 m) m) fun x35 m =>
  bp (pur (aBuild Q1 [(0, 1), (1, 1)] [(0, x35), (1, (.string ⟨#[110, 101, 120, 116, 45, 104, 111, 112, 45, 115, 101, 108, 102]⟩))]) m) fun x36 m =>
  bp (aBuildSlice Qw Q1 2 4 [(0, x22), (1, x30), (2, x33), (3, x36)] m) fun x37 m =>
  bp (pur (lenK 1 x37 m) m) fun x38 m =>
  Qne G k0 (.int .i64 0) x38 x37 p0 p8 p51 p50 p49 p3 m
def Qng (G : Gt) (k0 : Value → Value → Value → Value → Value → Mem → Option Rs) (p0 p8 p7 p51 p50 p49 p3 : Value) (m : Mem) : Option Rs :=
  bp (pur (aFieldAddr 1 p7) m) fun x39 m =>
  bp (pur (aLoad false 1 x39 m) m) fun x40 m =>
  bp (conv (.int .i64) x40 m) fun x41 m =>
  bp (G.tab Qe [x41] m) fun x42 m =>
  bp (aBuildSlice Q2 [(.string ⟨#[]⟩)] 1 3 [(0, p8), (1, (.string ⟨#[97, 115]⟩)), (2, x42)] m) fun x43 m =>
  bp (G.tab Q7 [p0, (.string ⟨#[32]⟩), x43] m) fun x44 m =>
  Qnf G k0 p7 p0 p8 p51 p50 p49 p3 m
def Qnh (G : Gt) (k0 : Value → Value → Value → Value → Value → Mem → Option Rs) (p7 p0 p51 p50 p49 p3 : Value) (m : Mem) : Option Rs :=
  bp (pur (aFieldAddr 0 p7) m) fun x45 m =>
  bp (pur (aLoad false 1 x45 m) m) fun x46 m =>
  bp (G.tab Q1t [x46] m) fun x47 m =>
  bp (pur (bin .add true true .str (.string ⟨#[110, 101, 105, 103, 104, 98, 111, 114, 32]⟩) x47) m) fun x48 m =>
  Qng G k0 p0 x48 p7 p51 p50 p49 p3 m
def Qpp (G : Gt) (k0 : Value → Value → Value → Value → Value → Mem → Option Rs) (p49 p51 p0 p50 p3 : Value) (m : Mem) : Option Rs :=
  bp (pur (aIndexAddrSl 6 p49 p51) m) fun x49 m =>
  bp (pur (aLoad true 6 x49 m) m) fun x50 m =>
  bp (some (aNew Qdp Qi9 m)) fun x51 m =>
  bp (unt (aStore 6 x51 x50 m)) fun _ m =>
  Qnh G k0 x51 p0 p51 p50 p49 p3 m
def Qpq (G : Gt) (k0 : Value → Value → Value → Value → Value → Mem → Option Rs) (p52 p49 p51 p0 p50 p3 : Value) (m : Mem) : Option Rs :=
  brb p52
    (Qpp G k0 p49 p51 p0 p50 p3 m)
    (Qpn G p0 p3 m)
def Qi (G : Gt) : Nat → Value → Value → Value → Value → Value → Mem → Option Rs
  | 0, _, _, _, _, _, _ => none
  | i + 1, p51, p50, p49, p0, p3, m =>
  bp (pur (bin .lss false true .int p51 p50) m) fun x52 m =>
  Qpq G (Qi G i) x52 p49 p51 p0 p50 p3 m
def Qpr (G : Gt) (p51 p50 p49 p0 p3 : Value) (m : Mem) : Option Rs :=
  Qi G G.rds p51 p50 p49 p0 p3 m
def Qps (G : Gt) (p3 p0 : Value) (m : Mem) : Option Rs :=
  bp (pur (aFieldAddr 4 p3) m) fun x53 m =>
  bp (pur (aLoad false 1 x53 m) m) fun x54 m =>
  bp (pur (lenK 1 x54 m) m) fun x55 m =>
  Qpr G (.int .i64 0) x55 x54 p0 p3 m
def Qc2 (G : Gt) : Nat → Value → Value → Value → Value → Value → Mem → Option Rs
  | 0, _, _, _, _, _, _ => none
  | i + 1, p34, p33, p32, p0, p3, m =>
  bp (pur (bin .lss false true .int p34 p33) m) fun x56 m =>
  brb x56
    (bp (pur (aIndexAddrSl 2 p32 p34) m) fun x57 m =>
  bp (pur (aLoad true 2 x57 m) m) fun x58 m =>
  bp (some (aNew Q1d Q19 m)) fun x59 m =>
  bp (unt (aStore 2 x59 x58 m)) fun _ m =>
  bp (pur (aFieldAddr 0 x59) m) fun x60 m =>
  bp (pur (aLoad false 1 x60 m) m) fun x61 m =>
  bp (pur (aFieldAddr 1 x59) m) fun x62 m =>
  bp (pur (aLoad false 1 x62 m) m) fun x63 m =>
  bp (G.tab Q1t [x61] m) fun x64 m =>
  ckB (again (pur (aLoad false 1 x62 m) m) x63 && true)
    (bp (G.tab Qkf [x63, (.bool false)] m) fun x65 m =>
  bp (aBuildSlice Q2 [(.string ⟨#[]⟩)] 1 3 [(0, (.string ⟨#[110, 101, 116, 119, 111, 114, 107]⟩)), (1, x64), (2, x65)] m) fun x66 m =>
  bp (G.tab Q7 [p0, (.string ⟨#[32]⟩), x66] m) fun x67 m =>
  bp (pur (bin .add true true .int p34 (.int .i64 1)) m) fun x68 m =>
  (Qc2 G i) x68 p33 p32 p0 p3 m))
    (Qps G p3 p0 m)
def Qni (G : Gt) (p34 p33 p32 p0 p3 : Value) (m : Mem) : Option Rs :=
  Qc2 G G.rds p34 p33 p32 p0 p3 m
def Qpt (G : Gt) (p3 p0 : Value) (m : Mem) : Option Rs :=
  bp (pur (aFieldAddr 3 p3) m) fun x69 m =>
  bp (pur (aLoad false 1 x69 m) m) fun x70 m =>
  bp (pur (lenK 1 x70 m) m) fun x71 m =>
  Qni G (.int .i64 0) x71 x70 p0 p3 m
def Qpu (G : Gt) (p0 p3 : Value) (m : Mem) : Option Rs :=
  bp (pur (aFieldAddr 2 p3) m) fun x72 m =>
  bp (pur (aLoad false 1 x72 m) m) fun x73 m =>
  bp (G.tab Q1t [x73] m) fun x74 m =>
  bp (aBuildSlice Q2 [(.string ⟨#[]⟩)] 1 2 [(0, (.string ⟨#[114, 111, 117, 116, 101, 114, 45, 105, 100]⟩)), (1, x74)] m) fun x75 m =>
  bp (G.tab Q7 [p0, (.string ⟨#[32]⟩), x75] m) fun x76 m =>
  Qpt G p3 p0 m
def Qpv (G : Gt) (p0 p3 : Value) (m : Mem) : Option Rs :=
  bp (pur (aFieldAddr 1 p3) m) fun x77 m =>
  bp (pur (aLoad false 1 x77 m) m) fun x78 m =>
  bp (conv (.int .i64) x78 m) fun x79 m =>
  bp (pur (aFieldAddr 0 p3) m) fun x80 m =>
  bp (pur (aLoad false 1 x80 m) m) fun x81 m =>
  bp (pur (bin .neq true true .str x81 (.string ⟨#[]⟩)) m) fun x82 m =>
  bp (pur (aFieldAddr 0 p3) m) fun x83 m =>
  bp (pur (aLoad false 1 x83 m) m) fun x84 m =>
  bp (aBuildSlice Q2 [(.string ⟨#[]⟩)] 1 2 [(0, (.string ⟨#[118, 114, 102]⟩)), (1, x84)] m) fun x85 m =>
  bp (G.tab Qe [x79] m) fun x86 m =>
  ckB (again (pur (aLoad false 1 x80 m) m) x81 && (again (pur (aLoad false 1 x83 m) m) x84 && true))
    (bp (G.tab Q6o [x82, x85] m) fun x87 m =>
  bp (aBuildSlice Q2 [(.string ⟨#[]⟩)] 1 3 [(0, (.string ⟨#[114, 111, 117, 116, 101, 114, 32, 98, 103, 112]⟩)), (1, x86), (2, x87)] m) fun x88 m =>
  bp (G.tab Q7 [p0, (.string ⟨#[]⟩), x88] m) fun x89 m =>
  Qpu G p0 p3 m)
def Qhj (G : Gt) (p1 p0 : Value) (m : Mem) : Option Rs :=
  bp (some (aNew Q9y (Value.cells p1).toList m)) fun x90 m =>
  Qpv G p0 x90 m
theorem Q16a (G : Gt) (a0 a1 : Value) (m : Mem) : evFn Go.Proofs.Tryz.prog G.tab G.rds (drOf Go.Proofs.Tryz.prog G.tab) Go.Proofs.Tryz.f27 [a0, a1] m = Qhj G a1 a0 m :=
  evFn_of (r := fun ρ m => Qhj G (ρ 1) (ρ 0) m) rfl rfl (tr (seqQ (f := fun ρ m => Qpv G (ρ 0) (ρ 3) m) (tr (seqQ (f := fun ρ m => Qpu G (ρ 0) (ρ 3) m) (tr (seqQ (f := fun ρ m => Qpt G (ρ 3) (ρ 0) m) (tr (tr (seqQ (f := fun ρ m => Qps G (ρ 3) (ρ 0) m) (tr (tr (seqQ (f := fun ρ m => Qpn G (ρ 0) (ρ 3) m) (fun ρ m => by kernel_rfl)) (seqQ (f := fun ρ m => Qpr G (ρ 51) (ρ 50) (ρ 49) (ρ 0) (ρ 3) m) (tr (blockQ (loopQ (fun i ρ m => Qi G i (ρ 51) (ρ 50) (ρ 49) (ρ 0) (ρ 3) m) (fun _ _ => rfl) (fun i0 => tr (seqQ (f := fun ρ m => Qpq G (Qi G i0) (ρ 52) (ρ 49) (ρ 51) (ρ 0) (ρ 50) (ρ 3) m) (tr (seqQ (f := fun ρ m => Qpp G (Qi G i0) (ρ 49) (ρ 51) (ρ 0) (ρ 50) (ρ 3) m) (tr (tr (seqQ (f := fun ρ m => Qpo G (Qi G i0) (ρ 51) (ρ 50) (ρ 49) (ρ 0) (ρ 3) m) (fun ρ m => by kernel_rfl)) (blockQ (seqQ (f := fun ρ m => Qnh G (Qi G i0) (ρ 7) (ρ 0) (ρ 51) (ρ 50) (ρ 49) (ρ 3) m) (tr (seqQ (f := fun ρ m => Qng G (Qi G i0) (ρ 0) (ρ 8) (ρ 7) (ρ 51) (ρ 50) (ρ 49) (ρ 3) m) (tr (seqQ (f := fun ρ m => Qnf G (Qi G i0) (ρ 7) (ρ 0) (ρ 8) (ρ 51) (ρ 50) (ρ 49) (ρ 3) m) (tr (seqQ (f := fun ρ m => Qne G (Qi G i0) (ρ 91) (ρ 90) (ρ 89) (ρ 0) (ρ 8) (ρ 51) (ρ 50) (ρ 49) (ρ 3) m) (tr (blockQ (loopQ (fun i ρ m => Q3b G (Qi G i0) i (ρ 91) (ρ 90) (ρ 89) (ρ 0) (ρ 8) (ρ 51) (ρ 50) (ρ 49) (ρ 3) m) (fun _ _ => rfl) (fun i1 => tr (seqQ (f := fun ρ m => Qnd G (Q3b G (Qi G i0) i1) (Qi G i0) (ρ 92) (ρ 89) (ρ 91) (ρ 0) (ρ 8) (ρ 90) (ρ 51) (ρ 50) (ρ 49) (ρ 3) m) (tr (seqQ (f := fun ρ m => Qnc G (Q3b G (Qi G i0) i1) (ρ 89) (ρ 91) (ρ 0) (ρ 8) (ρ 90) (ρ 51) (ρ 50) (ρ 49) (ρ 3) m) (tr (seqQ (f := fun ρ m => Qc1 G (Q3b G (Qi G i0) i1) (ρ 91) (ρ 90) (ρ 89) (ρ 0) (ρ 8) (ρ 51) (ρ 50) (ρ 49) (ρ 3) m) (fun ρ m => by kernel_rfl)) (fun ρ m => by kernel_rfl))) (fun ρ m => by kernel_rfl))) (fun ρ m => by kernel_rfl)))) (fun ρ m => by kernel_rfl))) (fun ρ m => by kernel_rfl))) (fun ρ m => by kernel_rfl))) (fun ρ m => by kernel_rfl))))) (fun ρ m => by kernel_rfl))) (fun ρ m => by kernel_rfl))) (fun ρ m => by kernel_rfl)))) (fun ρ m => by kernel_rfl)))) (fun ρ m => by kernel_rfl))) (seqQ (f := fun ρ m => Qni G (ρ 34) (ρ 33) (ρ 32) (ρ 0) (ρ 3) m) (tr (blockQ (loopQ (fun i ρ m => Qc2 G i (ρ 34) (ρ 33) (ρ 32) (ρ 0) (ρ 3) m) (fun _ _ => rfl) (fun i0 => fun ρ m => by kernel_rfl))) (fun ρ m => by kernel_rfl)))) (fun ρ m => by kernel_rfl))) (fun ρ m => by kernel_rfl))) (fun ρ m => by kernel_rfl))) (fun ρ m => by kernel_rfl)) m
def Q15v : Entry Go.Proofs.Tryz.prog := ⟨Qt8, Go.Proofs.Tryz.f27, Go.Proofs.Tryz.func27, by kernel_rfl, arg2 (fun G a0 a1 m => Qhj G a1 a0 m), okarg2 Q16a⟩
def Q7w (G : Gt) (p0 : Value) (m : Mem) : Option Rs :=
  bp (pur (aNilCheck p0) m) fun x0 m =>
  bp (pur (aFieldAddr 1 x0) m) fun x1 m =>
  bp (pur (aLoad false 1 x1 m) m) fun x2 m =>
  bp (pur (aNilCheck p0) m) fun x3 m =>
  bp (pur (aFieldAddr 1 x3) m) fun x4 m =>
  bp (pur (aLoad false 1 x4 m) m) fun x5 m =>
  bp (pur (lenK 1 x5 m) m) fun x6 m =>
  bp (pur (aSliceData x2) m) fun x7 m =>
  ckB (again (pur (aLoad false 1 x4 m) m) x5 && true)
    (bp (aUnsafeString Q3a x7 x6 m) fun x8 m =>
  some (x8, m))
theorem Qva (G : Gt) (a0 : Value) (m : Mem) : evFn Go.Proofs.Tryz.prog G.tab G.rds (drOf Go.Proofs.Tryz.prog G.tab) Go.Proofs.Tryz.f28 [a0] m = Q7w G a0 m :=
  evFn_of (r := fun ρ m => Q7w G (ρ 0) m) rfl rfl (fun ρ m => by kernel_rfl) m
def Qv4 : Entry Go.Proofs.Tryz.prog := ⟨Qg3, Go.Proofs.Tryz.f28, Go.Proofs.Tryz.func28, by kernel_rfl, arg1 (fun G a0 m => Q7w G a0 m), okarg1 Qva⟩
def Qnj (G : Gt) (p5 : Value) (m : Mem) : Option Rs :=
  bp (pur (bin .add true true .str p5 (.string ⟨#[41]⟩)) m) fun x0 m =>
  some (x0, m)
def Qc3 (G : Gt) : Nat → Value → Value → Value → Mem → Option Rs
  | 0, _, _, _, _ => none
  | i + 1, p7, p1, p5, m =>
  bp (pur (lenK 1 p1 m) m) fun x1 m =>
  bp (pur (bin .lss false true .int p7 x1) m) fun x2 m =>
  brb x2
    (bp (pur (aIndexAddrSl 1 p1 p7) m) fun x3 m =>
  bp (pur (aLoad false 1 x3 m) m) fun x4 m =>
  bp (pur (lenK 0 x4 m) m) fun x5 m =>
  bp (pur (aIndexAddrSl 1 p1 p7) m) fun x6 m =>
  bp (pur (aLoad false 1 x6 m) m) fun x7 m =>
  bp (G.tab Qbl [x5] m) fun x8 m =>
  ckB (again (pur (aLoad false 1 x6 m) m) x7 && true)
    (bp (pur (bin .add false true .str p5 x8) m) fun x9 m =>
  bp (pur (bin .add true true .str x9 (.string ⟨#[58]⟩)) m) fun x10 m =>
  bp (pur (bin .add false true .str x10 x7) m) fun x11 m =>
  bp (pur (bin .add true true .int p7 (.int .i64 1)) m) fun x12 m =>
  (Qc3 G i) x12 p1 x11 m))
    (Qnj G p5 m)
def Qnk (G : Gt) (p7 p1 p5 : Value) (m : Mem) : Option Rs :=
  Qc3 G G.rds p7 p1 p5 m
def Qnl (G : Gt) (p1 p5 : Value) (m : Mem) : Option Rs :=
  Qnk G (.int .i64 0) p1 p5 m
def Qc4 (G : Gt) : Nat → Value → Value → Value → Value → Mem → Option Rs
  | 0, _, _, _, _, _ => none
  | i + 1, p6, p0, p5, p1, m =>
  bp (pur (lenK 1 p0 m) m) fun x13 m =>
  bp (pur (bin .lss false true .int p6 x13) m) fun x14 m =>
  brb x14
    (bp (pur (aIndexAddrSl 1 p0 p6) m) fun x15 m =>
  bp (pur (aLoad false 1 x15 m) m) fun x16 m =>
  bp (G.tab Qbl [x16] m) fun x17 m =>
  bp (pur (bin .add false true .str p5 x17) m) fun x18 m =>
  bp (pur (bin .add true true .str x18 (.string ⟨#[44]⟩)) m) fun x19 m =>
  bp (pur (bin .add true true .int p6 (.int .i64 1)) m) fun x20 m =>
  (Qc4 G i) x20 p0 x19 p1 m)
    (Qnl G p1 p5 m)
def Qnm (G : Gt) (p6 p0 p5 p1 : Value) (m : Mem) : Option Rs :=
  Qc4 G G.rds p6 p0 p5 p1 m
def Qnn (G : Gt) (p0 p5 p1 : Value) (m : Mem) : Option Rs :=
  Qnm G (.int .i64 0) p0 p5 p1 m
def Qno (G : Gt) (p0 p1 : Value) (m : Mem) : Option Rs :=
  Qnn G p0 (.string ⟨#[40]⟩) p1 m
def Qf9 (G : Gt) (p0 p1 : Value) (m : Mem) : Option Rs :=
  Qno G p0 p1 m
theorem Q14l (G : Gt) (a0 a1 : Value) (m : Mem) : evFn Go.Proofs.Tryz.prog G.tab G.rds (drOf Go.Proofs.Tryz.prog G.tab) Go.Proofs.Tryz.f29 [a0, a1] m = Qf9 G a0 a1 m :=
  evFn_of (r := fun ρ m => Qf9 G (ρ 0) (ρ 1) m) rfl rfl (tr (seqQ (f := fun ρ m => Qno G (ρ 0) (ρ 1) m) (tr (seqQ (f := fun ρ m => Qnn G (ρ 0) (ρ 5) (ρ 1) m) (tr (tr (seqQ (f := fun ρ m => Qnl G (ρ 1) (ρ 5) m) (tr (tr (seqQ (f := fun ρ m => Qnj G (ρ 5) m) (fun ρ m => by kernel_rfl)) (seqQ (f := fun ρ m => Qnk G (ρ 7) (ρ 1) (ρ 5) m) (tr (blockQ (loopQ (fun i ρ m => Qc3 G i (ρ 7) (ρ 1) (ρ 5) m) (fun _ _ => rfl) (fun i0 => fun ρ m => by kernel_rfl))) (fun ρ m => by kernel_rfl)))) (fun ρ m => by kernel_rfl))) (seqQ (f := fun ρ m => Qnm G (ρ 6) (ρ 0) (ρ 5) (ρ 1) m) (tr (blockQ (loopQ (fun i ρ m => Qc4 G i (ρ 6) (ρ 0) (ρ 5) (ρ 1) m) (fun _ _ => rfl) (fun i0 => fun ρ m => by kernel_rfl))) (fun ρ m => by kernel_rfl)))) (fun ρ m => by kernel_rfl))) (fun ρ m => by kernel_rfl))) (fun ρ m => by kernel_rfl)) m
def Q14a : Entry Go.Proofs.Tryz.prog := ⟨Qa, Go.Proofs.Tryz.f29, Go.Proofs.Tryz.func29, by kernel_rfl, arg2 (fun G a0 a1 m => Qf9 G a0 a1 m), okarg2 Q14l⟩
def Qhk (G : Gt) (p0 : Value) (m : Mem) : Option Rs :=
  brb p0
    (some ((.int .i64 1), m))
    (some ((.int .i64 0), m))
theorem Q16b (G : Gt) (a0 : Value) (m : Mem) : evFn Go.Proofs.Tryz.prog G.tab G.rds (drOf Go.Proofs.Tryz.prog G.tab) Go.Proofs.Tryz.f30 [a0] m = Qhk G a0 m :=
  evFn_of (r := fun ρ m => Qhk G (ρ 0) m) rfl rfl (fun ρ m => by kernel_rfl) m
def Q166 : Entry Go.Proofs.Tryz.prog := ⟨Qz, Go.Proofs.Tryz.f30, Go.Proofs.Tryz.func30, by kernel_rfl, arg1 (fun G a0 m => Qhk G a0 m), okarg1 Q16b⟩
end
end Go.Ab.Sh
