/-
  Functions of the program as plain definitions, each with the theorem that it is what the evaluator makes of the code. No conditions.
-/
import Derived.Test.YtbjgjnkihdddlaaGreatDoorAb4
import Derived.Test.YtbjgjnkihdddlaaGreatDoorZ
import Derived.KernelRfl
import Derived.Test.YtbjgjnkihdddlaaGreatDoorProg
set_option linter.unusedVariables false
set_option maxRecDepth 100000
namespace Go.Ab.Sh
open Go Go.Ab
noncomputable section
def Qdv (G : Gt) (m : Mem) : Option Rs :=
  bp (pur (aBuild Q3d [(0, 1), (1, 1), (2, 1), (3, 1), (4, 1), (5, 1), (6, 1), (7, 1), (8, 1), (9, 1), (10, 1), (11, 1)] []) m) fun x0 m =>
  bp (G.tab Qgl [x0] m) fun x1 m =>
  bp (pur (aExtract x1 0) m) fun x2 m =>
  bp (pur (aExtract x1 1) m) fun x3 m =>
  bp (pur (bin .eql true true .int x3 (.int .i64 121)) m) fun x4 m =>
  some (x4, m)
def Q3o (G : Gt) (k0 : Value → Value → Value → Mem → Option Rs) (p207 p179 p178 p177 : Value) (m : Mem) : Option Rs :=
  brb p207
    (some ((.bool false), m))
    (bp (pur (bin .add true true .int p179 (.int .i64 1)) m) fun x5 m =>
  k0 x5 p178 p177 m)
def Qck (G : Gt) (k0 : Value → Value → Value → Mem → Option Rs) (p13 p10 p12 p179 p178 p177 : Value) (m : Mem) : Option Rs :=
  bp (pur (aFieldAddr 3 p10) m) fun x6 m =>
  bp (pur (aLoad false 1 x6 m) m) fun x7 m =>
  bp (pur (bin .neq false true .int p13 x7) m) fun x8 m =>
  brb x8
    (Q3o G k0 (.bool true) p179 p178 p177 m)
    (bp (pur (aFieldAddr 0 p12) m) fun x9 m =>
  bp (pur (aLoad false 1 x9 m) m) fun x10 m =>
  bp (pur (aFieldAddr 1 p10) m) fun x11 m =>
  bp (pur (aLoad false 1 x11 m) m) fun x12 m =>
  bp (pur (bin .neq false true .int x10 x12) m) fun x13 m =>
  brb x13
    (Q3o G k0 (.bool true) p179 p178 p177 m)
    (bp (pur (aFieldAddr 1 p12) m) fun x14 m =>
  bp (pur (aLoad false 1 x14 m) m) fun x15 m =>
  bp (pur (aFieldAddr 2 p10) m) fun x16 m =>
  bp (pur (aLoad false 1 x16 m) m) fun x17 m =>
  bp (pur (bin .neq false true .int x15 x17) m) fun x18 m =>
  Q3o G k0 x18 p179 p178 p177 m))
def Qcl (G : Gt) (k0 : Value → Value → Value → Mem → Option Rs) (p10 p179 p178 p177 : Value) (m : Mem) : Option Rs :=
  bp (pur (aFieldAddr 0 p10) m) fun x19 m =>
  bp (pur (aLoad false 1 x19 m) m) fun x20 m =>
  bp (G.tab Q5 [x20] m) fun x21 m =>
  bp (pur (aExtract x21 0) m) fun x22 m =>
  bp (pur (aExtract x21 1) m) fun x23 m =>
  bp (pur (aExtract x21 2) m) fun x24 m =>
  bp (some (aNew Qq Q3d m)) fun x25 m =>
  bp (some (aNew Qr Qk m)) fun x26 m =>
  bp (unt (aStore 12 x25 x22 m)) fun _ m =>
  bp (unt (aStore 2 x26 x23 m)) fun _ m =>
  Qck G k0 x24 p10 x26 p179 p178 p177 m
def Qcm (G : Gt) (k0 : Value → Value → Value → Mem → Option Rs) (p177 p179 p178 : Value) (m : Mem) : Option Rs :=
  bp (pur (aIndexAddrSl 4 p177 p179) m) fun x27 m =>
  bp (pur (aLoad true 4 x27 m) m) fun x28 m =>
  bp (some (aNew Q2p Q0 m)) fun x29 m =>
  bp (unt (aStore 4 x29 x28 m)) fun _ m =>
  Qcl G k0 x29 p179 p178 p177 m
def Qdw (G : Gt) (k0 : Value → Value → Value → Mem → Option Rs) (p180 p177 p179 p178 : Value) (m : Mem) : Option Rs :=
  brb p180
    (Qcm G k0 p177 p179 p178 m)
    (Qdv G m)
def Qy (G : Gt) : Nat → Value → Value → Value → Mem → Option Rs
  | 0, _, _, _, _ => none
  | i + 1, p179, p178, p177, m =>
  bp (pur (bin .lss false true .int p179 p178) m) fun x30 m =>
  Qdw G (Qy G i) x30 p177 p179 p178 m
def Qdx (G : Gt) (p179 p178 p177 : Value) (m : Mem) : Option Rs :=
  Qy G G.rds p179 p178 p177 m
def Qdy (G : Gt) (m : Mem) : Option Rs :=
  bp (pur (aBuild Q0 [(0, 1), (1, 1), (2, 1), (3, 1)] [(0, (.string ⟨#[32, 97, 100, 100, 114, 101, 115, 115]⟩)), (1, (.int .i64 1)), (2, (.int .i64 2)), (3, (.int .i64 70))]) m) fun x31 m =>
  bp (pur (aBuild Q0 [(0, 1), (1, 1), (2, 1), (3, 1)] [(0, (.string ⟨#[104, 111, 115, 116, 110, 97, 109, 101, 32, 97, 10, 32, 120]⟩)), (1, (.int .i64 2)), (2, (.int .i64 2)), (3, (.int .i64 70))]) m) fun x32 m =>
  bp (pur (aBuild Q0 [(0, 1), (1, 1), (2, 1), (3, 1)] [(0, (.string ⟨#[105, 110, 116, 101, 114, 102, 97, 99, 101, 32, 101, 10, 32, 32, 115, 104, 117, 116, 100, 111, 119, 110]⟩)), (1, (.int .i64 2)), (2, (.int .i64 3)), (3, (.int .i64 70))]) m) fun x33 m =>
  bp (pur (aBuild Q0 [(0, 1), (1, 1), (2, 1), (3, 1)] [(0, (.string ⟨#[105, 110, 116, 101, 114, 102, 97, 99, 101, 32, 101, 10, 104, 111, 115, 116, 110, 97, 109, 101, 32, 97, 10, 32, 115, 104, 117, 116, 100, 111, 119, 110]⟩)), (1, (.int .i64 3)), (2, (.int .i64 2)), (3, (.int .i64 70))]) m) fun x34 m =>
  bp (pur (aBuild Q0 [(0, 1), (1, 1), (2, 1), (3, 1)] [(0, (.string ⟨#[104, 111, 115, 116, 110, 97, 109, 101]⟩)), (1, (.int .i64 1)), (2, (.int .i64 9)), (3, (.int .i64 130))]) m) fun x35 m =>
  bp (pur (aBuild Q0 [(0, 1), (1, 1), (2, 1), (3, 1)] [(0, (.string ⟨#[104, 111, 115, 116, 110, 97, 109, 101, 32, 97, 32, 98]⟩)), (1, (.int .i64 1)), (2, (.int .i64 12)), (3, (.int .i64 130))]) m) fun x36 m =>
  bp (pur (aBuild Q0 [(0, 1), (1, 1), (2, 1), (3, 1)] [(0, (.string ⟨#[104, 111, 115, 116, 110, 97, 109, 101, 32, 49]⟩)), (1, (.int .i64 1)), (2, (.int .i64 10)), (3, (.int .i64 130))]) m) fun x37 m =>
  bp (pur (aBuild Q0 [(0, 1), (1, 1), (2, 1), (3, 1)] [(0, (.string ⟨#[104, 111, 115, 116, 32, 97]⟩)), (1, (.int .i64 1)), (2, (.int .i64 1)), (3, (.int .i64 130))]) m) fun x38 m =>
  bp (pur (aBuild Q0 [(0, 1), (1, 1), (2, 1), (3, 1)] [(0, (.string ⟨#[105, 110, 116, 101, 114, 102, 97, 99, 101, 32, 101, 48, 10, 32, 111, 115, 112, 102, 32, 99, 111, 115, 116, 32, 48]⟩)), (1, (.int .i64 2)), (2, (.int .i64 12)), (3, (.int .i64 131))]) m) fun x39 m =>
  bp (pur (aBuild Q0 [(0, 1), (1, 1), (2, 1), (3, 1)] [(0, (.string ⟨#[105, 110, 116, 101, 114, 102, 97, 99, 101, 32, 101, 48, 10, 32, 111, 115, 112, 102, 32, 99, 111, 115, 116, 32, 54, 53, 53, 51, 54]⟩)), (1, (.int .i64 2)), (2, (.int .i64 12)), (3, (.int .i64 131))]) m) fun x40 m =>
  bp (pur (aBuild Q0 [(0, 1), (1, 1), (2, 1), (3, 1)] [(0, (.string ⟨#[105, 110, 116, 101, 114, 102, 97, 99, 101, 32, 101, 48, 10, 32, 111, 115, 112, 102, 32, 99, 111, 115, 116, 32, 48, 49]⟩)), (1, (.int .i64 2)), (2, (.int .i64 12)), (3, (.int .i64 130))]) m) fun x41 m =>
  bp (pur (aBuild Q0 [(0, 1), (1, 1), (2, 1), (3, 1)] [(0, (.string ⟨#[105, 110, 116, 101, 114, 102, 97, 99, 101, 32, 101, 48, 10, 32, 111, 115, 112, 102, 32, 99, 111, 115, 116, 32, 57, 57, 57, 57, 57, 57, 57, 57, 57, 57, 57, 57, 57, 57, 57, 57, 57, 57, 57, 57]⟩)), (1, (.int .i64 2)), (2, (.int .i64 12)), (3, (.int .i64 131))]) m) fun x42 m =>
  bp (pur (aBuild Q0 [(0, 1), (1, 1), (2, 1), (3, 1)] [(0, (.string ⟨#[105, 110, 116, 101, 114, 102, 97, 99, 101, 32, 101, 48, 10, 32, 97, 100, 100, 114, 101, 115, 115, 32, 49, 48, 46, 48, 46, 48, 46, 49, 32, 48, 46, 48, 46, 48, 46, 48]⟩)), (1, (.int .i64 2)), (2, (.int .i64 19)), (3, (.int .i64 10))]) m) fun x43 m =>
  bp (pur (aBuild Q0 [(0, 1), (1, 1), (2, 1), (3, 1)] [(0, (.string ⟨#[105, 112, 32, 114, 111, 117, 116, 101, 32, 49, 48, 46, 48, 46, 48, 46, 49, 32, 50, 53, 53, 46, 48, 46, 48, 46, 48, 32, 100, 105, 115, 99, 97, 114, 100]⟩)), (1, (.int .i64 1)), (2, (.int .i64 19)), (3, (.int .i64 10))]) m) fun x44 m =>
  bp (pur (aBuild Q0 [(0, 1), (1, 1), (2, 1), (3, 1)] [(0, (.string ⟨#[105, 112, 32, 114, 111, 117, 116, 101, 32, 49, 48, 46, 48, 46, 48, 46, 48, 32, 50, 53, 53, 46, 48, 46, 50, 53, 53, 46, 48, 32, 100, 105, 115, 99, 97, 114, 100]⟩)), (1, (.int .i64 1)), (2, (.int .i64 19)), (3, (.int .i64 10))]) m) fun x45 m =>
  bp (pur (aBuild Q0 [(0, 1), (1, 1), (2, 1), (3, 1)] [(0, (.string ⟨#[105, 112, 32, 114, 111, 117, 116, 101, 32, 49, 48, 46, 48, 46, 48, 46, 48, 32, 50, 53, 53, 46, 48, 46, 48, 46, 48, 32, 48, 46, 48, 46, 48, 46, 48]⟩)), (1, (.int .i64 1)), (2, (.int .i64 29)), (3, (.int .i64 131))]) m) fun x46 m =>
  bp (pur (aBuild Q0 [(0, 1), (1, 1), (2, 1), (3, 1)] [(0, (.string ⟨#[104, 111, 115, 116, 110, 97, 109, 101, 32, 97, 10, 104, 111, 115, 116, 110, 97, 109, 101, 32, 98]⟩)), (1, (.int .i64 2)), (2, (.int .i64 1)), (3, (.int .i64 7))]) m) fun x47 m =>
  bp (pur (aBuild Q0 [(0, 1), (1, 1), (2, 1), (3, 1)] [(0, (.string ⟨#[105, 110, 116, 101, 114, 102, 97, 99, 101, 32, 101, 10, 105, 110, 116, 101, 114, 102, 97, 99, 101, 32, 101]⟩)), (1, (.int .i64 2)), (2, (.int .i64 1)), (3, (.int .i64 7))]) m) fun x48 m =>
  bp (pur (aBuild Q0 [(0, 1), (1, 1), (2, 1), (3, 1)] [(0, (.string ⟨#[105, 110, 116, 101, 114, 102, 97, 99, 101, 32, 101, 10, 32, 115, 104, 117, 116, 100, 111, 119, 110, 10, 32, 115, 104, 117, 116, 100, 111, 119, 110]⟩)), (1, (.int .i64 3)), (2, (.int .i64 2)), (3, (.int .i64 7))]) m) fun x49 m =>
  bp (pur (aBuild Q0 [(0, 1), (1, 1), (2, 1), (3, 1)] [(0, (.string ⟨#[114, 111, 117, 116, 101, 45, 109, 97, 112, 32, 109, 32, 112, 101, 114, 109, 105, 116, 32, 49, 10, 114, 111, 117, 116, 101, 45, 109, 97, 112, 32, 109, 32, 100, 101, 110, 121, 32, 49]⟩)), (1, (.int .i64 2)), (2, (.int .i64 1)), (3, (.int .i64 7))]) m) fun x50 m =>
  bp (pur (aBuild Q0 [(0, 1), (1, 1), (2, 1), (3, 1)] [(0, (.string ⟨#[114, 111, 117, 116, 101, 114, 32, 111, 115, 112, 102, 10, 114, 111, 117, 116, 101, 114, 32, 111, 115, 112, 102]⟩)), (1, (.int .i64 2)), (2, (.int .i64 1)), (3, (.int .i64 7))]) m) fun x51 m =>
  bp (pur (aBuild Q0 [(0, 1), (1, 1), (2, 1), (3, 1)] [(0, (.string ⟨#[114, 111, 117, 116, 101, 114, 32, 98, 103, 112, 32, 49, 10, 32, 110, 101, 105, 103, 104, 98, 111, 114, 32, 49, 48, 46, 48, 46, 48, 46, 50, 32, 99, 108, 105, 101, 110, 116]⟩)), (1, (.int .i64 2)), (2, (.int .i64 2)), (3, (.int .i64 120))]) m) fun x52 m =>
  bp (pur (aBuild Q0 [(0, 1), (1, 1), (2, 1), (3, 1)] [(0, (.string ⟨#[114, 111, 117, 116, 101, 114, 32, 98, 103, 112, 32, 49, 10, 32, 110, 101, 105, 103, 104, 98, 111, 114, 32, 49, 48, 46, 48, 46, 48, 46, 50, 32, 97, 115, 32, 50, 10, 32, 110, 101, 105, 103, 104, 98, 111, 114, 32, 49, 48, 46, 48, 46, 48, 46, 50, 32, 97, 115, 32, 50]⟩)), (1, (.int .i64 3)), (2, (.int .i64 2)), (3, (.int .i64 7))]) m) fun x53 m =>
  bp (pur (aBuild Q0 [(0, 1), (1, 1), (2, 1), (3, 1)] [(0, (.string ⟨#[114, 111, 117, 116, 101, 114, 32, 98, 103, 112, 32, 48]⟩)), (1, (.int .i64 1)), (2, (.int .i64 12)), (3, (.int .i64 131))]) m) fun x54 m =>
  bp (pur (aBuild Q0 [(0, 1), (1, 1), (2, 1), (3, 1)] [(0, (.string ⟨#[]⟩)), (1, (.int .i64 0)), (2, (.int .i64 0)), (3, (.int .i64 5))]) m) fun x55 m =>
  bp (pur (aBuild Q0 [(0, 1), (1, 1), (2, 1), (3, 1)] [(0, (.string ⟨#[118, 114, 102, 32, 97]⟩)), (1, (.int .i64 0)), (2, (.int .i64 0)), (3, (.int .i64 5))]) m) fun x56 m =>
  bp (pur (aBuild Q0 [(0, 1), (1, 1), (2, 1), (3, 1)] [(0, (.string ⟨#[105, 112, 32, 102, 105, 108, 116, 101, 114, 32, 102, 10, 32, 112, 101, 114, 109, 105, 116, 32, 105, 99, 109, 112, 32, 97, 110, 121, 32, 101, 113, 32, 49, 32, 97, 110, 121]⟩)), (1, (.int .i64 2)), (2, (.int .i64 18)), (3, (.int .i64 130))]) m) fun x57 m =>
  bp (pur (aBuild Q0 [(0, 1), (1, 1), (2, 1), (3, 1)] [(0, (.string ⟨#[105, 112, 32, 102, 105, 108, 116, 101, 114, 32, 102, 10, 32, 112, 101, 114, 109, 105, 116, 32, 116, 99, 112, 32, 97, 110, 121, 32, 114, 97, 110, 103, 101, 32, 50, 32, 49, 32, 97, 110, 121]⟩)), (1, (.int .i64 2)), (2, (.int .i64 25)), (3, (.int .i64 131))]) m) fun x58 m =>
  bp (pur (aBuild Q0 [(0, 1), (1, 1), (2, 1), (3, 1)] [(0, (.string ⟨#[114, 111, 117, 116, 101, 45, 109, 97, 112, 32, 109, 32, 112, 101, 114, 109, 105, 116, 32, 53, 10, 32, 99, 111, 110, 116, 105, 110, 117, 101, 32, 53]⟩)), (1, (.int .i64 2)), (2, (.int .i64 11)), (3, (.int .i64 131))]) m) fun x59 m =>
  bp (pur (aBuild Q0 [(0, 1), (1, 1), (2, 1), (3, 1)] [(0, (.string ⟨#[104, 111, 115, 116, 110, 97, 109, 101, 32, 97, 9]⟩)), (1, (.int .i64 1)), (2, (.int .i64 11)), (3, (.int .i64 70))]) m) fun x60 m =>
  bp (aBuildSlice Q2p Q0 4 30 [(0, x31), (1, x32), (2, x33), (3, x34), (4, x35), (5, x36), (6, x37), (7, x38), (8, x39), (9, x40), (10, x41), (11, x42), (12, x43), (13, x44), (14, x45), (15, x46), (16, x47), (17, x48), (18, x49), (19, x50), (20, x51), (21, x52), (22, x53), (23, x54), (24, x55), (25, x56), (26, x57), (27, x58), (28, x59), (29, x60)] m) fun x61 m =>
  bp (pur (lenK 1 x61 m) m) fun x62 m =>
  Qdx G (.int .i64 0) x62 x61 m
def Qb (G : Gt) (p146 : Value) (m : Mem) : Option Rs :=
  brb p146
    (some ((.bool false), m))
    (Qdy G m)
def Qdz (G : Gt) (p3 p5 p8 p1 p6 : Value) (m : Mem) : Option Rs :=
  bp (pur (bin .neq true true .int p3 (.int .i64 0)) m) fun x63 m =>
  brt x63
    (Qb G (.bool true) m)
    (bp (pur (bin .neq true true .int p5 (.int .i64 0)) m) fun x64 m =>
  brt x64
    (Qb G (.bool true) m)
    (bp (pur (bin .neq true true .int p8 (.int .i64 0)) m) fun x65 m =>
  brt x65
    (Qb G (.bool true) m)
    (bp (pur (aLoad true 12 p1 m) m) fun x66 m =>
  bp (pur (aLoad true 12 p6 m) m) fun x67 m =>
  bp (G.tab Q5u [x66] m) fun x68 m =>
  ckB (again (pur (aLoad true 12 p6 m) m) x67 && true)
    (bp (G.tab Q5u [x67] m) fun x69 m =>
  bp (pur (bin .neq false true .str x68 x69) m) fun x70 m =>
  brt x70
    (Qb G (.bool true) m)
    (bp (pur (aFieldAddr 9 p1) m) fun x71 m =>
  bp (pur (aLoad false 1 x71 m) m) fun x72 m =>
  bp (pur (lenK 1 x72 m) m) fun x73 m =>
  bp (pur (bin .neq true true .int x73 (.int .i64 1)) m) fun x74 m =>
  brt x74
    (Qb G (.bool true) m)
    (bp (pur (aFieldAddr 9 p1) m) fun x75 m =>
  bp (pur (aLoad false 1 x75 m) m) fun x76 m =>
  bp (pur (aIndexAddrSl 3 x76 (.int .i64 0)) m) fun x77 m =>
  bp (pur (aFieldAddr 1 x77) m) fun x78 m =>
  bp (pur (aLoad false 1 x78 m) m) fun x79 m =>
  bp (pur (lenK 1 x79 m) m) fun x80 m =>
  bp (pur (bin .neq true true .int x80 (.int .i64 3)) m) fun x81 m =>
  brt x81
    (Qb G (.bool true) m)
    (bp (pur (aFieldAddr 9 p1) m) fun x82 m =>
  bp (pur (aLoad false 1 x82 m) m) fun x83 m =>
  bp (pur (aIndexAddrSl 3 x83 (.int .i64 0)) m) fun x84 m =>
  bp (pur (aFieldAddr 1 x84) m) fun x85 m =>
  bp (pur (aLoad false 1 x85 m) m) fun x86 m =>
  bp (pur (aIndexAddrSl 15 x86 (.int .i64 0)) m) fun x87 m =>
  bp (pur (aFieldAddr 0 x87) m) fun x88 m =>
  bp (pur (aLoad false 1 x88 m) m) fun x89 m =>
  bp (pur (bin .neq true true .int x89 (.int .i64 10)) m) fun x90 m =>
  brt x90
    (Qb G (.bool true) m)
    (bp (pur (aFieldAddr 9 p1) m) fun x91 m =>
  bp (pur (aLoad false 1 x91 m) m) fun x92 m =>
  bp (pur (aIndexAddrSl 3 x92 (.int .i64 0)) m) fun x93 m =>
  bp (pur (aFieldAddr 1 x93) m) fun x94 m =>
  bp (pur (aLoad false 1 x94 m) m) fun x95 m =>
  bp (pur (aIndexAddrSl 15 x95 (.int .i64 1)) m) fun x96 m =>
  bp (pur (aFieldAddr 14 x96) m) fun x97 m =>
  bp (pur (aLoad false 1 x97 m) m) fun x98 m =>
  bp (pur (bin .neq true true .int x98 (.int .i64 30)) m) fun x99 m =>
  brt x99
    (Qb G (.bool true) m)
    (bp (pur (aFieldAddr 7 p1) m) fun x100 m =>
  bp (pur (aLoad false 1 x100 m) m) fun x101 m =>
  bp (pur (aIndexAddrSl 2 x101 (.int .i64 0)) m) fun x102 m =>
  bp (pur (aFieldAddr 1 x102) m) fun x103 m =>
  bp (pur (aLoad false 1 x103 m) m) fun x104 m =>
  bp (pur (lenK 1 x104 m) m) fun x105 m =>
  bp (pur (bin .neq true true .int x105 (.int .i64 4)) m) fun x106 m =>
  brt x106
    (Qb G (.bool true) m)
    (bp (pur (aFieldAddr 7 p1) m) fun x107 m =>
  bp (pur (aLoad false 1 x107 m) m) fun x108 m =>
  bp (pur (aIndexAddrSl 2 x108 (.int .i64 0)) m) fun x109 m =>
  bp (pur (aFieldAddr 1 x109) m) fun x110 m =>
  bp (pur (aLoad false 1 x110 m) m) fun x111 m =>
  bp (pur (aIndexAddrSl 5 x111 (.int .i64 2)) m) fun x112 m =>
  bp (pur (aFieldAddr 4 x112) m) fun x113 m =>
  bp (pur (aLoad false 1 x113 m) m) fun x114 m =>
  bp (pur (bin .neq true true .int x114 (.int .i64 32)) m) fun x115 m =>
  brt x115
    (Qb G (.bool true) m)
    (bp (pur (aFieldAddr 4 p1) m) fun x116 m =>
  bp (pur (aLoad false 1 x116 m) m) fun x117 m =>
  bp (pur (aIndexAddrSl 2 x117 (.int .i64 0)) m) fun x118 m =>
  bp (pur (aFieldAddr 1 x118) m) fun x119 m =>
  bp (pur (aLoad false 1 x119 m) m) fun x120 m =>
  bp (pur (aIndexAddrSl 10 x120 (.int .i64 0)) m) fun x121 m =>
  bp (pur (aFieldAddr 6 x121) m) fun x122 m =>
  bp (pur (aFieldAddr 1 x122) m) fun x123 m =>
  bp (pur (aLoad false 1 x123 m) m) fun x124 m =>
  bp (pur (bin .neq true true .int x124 (.int .u32 80)) m) fun x125 m =>
  brt x125
    (Qb G (.bool true) m)
    (bp (pur (aFieldAddr 11 p1) m) fun x126 m =>
  bp (pur (aLoad false 1 x126 m) m) fun x127 m =>
  bp (pur (aIndexAddrSl 6 x127 (.int .i64 0)) m) fun x128 m =>
  bp (pur (aFieldAddr 4 x128) m) fun x129 m =>
  bp (pur (aLoad false 1 x129 m) m) fun x130 m =>
  bp (pur (lenK 1 x130 m) m) fun x131 m =>
  bp (pur (bin .neq true true .int x131 (.int .i64 2)) m) fun x132 m =>
  Qb G x132 m)
    (none))
    (none))
    (none))
    (none))
    (none))
    (none))
    (none))
    (none)))
    (none))
    (none))
    (none)
def Qe0 (G : Gt) (p4 p3 p5 p1 : Value) (m : Mem) : Option Rs :=
  bp (G.tab Q5 [p4] m) fun x133 m =>
  bp (pur (aExtract x133 0) m) fun x134 m =>
  bp (pur (aExtract x133 1) m) fun x135 m =>
  bp (pur (aExtract x133 2) m) fun x136 m =>
  bp (some (aNew Qq Q3d m)) fun x137 m =>
  bp (some (aNew Qr Qk m)) fun x138 m =>
  bp (unt (aStore 12 x137 x134 m)) fun _ m =>
  bp (unt (aStore 2 x138 x135 m)) fun _ m =>
  Qdz G p3 p5 x136 p1 x137 m
def Qe1 (G : Gt) (p1 p3 : Value) (m : Mem) : Option Rs :=
  bp (pur (aLoad true 12 p1 m) m) fun x139 m =>
  bp (G.tab Qgl [x139] m) fun x140 m =>
  bp (pur (aExtract x140 0) m) fun x141 m =>
  bp (pur (aExtract x140 1) m) fun x142 m =>
  Qe0 G x141 p3 x142 p1 m
def Qe2 (G : Gt) (m : Mem) : Option Rs :=
  bp (G.tab Q5 [(.string ⟨#[104, 111, 115, 116, 110, 97, 109, 101, 32, 97, 10, 105, 110, 116, 101, 114, 102, 97, 99, 101, 32, 101, 48, 10, 32, 97, 100, 100, 114, 101, 115, 115, 32, 49, 48, 46, 48, 46, 48, 46, 49, 32, 50, 53, 53, 46, 50, 53, 53, 46, 50, 53, 53, 46, 48, 10, 32, 111, 115, 112, 102, 32, 97, 114, 101, 97, 32, 48, 10, 32, 111, 115, 112, 102, 32, 99, 111, 115, 116, 32, 53, 10, 32, 111, 115, 112, 102, 32, 112, 97, 115, 115, 105, 118, 101, 10, 32, 102, 105, 108, 116, 101, 114, 32, 102, 32, 105, 110, 10, 32, 102, 105, 108, 116, 101, 114, 32, 102, 32, 111, 117, 116, 10, 32, 110, 97, 116, 32, 105, 110, 115, 105, 100, 101, 10, 32, 115, 104, 117, 116, 100, 111, 119, 110, 10, 118, 114, 102, 32, 114, 101, 100, 10, 105, 110, 116, 101, 114, 102, 97, 99, 101, 32, 101, 49, 10, 32, 118, 114, 102, 32, 114, 101, 100, 10, 32, 110, 97, 116, 32, 111, 117, 116, 115, 105, 100, 101, 10, 33, 32, 97, 32, 110, 111, 116, 101, 10, 105, 112, 32, 102, 105, 108, 116, 101, 114, 32, 102, 10, 32, 112, 101, 114, 109, 105, 116, 32, 116, 99, 112, 32, 97, 110, 121, 32, 101, 113, 32, 56, 48, 32, 104, 111, 115, 116, 32, 49, 48, 46, 48, 46, 48, 46, 49, 32, 114, 97, 110, 103, 101, 32, 49, 32, 50, 10, 32, 100, 101, 110, 121, 32, 56, 57, 32, 49, 48, 46, 48, 46, 48, 46, 48, 32, 48, 46, 48, 46, 48, 46, 50, 53, 53, 32, 97, 110, 121, 10, 32, 112, 101, 114, 109, 105, 116, 32, 117, 100, 112, 32, 97, 110, 121, 32, 97, 110, 121, 10, 32, 100, 101, 110, 121, 32, 105, 99, 109, 112, 32, 97, 110, 121, 32, 97, 110, 121, 10, 32, 112, 101, 114, 109, 105, 116, 32, 97, 110, 121, 32, 97, 110, 121, 32, 97, 110, 121, 10, 105, 112, 32, 110, 97, 116, 32, 115, 111, 117, 114, 99, 101, 32, 102, 105, 108, 116, 101, 114, 32, 102, 32, 116, 111, 32, 49, 46, 50, 46, 51, 46, 52, 10, 105, 112, 32, 110, 97, 116, 32, 100, 101, 115, 116, 105, 110, 97, 116, 105, 111, 110, 32, 102, 105, 108, 116, 101, 114, 32, 102, 32, 116, 111, 32, 49, 46, 50, 46, 51, 46, 53, 10, 105, 112, 32, 114, 111, 117, 116, 101, 32, 48, 46, 48, 46, 48, 46, 48, 32, 48, 46, 48, 46, 48, 46, 48, 32, 49, 48, 46, 48, 46, 48, 46, 50, 10, 105, 112, 32, 114, 111, 117, 116, 101, 32, 118, 114, 102, 32, 114, 101, 100, 32, 49, 48, 46, 48, 46, 48, 46, 48, 32, 50, 53, 53, 46, 48, 46, 48, 46, 48, 32, 100, 105, 115, 99, 97, 114, 100, 32, 100, 105, 115, 116, 97, 110, 99, 101, 32, 55, 32, 116, 97, 103, 32, 57, 10, 105, 112, 32, 112, 114, 101, 102, 105, 120, 45, 108, 105, 115, 116, 32, 112, 32, 112, 101, 114, 109, 105, 116, 32, 49, 48, 46, 48, 46, 48, 46, 48, 47, 56, 32, 103, 101, 32, 57, 32, 108, 101, 32, 50, 52, 10, 105, 112, 32, 112, 114, 101, 102, 105, 120, 45, 108, 105, 115, 116, 32, 112, 32, 100, 101, 110, 121, 32, 48, 46, 48, 46, 48, 46, 48, 47, 48, 32, 108, 101, 32, 51, 50, 10, 105, 112, 32, 112, 114, 101, 102, 105, 120, 45, 108, 105, 115, 116, 32, 112, 32, 112, 101, 114, 109, 105, 116, 32, 49, 48, 46, 48, 46, 48, 46, 48, 47, 56, 32, 103, 101, 32, 57, 10, 105, 112, 32, 112, 114, 101, 102, 105, 120, 45, 108, 105, 115, 116, 32, 112, 32, 112, 101, 114, 109, 105, 116, 32, 49, 48, 46, 48, 46, 48, 46, 48, 47, 56, 10, 105, 112, 32, 99, 111, 109, 109, 117, 110, 105, 116, 121, 45, 108, 105, 115, 116, 32, 99, 32, 112, 101, 114, 109, 105, 116, 32, 49, 58, 50, 32, 51, 58, 52, 10, 114, 111, 117, 116, 101, 45, 109, 97, 112, 32, 109, 32, 112, 101, 114, 109, 105, 116, 32, 50, 48, 10, 32, 109, 97, 116, 99, 104, 32, 112, 114, 101, 102, 105, 120, 45, 108, 105, 115, 116, 32, 112, 10, 32, 109, 97, 116, 99, 104, 32, 99, 111, 109, 109, 117, 110, 105, 116, 121, 45, 108, 105, 115, 116, 32, 99, 10, 32, 109, 97, 116, 99, 104, 32, 116, 97, 103, 32, 49, 10, 32, 109, 97, 116, 99, 104, 32, 109, 101, 116, 114, 105, 99, 32, 50, 10, 32, 109, 97, 116, 99, 104, 32, 97, 115, 32, 54, 53, 48, 48, 48, 10, 32, 115, 101, 116, 32, 109, 101, 116, 114, 105, 99, 32, 51, 10, 32, 115, 101, 116, 32, 112, 114, 101, 102, 101, 114, 101, 110, 99, 101, 32, 52, 10, 32, 115, 101, 116, 32, 116, 97, 103, 32, 53, 10, 32, 115, 101, 116, 32, 99, 111, 109, 109, 117, 110, 105, 116, 121, 32, 97, 100, 100, 32, 49, 58, 50, 32, 51, 58, 52, 10, 32, 115, 101, 116, 32, 112, 114, 101, 112, 101, 110, 100, 32, 49, 32, 50, 10, 32, 115, 101, 116, 32, 110, 101, 120, 116, 45, 104, 111, 112, 32, 57, 46, 57, 46, 57, 46, 57, 10, 32, 99, 111, 110, 116, 105, 110, 117, 101, 32, 51, 48, 10, 114, 111, 117, 116, 101, 45, 109, 97, 112, 32, 109, 32, 100, 101, 110, 121, 32, 49, 48, 10, 114, 111, 117, 116, 101, 45, 109, 97, 112, 32, 109, 32, 110, 101, 120, 116, 32, 51, 48, 10, 32, 115, 101, 116, 32, 99, 111, 109, 109, 117, 110, 105, 116, 121, 32, 53, 58, 54, 10, 114, 111, 117, 116, 101, 114, 32, 111, 115, 112, 102, 10, 32, 114, 111, 117, 116, 101, 114, 45, 105, 100, 32, 49, 46, 49, 46, 49, 46, 49, 10, 32, 114, 101, 100, 105, 115, 116, 114, 105, 98, 117, 116, 101, 32, 99, 111, 110, 110, 101, 99, 116, 101, 100, 10, 32, 114, 101, 100, 105, 115, 116, 114, 105, 98, 117, 116, 101, 32, 115, 116, 97, 116, 105, 99, 32, 109, 101, 116, 114, 105, 99, 32, 53, 32, 116, 121, 112, 101, 32, 49, 32, 114, 111, 117, 116, 101, 45, 109, 97, 112, 32, 109, 10, 32, 114, 101, 100, 105, 115, 116, 114, 105, 98, 117, 116, 101, 32, 98, 103, 112, 32, 116, 121, 112, 101, 32, 50, 10, 114, 111, 117, 116, 101, 114, 32, 98, 103, 112, 32, 54, 53, 48, 48, 48, 32, 118, 114, 102, 32, 114, 101, 100, 10, 32, 114, 111, 117, 116, 101, 114, 45, 105, 100, 32, 50, 46, 50, 46, 50, 46, 50, 10, 32, 110, 101, 116, 119, 111, 114, 107, 32, 49, 48, 46, 48, 46, 48, 46, 48, 32, 50, 53, 53, 46, 48, 46, 48, 46, 48, 10, 32, 110, 101, 105, 103, 104, 98, 111, 114, 32, 49, 48, 46, 48, 46, 48, 46, 50, 32, 97, 115, 32, 54, 53, 48, 48, 49, 10, 32, 110, 101, 105, 103, 104, 98, 111, 114, 32, 49, 48, 46, 48, 46, 48, 46, 50, 32, 114, 111, 117, 116, 101, 45, 109, 97, 112, 32, 109, 32, 105, 110, 10, 32, 110, 101, 105, 103, 104, 98, 111, 114, 32, 49, 48, 46, 48, 46, 48, 46, 50, 32, 114, 111, 117, 116, 101, 45, 109, 97, 112, 32, 109, 32, 111, 117, 116, 10, 32, 110, 101, 105, 103, 104, 98, 111, 114, 32, 49, 48, 46, 48, 46, 48, 46, 50, 32, 110, 101, 120, 116, 45, 104, 111, 112, 45, 115, 101, 108, 102, 10, 32, 110, 101, 105, 103, 104, 98, 111, 114, 32, 49, 48, 46, 48, 46, 48, 46, 51, 32, 97, 115, 32, 54, 53, 48, 48, 48, 10, 32, 110, 101, 105, 103, 104, 98, 111, 114, 32, 49, 48, 46, 48, 46, 48, 46, 51, 32, 99, 108, 105, 101, 110, 116, 10, 32, 114, 101, 100, 105, 115, 116, 114, 105, 98, 117, 116, 101, 32, 111, 115, 112, 102, 32, 109, 101, 116, 114, 105, 99, 32, 55, 32, 114, 111, 117, 116, 101, 45, 109, 97, 112, 32, 109, 10]⟩)] m) fun x143 m =>
  bp (pur (aExtract x143 0) m) fun x144 m =>
  bp (pur (aExtract x143 1) m) fun x145 m =>
  bp (pur (aExtract x143 2) m) fun x146 m =>
  bp (some (aNew Qq Q3d m)) fun x147 m =>
  bp (some (aNew Qr Qk m)) fun x148 m =>
  bp (unt (aStore 12 x147 x144 m)) fun _ m =>
  bp (unt (aStore 2 x148 x145 m)) fun _ m =>
  Qe1 G x147 x146 m
def Qe3 (G : Gt) (m : Mem) : Option Rs :=
  bp (G.tab Qd7 [] m) fun x149 m =>
  bp (pur (un .not x149) m) fun x150 m =>
  pkB x150 (.bool true) (.bool false) m fun x151 m =>
  pkB x151 (.bool true) (.bool false) m fun x152 m =>
  pkB x152 (.bool true) (.bool false) m fun x153 m =>
  pkB x153 (.bool true) (.bool false) m fun x154 m =>
  pkB x154 (.bool true) (.bool false) m fun x155 m =>
  pkB x155 (.bool true) (.bool false) m fun x156 m =>
  pkB x156 (.bool true) (.bool false) m fun x157 m =>
  pkB x157 (.bool true) (.bool false) m fun x158 m =>
  pkB x158 (.bool true) (.bool false) m fun x159 m =>
  brb x159
    (some ((.bool false), m))
    (Qe2 G m)
def Q8g (G : Gt) (m : Mem) : Option Rs :=
  Qe3 G m
theorem Qvg (G : Gt) (m : Mem) : evFn Go.Proofs.Tryz.prog G.tab G.rds (drOf Go.Proofs.Tryz.prog G.tab) Go.Proofs.Tryz.f3 [] m = Q8g G m :=
  evFn_of (r := fun ρ m => Q8g G m) rfl rfl (tr (seqQ (f := fun ρ m => Qe3 G m) (tr (seqQ (f := fun ρ m => Qe2 G m) (tr (seqQ (f := fun ρ m => Qe1 G (ρ 1) (ρ 3) m) (tr (seqQ (f := fun ρ m => Qe0 G (ρ 4) (ρ 3) (ρ 5) (ρ 1) m) (tr (seqQ (f := fun ρ m => Qdz G (ρ 3) (ρ 5) (ρ 8) (ρ 1) (ρ 6) m) (tr (tr (seqQ (f := fun ρ m => Qdy G m) (tr (tr (seqQ (f := fun ρ m => Qdv G m) (fun ρ m => by kernel_rfl)) (seqQ (f := fun ρ m => Qdx G (ρ 179) (ρ 178) (ρ 177) m) (tr (blockQ (loopQ (fun i ρ m => Qy G i (ρ 179) (ρ 178) (ρ 177) m) (fun _ _ => rfl) (fun i0 => tr (seqQ (f := fun ρ m => Qdw G (Qy G i0) (ρ 180) (ρ 177) (ρ 179) (ρ 178) m) (tr (seqQ (f := fun ρ m => Qcm G (Qy G i0) (ρ 177) (ρ 179) (ρ 178) m) (tr (tr seqD (blockQ (seqQ (f := fun ρ m => Qcl G (Qy G i0) (ρ 10) (ρ 179) (ρ 178) (ρ 177) m) (tr (seqQ (f := fun ρ m => Qck G (Qy G i0) (ρ 13) (ρ 10) (ρ 12) (ρ 179) (ρ 178) (ρ 177) m) (tr (seqQ (f := fun ρ m => Q3o G (Qy G i0) (ρ 207) (ρ 179) (ρ 178) (ρ 177) m) (fun ρ m => by kernel_rfl)) (fun ρ m => by kernel_rfl))) (fun ρ m => by kernel_rfl))))) (fun ρ m => by kernel_rfl))) (fun ρ m => by kernel_rfl))) (fun ρ m => by kernel_rfl)))) (fun ρ m => by kernel_rfl)))) (fun ρ m => by kernel_rfl))) (seqQ (f := fun ρ m => Qb G (ρ 146) m) (fun ρ m => by kernel_rfl))) (fun ρ m => by kernel_rfl))) (fun ρ m => by kernel_rfl))) (fun ρ m => by kernel_rfl))) (fun ρ m => by kernel_rfl))) (fun ρ m => by kernel_rfl))) (fun ρ m => by kernel_rfl)) m
def Qvh : Entry Go.Proofs.Tryz.prog := ⟨Q8h, Go.Proofs.Tryz.f3, Go.Proofs.Tryz.func3, by kernel_rfl, arg0 (fun G  m => Q8g G m), okarg0 Qvg⟩
end
end Go.Ab.Sh

set_option linter.unusedVariables false
set_option maxRecDepth 100000
namespace Go.Ab.Sh
open Go Go.Ab
noncomputable section
def Qu (G : Gt) (p0 : Value) (m : Mem) : Option Rs :=
  some (p0, m)
def Qkp (G : Gt) (p3 p6 p5 p1 : Value) (m : Mem) : Option Rs :=
  bp (pur (bin .eql true true .int p3 (.int .i64 0)) m) fun x0 m =>
  brb x0
    (bp (pur (bin .eql true true .int p6 (.int .i64 130)) m) fun x1 m =>
  brb x1
    (bp (pur (aFieldAddr 0 p5) m) fun x2 m =>
  bp (pur (aLoad false 1 x2 m) m) fun x3 m =>
  bp (pur (bin .eql true true .int x3 (.int .i64 1)) m) fun x4 m =>
  brb x4
    (bp (pur (aFieldAddr 1 p5) m) fun x5 m =>
  bp (pur (aLoad false 1 x5 m) m) fun x6 m =>
  bp (pur (bin .eql true true .int x6 (.int .i64 12)) m) fun x7 m =>
  brb x7
    (bp (pur (aFieldAddr 0 p1) m) fun x8 m =>
  bp (pur (aLoad false 1 x8 m) m) fun x9 m =>
  bp (pur (bin .eql true true .str x9 (.string ⟨#[97]⟩)) m) fun x10 m =>
  brb x10
    (bp (pur (aFieldAddr 3 p1) m) fun x11 m =>
  bp (pur (aLoad false 1 x11 m) m) fun x12 m =>
  bp (pur (lenK 1 x12 m) m) fun x13 m =>
  bp (pur (bin .eql true true .int x13 (.int .i64 1)) m) fun x14 m =>
  brb x14
    (bp (pur (aFieldAddr 3 p1) m) fun x15 m =>
  bp (pur (aLoad false 1 x15 m) m) fun x16 m =>
  bp (pur (aIndexAddrSl 11 x16 (.int .i64 0)) m) fun x17 m =>
  bp (pur (aFieldAddr 3 x17) m) fun x18 m =>
  bp (pur (aLoad false 1 x18 m) m) fun x19 m =>
  bp (pur (bin .eql true true .int x19 (.int .i64 24)) m) fun x20 m =>
  brb x20
    (bp (pur (aFieldAddr 3 p1) m) fun x21 m =>
  bp (pur (aLoad false 1 x21 m) m) fun x22 m =>
  bp (pur (aIndexAddrSl 11 x22 (.int .i64 0)) m) fun x23 m =>
  bp (pur (aFieldAddr 8 x23) m) fun x24 m =>
  bp (pur (aLoad false 1 x24 m) m) fun x25 m =>
  bp (pur (bin .eql true true .int x25 (.int .i64 0)) m) fun x26 m =>
  brb x26
    (bp (pur (aFieldAddr 3 p1) m) fun x27 m =>
  bp (pur (aLoad false 1 x27 m) m) fun x28 m =>
  bp (pur (aIndexAddrSl 11 x28 (.int .i64 0)) m) fun x29 m =>
  bp (pur (aFieldAddr 9 x29) m) fun x30 m =>
  bp (pur (aLoad false 1 x30 m) m) fun x31 m =>
  bp (pur (bin .eql true true .int x31 (.int .i64 10)) m) fun x32 m =>
  Qu G x32 m)
    (Qu G (.bool false) m))
    (Qu G (.bool false) m))
    (Qu G (.bool false) m))
    (Qu G (.bool false) m))
    (Qu G (.bool false) m))
    (Qu G (.bool false) m))
    (Qu G (.bool false) m))
    (Qu G (.bool false) m)
def Qkq (G : Gt) (p3 p1 : Value) (m : Mem) : Option Rs :=
  bp (G.tab Q5 [(.string ⟨#[104, 111, 115, 116, 110, 97, 109, 101, 32, 97, 32, 98]⟩)] m) fun x33 m =>
  bp (pur (aExtract x33 0) m) fun x34 m =>
  bp (pur (aExtract x33 1) m) fun x35 m =>
  bp (pur (aExtract x33 2) m) fun x36 m =>
  bp (some (aNew Qq Q3d m)) fun x37 m =>
  bp (some (aNew Qr Qk m)) fun x38 m =>
  bp (unt (aStore 12 x37 x34 m)) fun _ m =>
  bp (unt (aStore 2 x38 x35 m)) fun _ m =>
  Qkp G p3 x36 x38 p1 m
def Qkr (G : Gt) (m : Mem) : Option Rs :=
  bp (G.tab Q5 [(.string ⟨#[104, 111, 115, 116, 110, 97, 109, 101, 32, 97, 10, 105, 110, 116, 101, 114, 102, 97, 99, 101, 32, 101, 48, 10, 32, 97, 100, 100, 114, 101, 115, 115, 32, 49, 48, 46, 48, 46, 48, 46, 49, 32, 50, 53, 53, 46, 50, 53, 53, 46, 50, 53, 53, 46, 48, 10, 32, 111, 115, 112, 102, 32, 97, 114, 101, 97, 32, 48, 10]⟩)] m) fun x39 m =>
  bp (pur (aExtract x39 0) m) fun x40 m =>
  bp (pur (aExtract x39 1) m) fun x41 m =>
  bp (pur (aExtract x39 2) m) fun x42 m =>
  bp (some (aNew Qq Q3d m)) fun x43 m =>
  bp (some (aNew Qr Qk m)) fun x44 m =>
  bp (unt (aStore 12 x43 x40 m)) fun _ m =>
  bp (unt (aStore 2 x44 x41 m)) fun _ m =>
  Qkq G x42 x43 m
def Qd8 (G : Gt) (m : Mem) : Option Rs :=
  Qkr G m
theorem Q11u (G : Gt) (m : Mem) : evFn Go.Proofs.Tryz.prog G.tab G.rds (drOf Go.Proofs.Tryz.prog G.tab) Go.Proofs.Tryz.f4 [] m = Qd8 G m :=
  evFn_of (r := fun ρ m => Qd8 G m) rfl rfl (tr (seqQ (f := fun ρ m => Qkr G m) (tr (seqQ (f := fun ρ m => Qkq G (ρ 3) (ρ 1) m) (tr (seqQ (f := fun ρ m => Qkp G (ρ 3) (ρ 6) (ρ 5) (ρ 1) m) (tr (seqQ (f := fun ρ m => Qu G (ρ 0) m) (fun ρ m => by kernel_rfl)) (fun ρ m => by kernel_rfl))) (fun ρ m => by kernel_rfl))) (fun ρ m => by kernel_rfl))) (fun ρ m => by kernel_rfl)) m
def Q11v : Entry Go.Proofs.Tryz.prog := ⟨Qd7, Go.Proofs.Tryz.f4, Go.Proofs.Tryz.func4, by kernel_rfl, arg0 (fun G  m => Qd8 G m), okarg0 Q11u⟩
def Qzb (G : Gt) (p8 p2 p3 : Value) (m : Mem) : Option Rs :=
  bp (pur (aNilCheck p8) m) fun x0 m =>
  bp (pur (aFieldAddr 0 x0) m) fun x1 m =>
  bp (pur (aLoad true 12 x1 m) m) fun x2 m =>
  bp (pur (aBuild Qk [(0, 1), (1, 1)] []) m) fun x3 m =>
  bp (unt (aStore 12 p2 x2 m)) fun _ m =>
  bp (unt (aStore 2 p3 x3 m)) fun _ m =>
  ob (ob (aLoad true 12 p2 m) fun v => ob (ob (aLoad true 2 p3 m) fun v => ob (some [(.int .i64 0)]) fun l => some (v :: l)) fun l => some (v :: l)) fun l => some (resVal l, m)
def Qrr (G : Gt) : Nat → Value → Value → Value → Value → Value → Value → Mem → Option Rs
  | 0, _, _, _, _, _, _, _ => none
  | i + 1, p135, p134, p133, p8, p2, p3, m =>
  bp (pur (bin .lss false true .int p135 p134) m) fun x4 m =>
  brb x4
    (bp (pur (aIndexAddrSl 3 p133 p135) m) fun x5 m =>
  bp (pur (aLoad true 3 x5 m) m) fun x6 m =>
  bp (some (aNew Q42 Q8i m)) fun x7 m =>
  bp (unt (aStore 3 x7 x6 m)) fun _ m =>
  bp (pur (aFieldAddr 1 x7) m) fun x8 m =>
  bp (pur (aLoad false 1 x8 m) m) fun x9 m =>
  bp (G.tab Q4k [x9, (.func (.func Qzc) #[] #[])] m) fun x10 m =>
  bp (pur (bin .add true true .int p135 (.int .i64 1)) m) fun x11 m =>
  (Qrr G i) x11 p134 p133 p8 p2 p3 m)
    (Qzb G p8 p2 p3 m)
def Qzd (G : Gt) (p135 p134 p133 p8 p2 p3 : Value) (m : Mem) : Option Rs :=
  Qrr G G.rds p135 p134 p133 p8 p2 p3 m
def Qze (G : Gt) (p8 p2 p3 : Value) (m : Mem) : Option Rs :=
  bp (pur (aNilCheck p8) m) fun x12 m =>
  bp (pur (aFieldAddr 0 x12) m) fun x13 m =>
  bp (pur (aFieldAddr 9 x13) m) fun x14 m =>
  bp (pur (aLoad false 1 x14 m) m) fun x15 m =>
  bp (pur (lenK 1 x15 m) m) fun x16 m =>
  Qzd G (.int .i64 0) x16 x15 p8 p2 p3 m
def Qzf (G : Gt) (p8 p2 p3 : Value) (m : Mem) : Option Rs :=
  bp (pur (aNilCheck p8) m) fun x17 m =>
  bp (pur (aFieldAddr 0 x17) m) fun x18 m =>
  bp (pur (aFieldAddr 0 x18) m) fun x19 m =>
  bp (pur (aLoad false 1 x19 m) m) fun x20 m =>
  bp (pur (bin .eql true true .str x20 (.string ⟨#[]⟩)) m) fun x21 m =>
  brb x21
    (bp (pur (aBuild Q3d [(0, 1), (1, 1), (2, 1), (3, 1), (4, 1), (5, 1), (6, 1), (7, 1), (8, 1), (9, 1), (10, 1), (11, 1)] []) m) fun x22 m =>
  bp (pur (aBuild Qk [(0, 1), (1, 1)] []) m) fun x23 m =>
  bp (unt (aStore 12 p2 x22 m)) fun _ m =>
  bp (unt (aStore 2 p3 x23 m)) fun _ m =>
  ob (ob (aLoad true 12 p2 m) fun v => ob (ob (aLoad true 2 p3 m) fun v => ob (some [(.int .i64 5)]) fun l => some (v :: l)) fun l => some (v :: l)) fun l => some (resVal l, m))
    (Qze G p8 p2 p3 m)
def Qfs (G : Gt) (k0 : Value → Value → Value → Value → Value → Value → Mem → Option Rs) (p11 p2 p3 p32 p31 p30 p8 : Value) (m : Mem) : Option Rs :=
  bp (pur (aNilCheck p11) m) fun x24 m =>
  bp (pur (aFieldAddr 4 x24) m) fun x25 m =>
  bp (pur (aLoad false 1 x25 m) m) fun x26 m =>
  bp (pur (bin .neq true true .int x26 (.int .i64 0)) m) fun x27 m =>
  brb x27
    (bp (pur (aBuild Q3d [(0, 1), (1, 1), (2, 1), (3, 1), (4, 1), (5, 1), (6, 1), (7, 1), (8, 1), (9, 1), (10, 1), (11, 1)] []) m) fun x28 m =>
  bp (pur (aNilCheck p11) m) fun x29 m =>
  bp (pur (aFieldAddr 2 x29) m) fun x30 m =>
  bp (pur (aLoad true 2 x30 m) m) fun x31 m =>
  bp (pur (aNilCheck p11) m) fun x32 m =>
  bp (pur (aFieldAddr 4 x32) m) fun x33 m =>
  bp (pur (aLoad false 1 x33 m) m) fun x34 m =>
  bp (unt (aStore 12 p2 x28 m)) fun _ m =>
  ckB (again (pur (aLoad true 2 x30 m) m) x31 && (again (pur (aLoad false 1 x33 m) m) x34 && true))
    (bp (unt (aStore 2 p3 x31 m)) fun _ m =>
  ckB (again (pur (aLoad false 1 x33 m) m) x34 && true)
    (ob (ob (aLoad true 12 p2 m) fun v => ob (ob (aLoad true 2 p3 m) fun v => ob (some [x34]) fun l => some (v :: l)) fun l => some (v :: l)) fun l => some (resVal l, m))))
    (bp (pur (bin .add true true .int p32 (.int .i64 1)) m) fun x35 m =>
  k0 x35 p31 p30 p8 p2 p3 m)
def Qoc (G : Gt) (k0 : Value → Value → Value → Value → Value → Value → Mem → Option Rs) (p8 p11 p12 p2 p3 p32 p31 p30 : Value) (m : Mem) : Option Rs :=
  bp (pur (aNilCheck p8) m) fun x36 m =>
  bp (pur (aFieldAddr 15 x36) m) fun x37 m =>
  bp (pur (aLoad false 1 x37 m) m) fun x38 m =>
  brb x38
    (bp (pur (aLoad true 2 p12 m) m) fun x39 m =>
  bp (G.tab Q31 [p11, x39, (.int .i64 7)] m) fun x40 m =>
  Qfs G k0 p11 p2 p3 p32 p31 p30 p8 m)
    (bp (pur (aNilCheck p8) m) fun x41 m =>
  bp (pur (aFieldAddr 16 x41) m) fun x42 m =>
  bp (pur (aLoad false 1 x42 m) m) fun x43 m =>
  brb x43
    (bp (pur (aLoad true 2 p12 m) m) fun x44 m =>
  bp (G.tab Q31 [p11, x44, (.int .i64 120)] m) fun x45 m =>
  Qfs G k0 p11 p2 p3 p32 p31 p30 p8 m)
    (Qfs G k0 p11 p2 p3 p32 p31 p30 p8 m))
def Qft (G : Gt) (k0 : Value → Value → Value → Value → Value → Value → Mem → Option Rs) (p11 p8 p12 p2 p3 p32 p31 p30 : Value) (m : Mem) : Option Rs :=
  bp (G.tab Q3z [p11] m) fun x46 m =>
  brb x46
    (bp (pur (aNilCheck p11) m) fun x47 m =>
  bp (pur (aFieldAddr 0 x47) m) fun x48 m =>
  bp (pur (aLoad false 1 x48 m) m) fun x49 m =>
  bp (pur (aNilCheck p11) m) fun x50 m =>
  bp (pur (aFieldAddr 1 x50) m) fun x51 m =>
  bp (pur (aLoad false 1 x51 m) m) fun x52 m =>
  bp (pur (aIndexAddrSl 3 x49 x52) m) fun x53 m =>
  bp (pur (aFieldAddr 1 x53) m) fun x54 m =>
  bp (pur (aLoad true 2 x54 m) m) fun x55 m =>
  bp (G.tab Q31 [p11, x55, (.int .i64 130)] m) fun x56 m =>
  Qoc G k0 p8 p11 p12 p2 p3 p32 p31 p30 m)
    (Qoc G k0 p8 p11 p12 p2 p3 p32 p31 p30 m)
def Qod (G : Gt) (k0 : Value → Value → Value → Value → Value → Value → Mem → Option Rs) (p58 p8 p11 p12 p2 p3 p32 p31 p30 : Value) (m : Mem) : Option Rs :=
  brb p58
    (bp (pur (aNilCheck p8) m) fun x60 m =>
  bp (pur (aFieldAddr 12 x60) m) fun x61 m =>
  bp (pur (aLoad false 1 x61 m) m) fun x62 m =>
  bp (evCall G.tab x62 [p11] m) fun x63 m =>
  Qft G k0 p11 p8 p12 p2 p3 p32 p31 p30 m)
    (bp (pur (aLoad true 2 p12 m) m) fun x64 m =>
  bp (G.tab Q31 [p11, x64, (.int .i64 70)] m) fun x65 m =>
  Qft G k0 p11 p8 p12 p2 p3 p32 p31 p30 m)
def Qwy (G : Gt) (k0 : Value → Value → Value → Value → Value → Value → Mem → Option Rs) (p48 p8 p11 p12 p2 p3 p32 p31 p30 p10 : Value) (m : Mem) : Option Rs :=
  brb p48
    (bp (pur (aNilCheck p8) m) fun x57 m =>
  bp (pur (aFieldAddr 12 x57) m) fun x58 m =>
  bp (unt (aStore 1 x58 .nilFunc m)) fun _ m =>
  bp (G.tab Qsn [p8, p11] m) fun x59 m =>
  Qft G k0 p11 p8 p12 p2 p3 p32 p31 p30 m)
    (bp (pur (aFieldAddr 0 p10) m) fun x66 m =>
  bp (pur (aLoad false 1 x66 m) m) fun x67 m =>
  bp (pur (bin .eql true true .int x67 (.int .i64 1)) m) fun x68 m =>
  brb x68
    (bp (pur (aNilCheck p8) m) fun x69 m =>
  bp (pur (aFieldAddr 12 x69) m) fun x70 m =>
  bp (pur (aLoad false 1 x70 m) m) fun x71 m =>
  bp (pur (bin .neq true true .func x71 .nilFunc) m) fun x72 m =>
  Qod G k0 x72 p8 p11 p12 p2 p3 p32 p31 p30 m)
    (Qod G k0 (.bool false) p8 p11 p12 p2 p3 p32 p31 p30 m))
def Qwz (G : Gt) (k0 : Value → Value → Value → Value → Value → Value → Mem → Option Rs) (p10 p8 p11 p12 p2 p3 p32 p31 p30 : Value) (m : Mem) : Option Rs :=
  bp (pur (aFieldAddr 0 p10) m) fun x73 m =>
  bp (pur (aLoad false 1 x73 m) m) fun x74 m =>
  bp (pur (bin .eql true true .int x74 (.int .i64 0)) m) fun x75 m =>
  Qwy G k0 x75 p8 p11 p12 p2 p3 p32 p31 p30 p10 m
def Qx0 (G : Gt) (k0 : Value → Value → Value → Value → Value → Value → Mem → Option Rs) (p10 p8 p11 p2 p3 p32 p31 p30 : Value) (m : Mem) : Option Rs :=
  bp (pur (aFieldAddr 1 p10) m) fun x76 m =>
  bp (pur (aLoad false 1 x76 m) m) fun x77 m =>
  bp (pur (aIndexAddrSl 3 x77 (.int .i64 0)) m) fun x78 m =>
  bp (pur (aFieldAddr 1 x78) m) fun x79 m =>
  bp (pur (aLoad true 2 x79 m) m) fun x80 m =>
  bp (some (aNew Qr Qk m)) fun x81 m =>
  bp (unt (aStore 2 x81 x80 m)) fun _ m =>
  Qwz G k0 p10 p8 p11 x81 p2 p3 p32 p31 p30 m
def Qx1 (G : Gt) (k0 : Value → Value → Value → Value → Value → Value → Mem → Option Rs) (p10 p8 p2 p3 p32 p31 p30 : Value) (m : Mem) : Option Rs :=
  bp (pur (aFieldAddr 1 p10) m) fun x82 m =>
  bp (pur (aLoad false 1 x82 m) m) fun x83 m =>
  bp (pur (aBuild Q1ag [(0, 1), (1, 1), (2, 2), (4, 1)] [(0, x83)]) m) fun x84 m =>
  bp (some (aNew Q1ah (Value.cells x84).toList m)) fun x85 m =>
  Qx0 G k0 p10 p8 x85 p2 p3 p32 p31 p30 m
def Qx2 (G : Gt) (k0 : Value → Value → Value → Value → Value → Value → Mem → Option Rs) (p30 p32 p8 p2 p3 p31 : Value) (m : Mem) : Option Rs :=
  bp (pur (aIndexAddrSl 2 p30 p32) m) fun x86 m =>
  bp (pur (aLoad true 2 x86 m) m) fun x87 m =>
  bp (some (aNew Quv Quw m)) fun x88 m =>
  bp (unt (aStore 2 x88 x87 m)) fun _ m =>
  Qx1 G k0 x88 p8 p2 p3 p32 p31 p30 m
def Qx3 (G : Gt) (k0 : Value → Value → Value → Value → Value → Value → Mem → Option Rs) (p33 p30 p32 p8 p2 p3 p31 : Value) (m : Mem) : Option Rs :=
  brb p33
    (Qx2 G k0 p30 p32 p8 p2 p3 p31 m)
    (Qzf G p8 p2 p3 m)
def Q18 (G : Gt) : Nat → Value → Value → Value → Value → Value → Value → Mem → Option Rs
  | 0, _, _, _, _, _, _, _ => none
  | i + 1, p32, p31, p30, p8, p2, p3, m =>
  bp (pur (bin .lss false true .int p32 p31) m) fun x89 m =>
  Qx3 G (Q18 G i) x89 p30 p32 p8 p2 p3 p31 m
def Qzg (G : Gt) (p32 p31 p30 p8 p2 p3 : Value) (m : Mem) : Option Rs :=
  Q18 G G.rds p32 p31 p30 p8 p2 p3 m
def Qzh (G : Gt) (p5 p8 p2 p3 : Value) (m : Mem) : Option Rs :=
  bp (pur (lenK 1 p5 m) m) fun x90 m =>
  Qzg G (.int .i64 0) x90 p5 p8 p2 p3 m
def Qzi (G : Gt) (p5 p2 p3 : Value) (m : Mem) : Option Rs :=
  bp (pur (aBuild Q3d [(0, 1), (1, 1), (2, 1), (3, 1), (4, 1), (5, 1), (6, 1), (7, 1), (8, 1), (9, 1), (10, 1), (11, 1)] [(1, (.int .u8 1))]) m) fun x91 m =>
  bp (some (aMakeMap m)) fun x92 m =>
  bp (pur (aBuild Q1ai [(0, 12), (12, 1), (13, 1), (14, 1), (15, 1), (16, 1), (17, 1)] [(0, x91), (3, x92)]) m) fun x93 m =>
  bp (some (aNew Q1aj (Value.cells x93).toList m)) fun x94 m =>
  Qzh G p5 x94 p2 p3 m
def Qzj (G : Gt) (p7 p6 p2 p3 p5 : Value) (m : Mem) : Option Rs :=
  bp (pur (bin .neq true true .int p7 (.int .i64 0)) m) fun x95 m =>
  brb x95
    (bp (pur (aBuild Q3d [(0, 1), (1, 1), (2, 1), (3, 1), (4, 1), (5, 1), (6, 1), (7, 1), (8, 1), (9, 1), (10, 1), (11, 1)] []) m) fun x96 m =>
  bp (pur (aLoad true 2 p6 m) m) fun x97 m =>
  bp (unt (aStore 12 p2 x96 m)) fun _ m =>
  ckB (again (pur (aLoad true 2 p6 m) m) x97 && true)
    (bp (unt (aStore 2 p3 x97 m)) fun _ m =>
  ob (ob (aLoad true 12 p2 m) fun v => ob (ob (aLoad true 2 p3 m) fun v => ob (some [p7]) fun l => some (v :: l)) fun l => some (v :: l)) fun l => some (resVal l, m)))
    (Qzi G p5 p2 p3 m)
def Qzk (G : Gt) (p0 p2 p3 : Value) (m : Mem) : Option Rs :=
  bp (G.tab Qsi [p0] m) fun x98 m =>
  bp (pur (aExtract x98 0) m) fun x99 m =>
  bp (pur (aExtract x98 1) m) fun x100 m =>
  bp (pur (aExtract x98 2) m) fun x101 m =>
  bp (some (aNew Qr Qk m)) fun x102 m =>
  bp (unt (aStore 2 x102 x100 m)) fun _ m =>
  Qzj G x101 x102 p2 p3 x99 m
def Qvi (G : Gt) (p0 : Value) (m : Mem) : Option Rs :=
  bp (some (aNew Qq Q3d m)) fun x103 m =>
  bp (some (aNew Qr Qk m)) fun x104 m =>
  Qzk G p0 x103 x104 m
theorem Q1bb (G : Gt) (a0 : Value) (m : Mem) : evFn Go.Proofs.Tryz.prog G.tab G.rds (drOf Go.Proofs.Tryz.prog G.tab) Go.Proofs.Tryz.f5 [a0] m = Qvi G a0 m :=
  evFn_of (r := fun ρ m => Qvi G (ρ 0) m) rfl rfl (tr (seqQ (f := fun ρ m => Qzk G (ρ 0) (ρ 2) (ρ 3) m) (tr (seqQ (f := fun ρ m => Qzj G (ρ 7) (ρ 6) (ρ 2) (ρ 3) (ρ 5) m) (tr (seqQ (f := fun ρ m => Qzi G (ρ 5) (ρ 2) (ρ 3) m) (tr (seqQ (f := fun ρ m => Qzh G (ρ 5) (ρ 8) (ρ 2) (ρ 3) m) (tr (tr (seqQ (f := fun ρ m => Qzf G (ρ 8) (ρ 2) (ρ 3) m) (tr (seqQ (f := fun ρ m => Qze G (ρ 8) (ρ 2) (ρ 3) m) (tr (tr (seqQ (f := fun ρ m => Qzb G (ρ 8) (ρ 2) (ρ 3) m) (fun ρ m => by kernel_rfl)) (seqQ (f := fun ρ m => Qzd G (ρ 135) (ρ 134) (ρ 133) (ρ 8) (ρ 2) (ρ 3) m) (tr (blockQ (loopQ (fun i ρ m => Qrr G i (ρ 135) (ρ 134) (ρ 133) (ρ 8) (ρ 2) (ρ 3) m) (fun _ _ => rfl) (fun i0 => fun ρ m => by kernel_rfl))) (fun ρ m => by kernel_rfl)))) (fun ρ m => by kernel_rfl))) (fun ρ m => by kernel_rfl))) (seqQ (f := fun ρ m => Qzg G (ρ 32) (ρ 31) (ρ 30) (ρ 8) (ρ 2) (ρ 3) m) (tr (blockQ (loopQ (fun i ρ m => Q18 G i (ρ 32) (ρ 31) (ρ 30) (ρ 8) (ρ 2) (ρ 3) m) (fun _ _ => rfl) (fun i0 => tr (seqQ (f := fun ρ m => Qx3 G (Q18 G i0) (ρ 33) (ρ 30) (ρ 32) (ρ 8) (ρ 2) (ρ 3) (ρ 31) m) (tr (seqQ (f := fun ρ m => Qx2 G (Q18 G i0) (ρ 30) (ρ 32) (ρ 8) (ρ 2) (ρ 3) (ρ 31) m) (tr (tr seqD (blockQ (seqQ (f := fun ρ m => Qx1 G (Q18 G i0) (ρ 10) (ρ 8) (ρ 2) (ρ 3) (ρ 32) (ρ 31) (ρ 30) m) (tr (seqQ (f := fun ρ m => Qx0 G (Q18 G i0) (ρ 10) (ρ 8) (ρ 11) (ρ 2) (ρ 3) (ρ 32) (ρ 31) (ρ 30) m) (tr (seqQ (f := fun ρ m => Qwz G (Q18 G i0) (ρ 10) (ρ 8) (ρ 11) (ρ 12) (ρ 2) (ρ 3) (ρ 32) (ρ 31) (ρ 30) m) (tr (tr (seqQ (f := fun ρ m => Qft G (Q18 G i0) (ρ 11) (ρ 8) (ρ 12) (ρ 2) (ρ 3) (ρ 32) (ρ 31) (ρ 30) m) (tr (seqQ (f := fun ρ m => Qoc G (Q18 G i0) (ρ 8) (ρ 11) (ρ 12) (ρ 2) (ρ 3) (ρ 32) (ρ 31) (ρ 30) m) (tr (seqQ (f := fun ρ m => Qfs G (Q18 G i0) (ρ 11) (ρ 2) (ρ 3) (ρ 32) (ρ 31) (ρ 30) (ρ 8) m) (fun ρ m => by kernel_rfl)) (fun ρ m => by kernel_rfl))) (fun ρ m => by kernel_rfl))) (blockQ (seqQ (f := fun ρ m => Qwy G (Q18 G i0) (ρ 48) (ρ 8) (ρ 11) (ρ 12) (ρ 2) (ρ 3) (ρ 32) (ρ 31) (ρ 30) (ρ 10) m) (tr (condQ (refQ) (seqQ (f := fun ρ m => Qod G (Q18 G i0) (ρ 58) (ρ 8) (ρ 11) (ρ 12) (ρ 2) (ρ 3) (ρ 32) (ρ 31) (ρ 30) m) (fun ρ m => by kernel_rfl))) (fun ρ m => by kernel_rfl))))) (fun ρ m => by kernel_rfl))) (fun ρ m => by kernel_rfl))) (fun ρ m => by kernel_rfl))))) (fun ρ m => by kernel_rfl))) (fun ρ m => by kernel_rfl))) (fun ρ m => by kernel_rfl)))) (fun ρ m => by kernel_rfl)))) (fun ρ m => by kernel_rfl))) (fun ρ m => by kernel_rfl))) (fun ρ m => by kernel_rfl))) (fun ρ m => by kernel_rfl))) (fun ρ m => by kernel_rfl)) m
def Q1bc : Entry Go.Proofs.Tryz.prog := ⟨Q5, Go.Proofs.Tryz.f5, Go.Proofs.Tryz.func5, by kernel_rfl, arg1 (fun G a0 m => Qvi G a0 m), okarg1 Q1bb⟩
end
end Go.Ab.Sh
