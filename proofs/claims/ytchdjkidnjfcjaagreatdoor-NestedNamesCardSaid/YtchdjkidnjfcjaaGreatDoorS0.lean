/-
  Functions of the program as plain definitions, each with the theorem that it is what the evaluator makes of the code. No conditions.
-/
import Derived.Test.YtchdjkidnjfcjaaGreatDoorAb5
import Derived.Test.YtchdjkidnjfcjaaGreatDoorZ
import Derived.KernelRfl
import Derived.Test.YtchdjkidnjfcjaaGreatDoorProg
set_option linter.unusedVariables false
set_option maxRecDepth 100000
namespace Go.Ab.Sh
open Go Go.Ab Go.Proofs
noncomputable section
def Qeu (G : Gt) (m : M) : R :=
  bp (pur (aBuild Q1t [(0, 1), (1, 1), (2, 1), (3, 1), (4, 1), (5, 1), (6, 1), (7, 1), (8, 1), (9, 1), (10, 1), (11, 1)] []) m) fun x0 m =>
  bp (G.tab Qe4 [x0] m) fun x1 m =>
  bp (pur (aExtract x1 0) m) fun x2 m =>
  bp (pur (aExtract x1 1) m) fun x3 m =>
  bp (pur (bin .eql true true .int x3 (.int .i64 121)) m) fun x4 m =>
  some (x4, m)
def Q3k (G : Gt) (k0 : V → V → V → M → R) (p256 p228 p227 p226 : V) (m : M) : R :=
  brb p256
  (some ((.bool false), m))
  (bp (pur (bin .add true true .int p228 (.int .i64 1)) m) fun x5 m =>
  k0 x5 p227 p226 m)
def Qdk (G : Gt) (k0 : V → V → V → M → R) (p16 p13 p15 p228 p227 p226 : V) (m : M) : R :=
  bp (pur (aFieldAddr 3 p13) m) fun x6 m =>
  bp (pur (aLoad false 1 x6 m) m) fun x7 m =>
  bp (pur (bin .neq false true .int p16 x7) m) fun x8 m =>
  brb x8
  (Q3k G k0 (.bool true) p228 p227 p226 m)
  (bp (pur (aFieldAddr 0 p15) m) fun x9 m =>
  bp (pur (aLoad false 1 x9 m) m) fun x10 m =>
  bp (pur (aFieldAddr 1 p13) m) fun x11 m =>
  bp (pur (aLoad false 1 x11 m) m) fun x12 m =>
  bp (pur (bin .neq false true .int x10 x12) m) fun x13 m =>
  brb x13
  (Q3k G k0 (.bool true) p228 p227 p226 m)
  (bp (pur (aFieldAddr 1 p15) m) fun x14 m =>
  bp (pur (aLoad false 1 x14 m) m) fun x15 m =>
  bp (pur (aFieldAddr 2 p13) m) fun x16 m =>
  bp (pur (aLoad false 1 x16 m) m) fun x17 m =>
  bp (pur (bin .neq false true .int x15 x17) m) fun x18 m =>
  Q3k G k0 x18 p228 p227 p226 m))
def Qdl (G : Gt) (k0 : V → V → V → M → R) (p13 p228 p227 p226 : V) (m : M) : R :=
  bp (pur (aFieldAddr 0 p13) m) fun x19 m =>
  bp (pur (aLoad false 1 x19 m) m) fun x20 m =>
  bp (G.tab Qa [x20] m) fun x21 m =>
  bp (pur (aExtract x21 0) m) fun x22 m =>
  bp (pur (aExtract x21 1) m) fun x23 m =>
  bp (pur (aExtract x21 2) m) fun x24 m =>
  bp (some (aNew Ql Q1t m)) fun x25 m =>
  bp (some (aNew Q9 Q5 m)) fun x26 m =>
  bp (unt (aStore 12 x25 x22 m)) fun _ m =>
  bp (unt (aStore 2 x26 x23 m)) fun _ m =>
  Qdk G k0 x24 p13 x26 p228 p227 p226 m
def Qdm (G : Gt) (k0 : V → V → V → M → R) (p226 p228 p227 : V) (m : M) : R :=
  bp (pur (aIndexAddrSl 4 p226 p228) m) fun x27 m =>
  bp (pur (aLoad true 4 x27 m) m) fun x28 m =>
  bp (some (aNew Q2z Q0 m)) fun x29 m =>
  bp (unt (aStore 4 x29 x28 m)) fun _ m =>
  Qdl G k0 x29 p228 p227 p226 m
def Qdn (G : Gt) (k0 : V → V → V → M → R) (p229 p226 p228 p227 : V) (m : M) : R :=
  brb p229
  (Qdm G k0 p226 p228 p227 m)
  (Qeu G m)
def Qs (G : Gt) : Nat → V → V → V → M → R
 | 0, _, _, _, _ => none
 | i + 1, p228, p227, p226, m =>
  bp (pur (bin .lss false true .int p228 p227) m) fun x30 m =>
  Qdn G (Qs G i) x30 p226 p228 p227 m
def Qev (G : Gt) (p228 p227 p226 : V) (m : M) : R :=
  Qs G G.rds p228 p227 p226 m
def Qew (G : Gt) (m : M) : R :=
  bp (pur (aBuild Q0 [(0, 1), (1, 1), (2, 1), (3, 1)] [(0, (.string ⟨#[115,121,115,116,101,109,32,123,32,104,111,115,116,45,110,97,109,101,59,32,125]⟩)), (1, (.int .i64 1)), (2, (.int .i64 10)), (3, (.int .i64 130))]) m) fun x31 m =>
  bp (pur (aBuild Q0 [(0, 1), (1, 1), (2, 1), (3, 1)] [(0, (.string ⟨#[115,121,115,116,101,109,59]⟩)), (1, (.int .i64 1)), (2, (.int .i64 1)), (3, (.int .i64 130))]) m) fun x32 m =>
  bp (pur (aBuild Q0 [(0, 1), (1, 1), (2, 1), (3, 1)] [(0, (.string ⟨#[115,121,115,116,101,109,115,32,123,32,125]⟩)), (1, (.int .i64 1)), (2, (.int .i64 1)), (3, (.int .i64 130))]) m) fun x33 m =>
  bp (pur (aBuild Q0 [(0, 1), (1, 1), (2, 1), (3, 1)] [(0, (.string ⟨#[115,121,115,116,101,109,32,123,32,104,111,115,116,45,110,97,109,101,32,97,32,98,59,32,125]⟩)), (1, (.int .i64 1)), (2, (.int .i64 22)), (3, (.int .i64 130))]) m) fun x34 m =>
  bp (pur (aBuild Q0 [(0, 1), (1, 1), (2, 1), (3, 1)] [(0, (.string ⟨#[115,121,115,116,101,109,32,123,32,104,111,115,116,45,110,97,109,101,32,97,32,123,32,125,32,125]⟩)), (1, (.int .i64 1)), (2, (.int .i64 10)), (3, (.int .i64 130))]) m) fun x35 m =>
  bp (pur (aBuild Q0 [(0, 1), (1, 1), (2, 1), (3, 1)] [(0, (.string ⟨#[105,110,116,101,114,102,97,99,101,115,32,123,32,101,48,32,123,32,109,101,116,114,105,99,32,48,59,32,125,32,125]⟩)), (1, (.int .i64 1)), (2, (.int .i64 26)), (3, (.int .i64 131))]) m) fun x36 m =>
  bp (pur (aBuild Q0 [(0, 1), (1, 1), (2, 1), (3, 1)] [(0, (.string ⟨#[105,110,116,101,114,102,97,99,101,115,32,123,32,101,48,32,123,32,109,101,116,114,105,99,32,48,49,59,32,125,32,125]⟩)), (1, (.int .i64 1)), (2, (.int .i64 26)), (3, (.int .i64 130))]) m) fun x37 m =>
  bp (pur (aBuild Q0 [(0, 1), (1, 1), (2, 1), (3, 1)] [(0, (.string ⟨#[105,110,116,101,114,102,97,99,101,115,32,123,32,101,48,32,123,32,109,101,116,114,105,99,32,57,57,57,57,57,57,57,57,57,57,57,57,57,57,57,57,57,57,57,57,59,32,125,32,125]⟩)), (1, (.int .i64 1)), (2, (.int .i64 26)), (3, (.int .i64 131))]) m) fun x38 m =>
  bp (pur (aBuild Q0 [(0, 1), (1, 1), (2, 1), (3, 1)] [(0, (.string ⟨#[105,110,116,101,114,102,97,99,101,115,32,123,32,101,48,32,123,32,97,100,100,114,101,115,115,32,49,48,46,48,46,48,46,49,47,48,59,32,125,32,125]⟩)), (1, (.int .i64 1)), (2, (.int .i64 27)), (3, (.int .i64 131))]) m) fun x39 m =>
  bp (pur (aBuild Q0 [(0, 1), (1, 1), (2, 1), (3, 1)] [(0, (.string ⟨#[105,110,116,101,114,102,97,99,101,115,32,123,32,101,48,32,123,32,97,100,100,114,101,115,115,32,49,48,46,48,46,48,46,49,59,32,125,32,125]⟩)), (1, (.int .i64 1)), (2, (.int .i64 27)), (3, (.int .i64 130))]) m) fun x40 m =>
  bp (pur (aBuild Q0 [(0, 1), (1, 1), (2, 1), (3, 1)] [(0, (.string ⟨#[114,111,117,116,101,115,32,123,32,114,111,117,116,101,32,49,48,46,48,46,48,46,49,47,56,32,100,105,115,99,97,114,100,59,32,125]⟩)), (1, (.int .i64 1)), (2, (.int .i64 16)), (3, (.int .i64 10))]) m) fun x41 m =>
  bp (pur (aBuild Q0 [(0, 1), (1, 1), (2, 1), (3, 1)] [(0, (.string ⟨#[114,111,117,116,101,115,32,123,32,114,111,117,116,101,32,49,48,46,48,46,48,46,48,47,56,32,110,101,120,116,45,104,111,112,32,48,46,48,46,48,46,48,59,32,125]⟩)), (1, (.int .i64 1)), (2, (.int .i64 36)), (3, (.int .i64 131))]) m) fun x42 m =>
  bp (pur (aBuild Q0 [(0, 1), (1, 1), (2, 1), (3, 1)] [(0, (.string ⟨#[102,105,114,101,119,97,108,108,32,123,32,102,105,108,116,101,114,32,102,32,123,32,116,101,114,109,32,116,32,123,32,125,32,125,32,125]⟩)), (1, (.int .i64 1)), (2, (.int .i64 23)), (3, (.int .i64 5))]) m) fun x43 m =>
  bp (pur (aBuild Q0 [(0, 1), (1, 1), (2, 1), (3, 1)] [(0, (.string ⟨#[]⟩)), (1, (.int .i64 0)), (2, (.int .i64 0)), (3, (.int .i64 5))]) m) fun x44 m =>
  bp (pur (aBuild Q0 [(0, 1), (1, 1), (2, 1), (3, 1)] [(0, (.string ⟨#[115,121,115,116,101,109,32,123,32,104,111,115,116,45,110,97,109,101,32,97,59,32,104,111,115,116,45,110,97,109,101,32,98,59,32,125]⟩)), (1, (.int .i64 1)), (2, (.int .i64 23)), (3, (.int .i64 7))]) m) fun x45 m =>
  bp (pur (aBuild Q0 [(0, 1), (1, 1), (2, 1), (3, 1)] [(0, (.string ⟨#[115,121,115,116,101,109,32,123,32,104,111,115,116,45,110,97,109,101,32,97,59,32,125,32,115,121,115,116,101,109,32,123,32,104,111,115,116,45,110,97,109,101,32,98,59,32,125]⟩)), (1, (.int .i64 1)), (2, (.int .i64 34)), (3, (.int .i64 7))]) m) fun x46 m =>
  bp (pur (aBuild Q0 [(0, 1), (1, 1), (2, 1), (3, 1)] [(0, (.string ⟨#[112,111,108,105,99,121,32,123,32,115,116,97,116,101,109,101,110,116,32,109,32,123,32,116,101,114,109,32,116,32,123,32,116,104,101,110,32,123,32,97,99,99,101,112,116,59,32,114,101,106,101,99,116,59,32,125,32,125,32,125,32,125]⟩)), (1, (.int .i64 1)), (2, (.int .i64 48)), (3, (.int .i64 7))]) m) fun x47 m =>
  bp (pur (aBuild Q0 [(0, 1), (1, 1), (2, 1), (3, 1)] [(0, (.string ⟨#[102,105,114,101,119,97,108,108,32,123,32,102,105,108,116,101,114,32,102,32,123,32,116,101,114,109,32,116,32,123,32,102,114,111,109,32,123,32,115,111,117,114,99,101,45,112,111,114,116,32,50,45,49,59,32,125,32,116,104,101,110,32,97,99,99,101,112,116,59,32,125,32,125,32,125]⟩)), (1, (.int .i64 1)), (2, (.int .i64 51)), (3, (.int .i64 131))]) m) fun x48 m =>
  bp (pur (aBuild Q0 [(0, 1), (1, 1), (2, 1), (3, 1)] [(0, (.string ⟨#[115,121,115,116,101,109,32,123,32,104,111,115,116,45,110,97,109,101,32,97,59,32]⟩)), (1, (.int .i64 1)), (2, (.int .i64 8)), (3, (.int .i64 71))]) m) fun x49 m =>
  bp (aBuildSlice Q2z Q0 4 19 [(0, x31), (1, x32), (2, x33), (3, x34), (4, x35), (5, x36), (6, x37), (7, x38), (8, x39), (9, x40), (10, x41), (11, x42), (12, x43), (13, x44), (14, x45), (15, x46), (16, x47), (17, x48), (18, x49)] m) fun x50 m =>
  bp (pur (lenK 1 x50 m) m) fun x51 m =>
  Qev G (.int .i64 0) x51 x50 m
def Q25 (G : Gt) (p206 : V) (m : M) : R :=
  brb p206
  (some ((.bool false), m))
  (Qew G m)
def Qex (G : Gt) (p11 p9 : V) (m : M) : R :=
  bp (pur (bin .neq true true .int p11 (.int .i64 0)) m) fun x52 m =>
  brb x52
  (Q25 G (.bool true) m)
  (bp (pur (aFieldAddr 3 p9) m) fun x53 m =>
  bp (pur (aLoad false 1 x53 m) m) fun x54 m =>
  bp (pur (lenK 1 x54 m) m) fun x55 m =>
  bp (pur (bin .neq true true .int x55 (.int .i64 1)) m) fun x56 m =>
  brb x56
  (Q25 G (.bool true) m)
  (bp (pur (aFieldAddr 3 p9) m) fun x57 m =>
  bp (pur (aLoad false 1 x57 m) m) fun x58 m =>
  bp (pur (aIndexAddrSl 11 x58 (.int .i64 0)) m) fun x59 m =>
  bp (pur (aFieldAddr 9 x59) m) fun x60 m =>
  bp (pur (aLoad false 1 x60 m) m) fun x61 m =>
  bp (pur (bin .neq true true .int x61 (.int .i64 9)) m) fun x62 m =>
  brb x62
  (Q25 G (.bool true) m)
  (bp (pur (aFieldAddr 3 p9) m) fun x63 m =>
  bp (pur (aLoad false 1 x63 m) m) fun x64 m =>
  bp (pur (aIndexAddrSl 11 x64 (.int .i64 0)) m) fun x65 m =>
  bp (pur (aFieldAddr 8 x65) m) fun x66 m =>
  bp (pur (aLoad false 1 x66 m) m) fun x67 m =>
  bp (pur (bin .neq true true .int x67 (.int .i64 0)) m) fun x68 m =>
  Q25 G x68 m)))
def Qey (G : Gt) (m : M) : R :=
  bp (G.tab Qa [(.string ⟨#[103,114,111,117,112,115,32,123,32,103,32,123,32,105,110,116,101,114,102,97,99,101,115,32,123,32,60,42,62,32,123,32,109,101,116,114,105,99,32,57,59,32,125,32,125,32,125,32,125,32,97,112,112,108,121,45,103,114,111,117,112,115,32,103,59,32,115,121,115,116,101,109,32,123,32,104,111,115,116,45,110,97,109,101,32,97,59,32,125,32,105,110,116,101,114,102,97,99,101,115,32,123,32,101,48,32,123,32,97,100,100,114,101,115,115,32,49,48,46,48,46,48,46,49,47,50,52,59,32,97,114,101,97,32,48,59,32,125,32,125]⟩)] m) fun x69 m =>
  bp (pur (aExtract x69 0) m) fun x70 m =>
  bp (pur (aExtract x69 1) m) fun x71 m =>
  bp (pur (aExtract x69 2) m) fun x72 m =>
  bp (some (aNew Ql Q1t m)) fun x73 m =>
  bp (some (aNew Q9 Q5 m)) fun x74 m =>
  bp (unt (aStore 12 x73 x70 m)) fun _ m =>
  bp (unt (aStore 2 x74 x71 m)) fun _ m =>
  Qex G x72 x73 m
def Q6 (G : Gt) (p177 : V) (m : M) : R :=
  brb p177
  (some ((.bool false), m))
  (Qey G m)
def Qez (G : Gt) (p3 p5 p8 p1 p6 : V) (m : M) : R :=
  bp (pur (bin .neq true true .int p3 (.int .i64 0)) m) fun x75 m =>
  brt x75
  (Q6 G (.bool true) m)
  (bp (pur (bin .neq true true .int p5 (.int .i64 0)) m) fun x76 m =>
  brt x76
  (Q6 G (.bool true) m)
  (bp (pur (bin .neq true true .int p8 (.int .i64 0)) m) fun x77 m =>
  brt x77
  (Q6 G (.bool true) m)
  (bp (pur (aLoad true 12 p1 m) m) fun x78 m =>
  bp (pur (aLoad true 12 p6 m) m) fun x79 m =>
  bp (G.tab Q6m [x78] m) fun x80 m =>
  ckB (again (pur (aLoad true 12 p6 m) m) x79 && true)
  (bp (G.tab Q6m [x79] m) fun x81 m =>
  bp (pur (bin .neq false true .str x80 x81) m) fun x82 m =>
  brt x82
  (Q6 G (.bool true) m)
  (bp (pur (aFieldAddr 9 p1) m) fun x83 m =>
  bp (pur (aLoad false 1 x83 m) m) fun x84 m =>
  bp (pur (lenK 1 x84 m) m) fun x85 m =>
  bp (pur (bin .neq true true .int x85 (.int .i64 1)) m) fun x86 m =>
  brt x86
  (Q6 G (.bool true) m)
  (bp (pur (aFieldAddr 9 p1) m) fun x87 m =>
  bp (pur (aLoad false 1 x87 m) m) fun x88 m =>
  bp (pur (aIndexAddrSl 3 x88 (.int .i64 0)) m) fun x89 m =>
  bp (pur (aFieldAddr 1 x89) m) fun x90 m =>
  bp (pur (aLoad false 1 x90 m) m) fun x91 m =>
  bp (pur (lenK 1 x91 m) m) fun x92 m =>
  bp (pur (bin .neq true true .int x92 (.int .i64 3)) m) fun x93 m =>
  brt x93
  (Q6 G (.bool true) m)
  (bp (pur (aFieldAddr 9 p1) m) fun x94 m =>
  bp (pur (aLoad false 1 x94 m) m) fun x95 m =>
  bp (pur (aIndexAddrSl 3 x95 (.int .i64 0)) m) fun x96 m =>
  bp (pur (aFieldAddr 2 x96) m) fun x97 m =>
  bp (pur (aLoad false 1 x97 m) m) fun x98 m =>
  brt x98
  (Q6 G (.bool true) m)
  (bp (pur (aFieldAddr 9 p1) m) fun x99 m =>
  bp (pur (aLoad false 1 x99 m) m) fun x100 m =>
  bp (pur (aIndexAddrSl 3 x100 (.int .i64 0)) m) fun x101 m =>
  bp (pur (aFieldAddr 1 x101) m) fun x102 m =>
  bp (pur (aLoad false 1 x102 m) m) fun x103 m =>
  bp (pur (aIndexAddrSl 15 x103 (.int .i64 2)) m) fun x104 m =>
  bp (pur (aFieldAddr 0 x104) m) fun x105 m =>
  bp (pur (aLoad false 1 x105 m) m) fun x106 m =>
  bp (pur (bin .neq true true .int x106 (.int .i64 30)) m) fun x107 m =>
  brt x107
  (Q6 G (.bool true) m)
  (bp (pur (aFieldAddr 9 p1) m) fun x108 m =>
  bp (pur (aLoad false 1 x108 m) m) fun x109 m =>
  bp (pur (aIndexAddrSl 3 x109 (.int .i64 0)) m) fun x110 m =>
  bp (pur (aFieldAddr 1 x110) m) fun x111 m =>
  bp (pur (aLoad false 1 x111 m) m) fun x112 m =>
  bp (pur (aIndexAddrSl 15 x112 (.int .i64 2)) m) fun x113 m =>
  bp (pur (aFieldAddr 1 x113) m) fun x114 m =>
  bp (pur (aLoad false 1 x114 m) m) fun x115 m =>
  bp (pur (bin .neq true true .int x115 (.int .u8 2)) m) fun x116 m =>
  brt x116
  (Q6 G (.bool true) m)
  (bp (pur (aFieldAddr 7 p1) m) fun x117 m =>
  bp (pur (aLoad false 1 x117 m) m) fun x118 m =>
  bp (pur (aIndexAddrSl 2 x118 (.int .i64 0)) m) fun x119 m =>
  bp (pur (aFieldAddr 1 x119) m) fun x120 m =>
  bp (pur (aLoad false 1 x120 m) m) fun x121 m =>
  bp (pur (aIndexAddrSl 5 x121 (.int .i64 2)) m) fun x122 m =>
  bp (pur (aFieldAddr 4 x122) m) fun x123 m =>
  bp (pur (aLoad false 1 x123 m) m) fun x124 m =>
  bp (pur (bin .neq true true .int x124 (.int .i64 32)) m) fun x125 m =>
  brt x125
  (Q6 G (.bool true) m)
  (bp (pur (aFieldAddr 7 p1) m) fun x126 m =>
  bp (pur (aLoad false 1 x126 m) m) fun x127 m =>
  bp (pur (aIndexAddrSl 2 x127 (.int .i64 0)) m) fun x128 m =>
  bp (pur (aFieldAddr 1 x128) m) fun x129 m =>
  bp (pur (aLoad false 1 x129 m) m) fun x130 m =>
  bp (pur (aIndexAddrSl 5 x130 (.int .i64 3)) m) fun x131 m =>
  bp (pur (aFieldAddr 0 x131) m) fun x132 m =>
  bp (pur (aLoad false 1 x132 m) m) fun x133 m =>
  brt x133
  (Q6 G (.bool true) m)
  (bp (pur (aFieldAddr 4 p1) m) fun x134 m =>
  bp (pur (aLoad false 1 x134 m) m) fun x135 m =>
  bp (pur (aIndexAddrSl 2 x135 (.int .i64 0)) m) fun x136 m =>
  bp (pur (aFieldAddr 1 x136) m) fun x137 m =>
  bp (pur (aLoad false 1 x137 m) m) fun x138 m =>
  bp (pur (aIndexAddrSl 10 x138 (.int .i64 0)) m) fun x139 m =>
  bp (pur (aFieldAddr 8 x139) m) fun x140 m =>
  bp (pur (aFieldAddr 0 x140) m) fun x141 m =>
  bp (pur (aLoad false 1 x141 m) m) fun x142 m =>
  bp (pur (bin .neq true true .int x142 (.int .u32 80)) m) fun x143 m =>
  brt x143
  (Q6 G (.bool true) m)
  (bp (pur (aFieldAddr 11 p1) m) fun x144 m =>
  bp (pur (aLoad false 1 x144 m) m) fun x145 m =>
  bp (pur (aIndexAddrSl 6 x145 (.int .i64 0)) m) fun x146 m =>
  bp (pur (aFieldAddr 4 x146) m) fun x147 m =>
  bp (pur (aLoad false 1 x147 m) m) fun x148 m =>
  bp (pur (lenK 1 x148 m) m) fun x149 m =>
  bp (pur (bin .neq true true .int x149 (.int .i64 2)) m) fun x150 m =>
  brt x150
  (Q6 G (.bool true) m)
  (bp (pur (aFieldAddr 11 p1) m) fun x151 m =>
  bp (pur (aLoad false 1 x151 m) m) fun x152 m =>
  bp (pur (aIndexAddrSl 6 x152 (.int .i64 0)) m) fun x153 m =>
  bp (pur (aFieldAddr 0 x153) m) fun x154 m =>
  bp (pur (aLoad false 1 x154 m) m) fun x155 m =>
  bp (pur (bin .neq true true .str x155 (.string ⟨#[114,101,100]⟩)) m) fun x156 m =>
  brt x156
  (Q6 G (.bool true) m)
  (bp (pur (aFieldAddr 3 p1) m) fun x157 m =>
  bp (pur (aLoad false 1 x157 m) m) fun x158 m =>
  bp (pur (aIndexAddrSl 11 x158 (.int .i64 0)) m) fun x159 m =>
  bp (pur (aFieldAddr 9 x159) m) fun x160 m =>
  bp (pur (aLoad false 1 x160 m) m) fun x161 m =>
  bp (pur (bin .neq true true .int x161 (.int .i64 5)) m) fun x162 m =>
  brt x162
  (Q6 G (.bool true) m)
  (bp (pur (aFieldAddr 6 p1) m) fun x163 m =>
  bp (pur (aLoad false 1 x163 m) m) fun x164 m =>
  bp (pur (aIndexAddrSl 7 x164 (.int .i64 0)) m) fun x165 m =>
  bp (pur (aFieldAddr 5 x165) m) fun x166 m =>
  bp (pur (aLoad false 1 x166 m) m) fun x167 m =>
  bp (pur (bin .neq true true .int x167 (.int .i64 5)) m) fun x168 m =>
  Q6 G x168 m)
  (none))
  (none))
  (none))
  (none))
  (none))
  (none))
  (none))
  (none))
  (none))
  (none))
  (none))
  (none)))
  (none))
  (none))
  (none)
def Qf0 (G : Gt) (p4 p3 p5 p1 : V) (m : M) : R :=
  bp (G.tab Qa [p4] m) fun x169 m =>
  bp (pur (aExtract x169 0) m) fun x170 m =>
  bp (pur (aExtract x169 1) m) fun x171 m =>
  bp (pur (aExtract x169 2) m) fun x172 m =>
  bp (some (aNew Ql Q1t m)) fun x173 m =>
  bp (some (aNew Q9 Q5 m)) fun x174 m =>
  bp (unt (aStore 12 x173 x170 m)) fun _ m =>
  bp (unt (aStore 2 x174 x171 m)) fun _ m =>
  Qez G p3 p5 x172 p1 x173 m
def Qf1 (G : Gt) (p1 p3 : V) (m : M) : R :=
  bp (pur (aLoad true 12 p1 m) m) fun x175 m =>
  bp (G.tab Qe4 [x175] m) fun x176 m =>
  bp (pur (aExtract x176 0) m) fun x177 m =>
  bp (pur (aExtract x176 1) m) fun x178 m =>
  Qf0 G x177 p3 x178 p1 m
def Qf2 (G : Gt) (m : M) : R :=
  bp (G.tab Qa [(.string ⟨#[115,121,115,116,101,109,32,123,32,104,111,115,116,45,110,97,109,101,32,97,59,32,125,32,105,110,116,101,114,102,97,99,101,115,32,123,32,101,48,32,123,32,97,100,100,114,101,115,115,32,49,48,46,48,46,48,46,49,47,50,52,59,32,97,114,101,97,32,48,59,32,125,32,125,32,105,110,116,101,114,102,97,99,101,115,32,123,32,101,48,32,123,32,109,101,116,114,105,99,32,53,59,32,112,97,115,115,105,118,101,59,32,102,105,108,116,101,114,32,105,110,112,117,116,32,102,59,32,102,105,108,116,101,114,32,111,117,116,112,117,116,32,102,59,32,110,97,116,32,105,110,115,105,100,101,59,32,100,105,115,97,98,108,101,59,32,125,32,101,49,32,123,32,105,110,115,116,97,110,99,101,32,114,101,100,59,32,110,97,116,32,111,117,116,115,105,100,101,59,32,125,32,125,32,105,110,115,116,97,110,99,101,115,32,123,32,114,101,100,59,32,125,32,102,105,114,101,119,97,108,108,32,123,32,102,105,108,116,101,114,32,102,32,123,32,116,101,114,109,32,97,32,123,32,102,114,111,109,32,123,32,112,114,111,116,111,99,111,108,32,116,99,112,59,32,115,111,117,114,99,101,32,49,48,46,48,46,48,46,48,47,56,59,32,100,101,115,116,105,110,97,116,105,111,110,32,49,48,46,48,46,48,46,49,47,51,50,59,32,115,111,117,114,99,101,45,112,111,114,116,32,49,45,50,59,32,100,101,115,116,105,110,97,116,105,111,110,45,112,111,114,116,32,56,48,59,32,125,32,116,104,101,110,32,97,99,99,101,112,116,59,32,125,32,116,101,114,109,32,98,32,123,32,116,104,101,110,32,100,105,115,99,97,114,100,59,32,125,32,116,101,114,109,32,99,32,123,32,102,114,111,109,32,123,32,112,114,111,116,111,99,111,108,32,56,57,59,32,125,32,116,104,101,110,32,100,105,115,99,97,114,100,59,32,125,32,125,32,125,32,110,97,116,32,123,32,115,111,117,114,99,101,32,102,32,116,111,32,49,46,50,46,51,46,52,59,32,100,101,115,116,105,110,97,116,105,111,110,32,102,32,116,111,32,49,46,50,46,51,46,53,59,32,125,32,114,111,117,116,101,115,32,123,32,114,111,117,116,101,32,48,46,48,46,48,46,48,47,48,32,110,101,120,116,45,104,111,112,32,49,48,46,48,46,48,46,50,59,32,114,111,117,116,101,32,49,48,46,48,46,48,46,48,47,56,32,100,105,115,99,97,114,100,32,105,110,115,116,97,110,99,101,32,114,101,100,32,112,114,101,102,101,114,101,110,99,101,32,55,32,116,97,103,32,57,59,32,125,32,112,111,108,105,99,121,32,123,32,112,114,101,102,105,120,45,108,105,115,116,32,112,32,123,32,49,48,46,48,46,48,46,48,47,56,59,32,49,48,46,48,46,48,46,48,47,56,32,117,112,116,111,32,50,52,32,102,114,111,109,32,57,59,32,49,48,46,48,46,48,46,48,47,56,32,102,114,111,109,32,57,59,32,48,46,48,46,48,46,48,47,48,32,117,112,116,111,32,51,50,32,114,101,106,101,99,116,59,32,125,32,99,111,109,109,117,110,105,116,121,32,99,32,123,32,109,101,109,98,101,114,115,32,49,58,50,32,51,58,52,59,32,114,101,106,101,99,116,32,53,58,54,59,32,125,32,115,116,97,116,101,109,101,110,116,32,109,32,123,32,100,101,102,97,117,108,116,32,114,101,106,101,99,116,59,32,116,101,114,109,32,97,32,123,32,102,114,111,109,32,123,32,112,114,101,102,105,120,45,108,105,115,116,32,112,59,32,99,111,109,109,117,110,105,116,121,32,99,59,32,116,97,103,32,49,59,32,109,101,116,114,105,99,32,50,59,32,97,115,32,54,53,48,48,48,59,32,125,32,116,104,101,110,32,123,32,109,101,116,114,105,99,32,51,59,32,112,114,101,102,101,114,101,110,99,101,32,52,59,32,116,97,103,32,53,59,32,99,111,109,109,117,110,105,116,121,32,97,100,100,32,49,58,50,32,51,58,52,59,32,112,114,101,112,101,110,100,32,49,32,50,59,32,110,101,120,116,45,104,111,112,32,57,46,57,46,57,46,57,59,32,97,99,99,101,112,116,59,32,125,32,125,32,116,101,114,109,32,98,32,123,32,116,104,101,110,32,123,32,114,101,106,101,99,116,59,32,125,32,125,32,116,101,114,109,32,99,32,123,32,125,32,125,32,125,32,112,114,111,116,111,99,111,108,115,32,123,32,111,115,112,102,32,123,32,114,111,117,116,101,114,45,105,100,32,49,46,49,46,49,46,49,59,32,101,120,112,111,114,116,32,100,105,114,101,99,116,59,32,101,120,112,111,114,116,32,115,116,97,116,105,99,32,109,101,116,114,105,99,32,53,32,116,121,112,101,32,49,32,112,111,108,105,99,121,32,109,59,32,101,120,112,111,114,116,32,98,103,112,32,116,121,112,101,32,50,59,32,125,32,98,103,112,32,114,101,100,32,123,32,108,111,99,97,108,45,97,115,32,54,53,48,48,48,59,32,114,111,117,116,101,114,45,105,100,32,50,46,50,46,50,46,50,59,32,110,101,116,119,111,114,107,32,49,48,46,48,46,48,46,48,47,56,59,32,110,101,105,103,104,98,111,114,32,49,48,46,48,46,48,46,50,32,123,32,112,101,101,114,45,97,115,32,54,53,48,48,49,59,32,105,109,112,111,114,116,32,109,59,32,101,120,112,111,114,116,32,109,59,32,110,101,120,116,45,104,111,112,45,115,101,108,102,59,32,125,32,110,101,105,103,104,98,111,114,32,49,48,46,48,46,48,46,51,32,123,32,112,101,101,114,45,97,115,32,54,53,48,48,48,59,32,99,108,105,101,110,116,59,32,125,32,101,120,112,111,114,116,32,111,115,112,102,32,109,101,116,114,105,99,32,55,32,112,111,108,105,99,121,32,109,59,32,125,32,125]⟩)] m) fun x179 m =>
  bp (pur (aExtract x179 0) m) fun x180 m =>
  bp (pur (aExtract x179 1) m) fun x181 m =>
  bp (pur (aExtract x179 2) m) fun x182 m =>
  bp (some (aNew Ql Q1t m)) fun x183 m =>
  bp (some (aNew Q9 Q5 m)) fun x184 m =>
  bp (unt (aStore 12 x183 x180 m)) fun _ m =>
  bp (unt (aStore 2 x184 x181 m)) fun _ m =>
  Qf1 G x183 x182 m
def Qf3 (G : Gt) (m : M) : R :=
  bp (G.tab Qsx [] m) fun x185 m =>
  bp (pur (un .not x185) m) fun x186 m =>
  pkB x186 (.bool true) (.bool false) m fun x187 m =>
  pkB x187 (.bool true) (.bool false) m fun x188 m =>
  pkB x188 (.bool true) (.bool false) m fun x189 m =>
  pkB x189 (.bool true) (.bool false) m fun x190 m =>
  pkB x190 (.bool true) (.bool false) m fun x191 m =>
  pkB x191 (.bool true) (.bool false) m fun x192 m =>
  pkB x192 (.bool true) (.bool false) m fun x193 m =>
  brb x193
  (some ((.bool false), m))
  (Qf2 G m)
def Q8k (G : Gt) (m : M) : R :=
  Qf3 G m
theorem Qzw (G : Gt) (m : M) : evFn Tryz.prog G.tab G.rds (drOf Tryz.prog G.tab) Tryz.f3 [] m = Q8k G m :=
  evFn_of (r := fun ρ m => Q8k G m) rfl rfl (tr (seqQ (f := fun ρ m => Qf3 G m) (tr (seqQ (f := fun ρ m => Qf2 G m) (tr (seqQ (f := fun ρ m => Qf1 G (ρ 1) (ρ 3) m) (tr (seqQ (f := fun ρ m => Qf0 G (ρ 4) (ρ 3) (ρ 5) (ρ 1) m) (tr (seqQ (f := fun ρ m => Qez G (ρ 3) (ρ 5) (ρ 8) (ρ 1) (ρ 6) m) (tr (tr (seqQ (f := fun ρ m => Qey G m) (tr (seqQ (f := fun ρ m => Qex G (ρ 11) (ρ 9) m) (tr (tr (seqQ (f := fun ρ m => Qew G m) (tr (tr (seqQ (f := fun ρ m => Qeu G m) (fun ρ m => by kernel_rfl)) (seqQ (f := fun ρ m => Qev G (ρ 228) (ρ 227) (ρ 226) m) (tr (blockQ (loopQ (fun i ρ m => Qs G i (ρ 228) (ρ 227) (ρ 226) m) (fun _ _ => rfl) (fun i0 => tr (seqQ (f := fun ρ m => Qdn G (Qs G i0) (ρ 229) (ρ 226) (ρ 228) (ρ 227) m) (tr (seqQ (f := fun ρ m => Qdm G (Qs G i0) (ρ 226) (ρ 228) (ρ 227) m) (tr (tr seqD (blockQ (seqQ (f := fun ρ m => Qdl G (Qs G i0) (ρ 13) (ρ 228) (ρ 227) (ρ 226) m) (tr (seqQ (f := fun ρ m => Qdk G (Qs G i0) (ρ 16) (ρ 13) (ρ 15) (ρ 228) (ρ 227) (ρ 226) m) (tr (seqQ (f := fun ρ m => Q3k G (Qs G i0) (ρ 256) (ρ 228) (ρ 227) (ρ 226) m) (fun ρ m => by kernel_rfl)) (fun ρ m => by kernel_rfl))) (fun ρ m => by kernel_rfl))))) (fun ρ m => by kernel_rfl))) (fun ρ m => by kernel_rfl))) (fun ρ m => by kernel_rfl)))) (fun ρ m => by kernel_rfl)))) (fun ρ m => by kernel_rfl))) (seqQ (f := fun ρ m => Q25 G (ρ 206) m) (fun ρ m => by kernel_rfl))) (fun ρ m => by kernel_rfl))) (fun ρ m => by kernel_rfl))) (seqQ (f := fun ρ m => Q6 G (ρ 177) m) (fun ρ m => by kernel_rfl))) (fun ρ m => by kernel_rfl))) (fun ρ m => by kernel_rfl))) (fun ρ m => by kernel_rfl))) (fun ρ m => by kernel_rfl))) (fun ρ m => by kernel_rfl))) (fun ρ m => by kernel_rfl)) m
def Qzx : Entry Tryz.prog := ⟨Q8f, Tryz.f3, Tryz.func3, by kernel_rfl, arg0 (fun G  m => Q8k G m), okarg0 Qzw⟩
end
end Go.Ab.Sh

set_option linter.unusedVariables false
set_option maxRecDepth 100000
namespace Go.Ab.Sh
open Go Go.Ab Go.Proofs
noncomputable section
def Qx (G : Gt) (p0 : V) (m : M) : R :=
  some (p0, m)
def Qpn (G : Gt) (p3 p6 p5 p1 : V) (m : M) : R :=
  bp (pur (bin .eql true true .int p3 (.int .i64 0)) m) fun x0 m =>
  brb x0
  (bp (pur (bin .eql true true .int p6 (.int .i64 130)) m) fun x1 m =>
  brb x1
  (bp (pur (aFieldAddr 0 p5) m) fun x2 m =>
  bp (pur (aLoad false 1 x2 m) m) fun x3 m =>
  bp (pur (bin .eql true true .int x3 (.int .i64 1)) m) fun x4 m =>
  brb x4
  (bp (pur (aFieldAddr 1 p5) m) fun x5 m =>
  bp (pur (aLoad false 1 x5 m) m) fun x6 m =>
  bp (pur (bin .eql true true .int x6 (.int .i64 10)) m) fun x7 m =>
  brb x7
  (bp (pur (aFieldAddr 0 p1) m) fun x8 m =>
  bp (pur (aLoad false 1 x8 m) m) fun x9 m =>
  bp (pur (bin .eql true true .str x9 (.string ⟨#[97]⟩)) m) fun x10 m =>
  brb x10
  (bp (pur (aFieldAddr 3 p1) m) fun x11 m =>
  bp (pur (aLoad false 1 x11 m) m) fun x12 m =>
  bp (pur (lenK 1 x12 m) m) fun x13 m =>
  bp (pur (bin .eql true true .int x13 (.int .i64 1)) m) fun x14 m =>
  brb x14
  (bp (pur (aFieldAddr 3 p1) m) fun x15 m =>
  bp (pur (aLoad false 1 x15 m) m) fun x16 m =>
  bp (pur (aIndexAddrSl 11 x16 (.int .i64 0)) m) fun x17 m =>
  bp (pur (aFieldAddr 3 x17) m) fun x18 m =>
  bp (pur (aLoad false 1 x18 m) m) fun x19 m =>
  bp (pur (bin .eql true true .int x19 (.int .i64 24)) m) fun x20 m =>
  brb x20
  (bp (pur (aFieldAddr 3 p1) m) fun x21 m =>
  bp (pur (aLoad false 1 x21 m) m) fun x22 m =>
  bp (pur (aIndexAddrSl 11 x22 (.int .i64 0)) m) fun x23 m =>
  bp (pur (aFieldAddr 8 x23) m) fun x24 m =>
  bp (pur (aLoad false 1 x24 m) m) fun x25 m =>
  bp (pur (bin .eql true true .int x25 (.int .i64 0)) m) fun x26 m =>
  brb x26
  (bp (pur (aFieldAddr 3 p1) m) fun x27 m =>
  bp (pur (aLoad false 1 x27 m) m) fun x28 m =>
  bp (pur (aIndexAddrSl 11 x28 (.int .i64 0)) m) fun x29 m =>
  bp (pur (aFieldAddr 9 x29) m) fun x30 m =>
  bp (pur (aLoad false 1 x30 m) m) fun x31 m =>
  bp (pur (bin .eql true true .int x31 (.int .i64 1)) m) fun x32 m =>
  Qx G x32 m)
  (Qx G (.bool false) m))
  (Qx G (.bool false) m))
  (Qx G (.bool false) m))
  (Qx G (.bool false) m))
  (Qx G (.bool false) m))
  (Qx G (.bool false) m))
  (Qx G (.bool false) m))
  (Qx G (.bool false) m)
def Qpo (G : Gt) (p3 p1 : V) (m : M) : R :=
  bp (G.tab Qa [(.string ⟨#[115,121,115,116,101,109,32,123,32,104,111,115,116,45,110,97,109,101,59,32,125]⟩)] m) fun x33 m =>
  bp (pur (aExtract x33 0) m) fun x34 m =>
  bp (pur (aExtract x33 1) m) fun x35 m =>
  bp (pur (aExtract x33 2) m) fun x36 m =>
  bp (some (aNew Ql Q1t m)) fun x37 m =>
  bp (some (aNew Q9 Q5 m)) fun x38 m =>
  bp (unt (aStore 12 x37 x34 m)) fun _ m =>
  bp (unt (aStore 2 x38 x35 m)) fun _ m =>
  Qpn G p3 x36 x38 p1 m
def Qpp (G : Gt) (m : M) : R :=
  bp (G.tab Qa [(.string ⟨#[115,121,115,116,101,109,32,123,32,104,111,115,116,45,110,97,109,101,32,97,59,32,125,32,105,110,116,101,114,102,97,99,101,115,32,123,32,101,48,32,123,32,97,100,100,114,101,115,115,32,49,48,46,48,46,48,46,49,47,50,52,59,32,97,114,101,97,32,48,59,32,125,32,125]⟩)] m) fun x39 m =>
  bp (pur (aExtract x39 0) m) fun x40 m =>
  bp (pur (aExtract x39 1) m) fun x41 m =>
  bp (pur (aExtract x39 2) m) fun x42 m =>
  bp (some (aNew Ql Q1t m)) fun x43 m =>
  bp (some (aNew Q9 Q5 m)) fun x44 m =>
  bp (unt (aStore 12 x43 x40 m)) fun _ m =>
  bp (unt (aStore 2 x44 x41 m)) fun _ m =>
  Qpo G x42 x43 m
def Qhh (G : Gt) (m : M) : R :=
  Qpp G m
theorem Q1cq (G : Gt) (m : M) : evFn Tryz.prog G.tab G.rds (drOf Tryz.prog G.tab) Tryz.f4 [] m = Qhh G m :=
  evFn_of (r := fun ρ m => Qhh G m) rfl rfl (tr (seqQ (f := fun ρ m => Qpp G m) (tr (seqQ (f := fun ρ m => Qpo G (ρ 3) (ρ 1) m) (tr (seqQ (f := fun ρ m => Qpn G (ρ 3) (ρ 6) (ρ 5) (ρ 1) m) (tr (seqQ (f := fun ρ m => Qx G (ρ 0) m) (fun ρ m => by kernel_rfl)) (fun ρ m => by kernel_rfl))) (fun ρ m => by kernel_rfl))) (fun ρ m => by kernel_rfl))) (fun ρ m => by kernel_rfl)) m
def Q1cr : Entry Tryz.prog := ⟨Qsx, Tryz.f4, Tryz.func4, by kernel_rfl, arg0 (fun G  m => Qhh G m), okarg0 Q1cq⟩
def Qxl (G : Gt) (p0 : V) (m : M) : R :=
  bp (some (aNew Ql Q1t m)) fun x0 m =>
  bp (some (aNew Q9 Q5 m)) fun x1 m =>
  bp (G.tab Qst [p0] m) fun x2 m =>
  bp (pur (aExtract x2 0) m) fun x3 m =>
  bp (pur (aExtract x2 1) m) fun x4 m =>
  bp (pur (aExtract x2 2) m) fun x5 m =>
  bp (some (aNew Q9 Q5 m)) fun x6 m =>
  bp (unt (aStore 2 x6 x4 m)) fun _ m =>
  bp (pur (bin .neq true true .int x5 (.int .i64 0)) m) fun x7 m =>
  brb x7
  (bp (pur (aBuild Q1t [(0, 1), (1, 1), (2, 1), (3, 1), (4, 1), (5, 1), (6, 1), (7, 1), (8, 1), (9, 1), (10, 1), (11, 1)] []) m) fun x8 m =>
  bp (pur (aLoad true 2 x6 m) m) fun x9 m =>
  bp (unt (aStore 12 x0 x8 m)) fun _ m =>
  ckB (again (pur (aLoad true 2 x6 m) m) x9 && true)
  (bp (unt (aStore 2 x1 x9 m)) fun _ m =>
  ob (ob (aLoad true 12 x0 m) fun v => ob (ob (aLoad true 2 x1 m) fun v => ob (some [x5]) fun l => some (v :: l)) fun l => some (v :: l)) fun l => some (resVal l, m)))
  (bp (G.tab Q197 [x3] m) fun x10 m =>
  bp (pur (aExtract x10 0) m) fun x11 m =>
  bp (pur (aExtract x10 1) m) fun x12 m =>
  bp (pur (aExtract x10 2) m) fun x13 m =>
  bp (unt (aStore 2 x6 x12 m)) fun _ m =>
  bp (pur (bin .neq true true .int x13 (.int .i64 0)) m) fun x14 m =>
  brb x14
  (bp (pur (aBuild Q1t [(0, 1), (1, 1), (2, 1), (3, 1), (4, 1), (5, 1), (6, 1), (7, 1), (8, 1), (9, 1), (10, 1), (11, 1)] []) m) fun x15 m =>
  bp (pur (aLoad true 2 x6 m) m) fun x16 m =>
  bp (unt (aStore 12 x0 x15 m)) fun _ m =>
  ckB (again (pur (aLoad true 2 x6 m) m) x16 && true)
  (bp (unt (aStore 2 x1 x16 m)) fun _ m =>
  ob (ob (aLoad true 12 x0 m) fun v => ob (ob (aLoad true 2 x1 m) fun v => ob (some [x13]) fun l => some (v :: l)) fun l => some (v :: l)) fun l => some (resVal l, m)))
  (bp (G.tab Q1d7 [x11] m) fun x17 m =>
  bp (pur (aExtract x17 0) m) fun x18 m =>
  bp (pur (aExtract x17 1) m) fun x19 m =>
  bp (pur (aExtract x17 2) m) fun x20 m =>
  bp (unt (aStore 12 x0 x18 m)) fun _ m =>
  bp (unt (aStore 2 x1 x19 m)) fun _ m =>
  ob (ob (aLoad true 12 x0 m) fun v => ob (ob (aLoad true 2 x1 m) fun v => ob (some [x20]) fun l => some (v :: l)) fun l => some (v :: l)) fun l => some (resVal l, m)))
theorem Q1k7 (G : Gt) (a0 : V) (m : M) : evFn Tryz.prog G.tab G.rds (drOf Tryz.prog G.tab) Tryz.f5 [a0] m = Qxl G a0 m :=
  evFn_of (r := fun ρ m => Qxl G (ρ 0) m) rfl rfl (fun ρ m => by kernel_rfl) m
def Q1k8 : Entry Tryz.prog := ⟨Qa, Tryz.f5, Tryz.func5, by kernel_rfl, arg1 (fun G a0 m => Qxl G a0 m), okarg1 Q1k7⟩
def Q13p (G : Gt) (p4 p5 p1 p6 p7 : V) (m : M) : R :=
  bp (pur (aFieldAddr 0 p4) m) fun x0 m =>
  bp (pur (aLoad false 1 x0 m) m) fun x1 m =>
  bp (pur (aFieldAddr 0 p5) m) fun x2 m =>
  bp (pur (aLoad false 1 x2 m) m) fun x3 m =>
  bp (aBuildSlice Q1 [(.string ⟨#[]⟩)] 1 1 [(0, (.string ⟨#[105,110,115,116,97,110,99,101,115]⟩))] m) fun x4 m =>
  bp (pur (aLoad true 12 p1 m) m) fun x5 m =>
  bp (pur (aLoad true 12 p1 m) m) fun x6 m =>
  bp (pur (aFieldAddr 0 p6) m) fun x7 m =>
  bp (pur (aLoad false 1 x7 m) m) fun x8 m =>
  bp (aBuildSlice Q1 [(.string ⟨#[]⟩)] 1 1 [(0, (.string ⟨#[110,97,116]⟩))] m) fun x9 m =>
  bp (pur (aFieldAddr 0 p7) m) fun x10 m =>
  bp (pur (aLoad false 1 x10 m) m) fun x11 m =>
  bp (aBuildSlice Q1 [(.string ⟨#[]⟩)] 1 1 [(0, (.string ⟨#[114,111,117,116,101,115]⟩))] m) fun x12 m =>
  bp (pur (aLoad true 12 p1 m) m) fun x13 m =>
  bp (pur (aLoad true 12 p1 m) m) fun x14 m =>
  bp (G.tab Qn [x3, x4] m) fun x15 m =>
  ckB (again (pur (aLoad false 1 x0 m) m) x1 && (again (pur (aLoad true 12 p1 m) m) x5 && (again (pur (aLoad true 12 p1 m) m) x6 && (again (pur (aLoad false 1 x7 m) m) x8 && (again (pur (aLoad false 1 x10 m) m) x11 && (again (pur (aLoad true 12 p1 m) m) x13 && (again (pur (aLoad true 12 p1 m) m) x14 && true)))))))
  (bp (G.tab Q15n [x5] m) fun x16 m =>
  ckB (again (pur (aLoad false 1 x0 m) m) x1 && (again (pur (aLoad true 12 p1 m) m) x6 && (again (pur (aLoad false 1 x7 m) m) x8 && (again (pur (aLoad false 1 x10 m) m) x11 && (again (pur (aLoad true 12 p1 m) m) x13 && (again (pur (aLoad true 12 p1 m) m) x14 && true))))))
  (bp (G.tab Q10q [x6] m) fun x17 m =>
  ckB (again (pur (aLoad false 1 x0 m) m) x1 && (again (pur (aLoad false 1 x7 m) m) x8 && (again (pur (aLoad false 1 x10 m) m) x11 && (again (pur (aLoad true 12 p1 m) m) x13 && (again (pur (aLoad true 12 p1 m) m) x14 && true)))))
  (bp (G.tab Qn [x8, x9] m) fun x18 m =>
  ckB (again (pur (aLoad false 1 x0 m) m) x1 && (again (pur (aLoad false 1 x10 m) m) x11 && (again (pur (aLoad true 12 p1 m) m) x13 && (again (pur (aLoad true 12 p1 m) m) x14 && true))))
  (bp (G.tab Qn [x11, x12] m) fun x19 m =>
  ckB (again (pur (aLoad false 1 x0 m) m) x1 && (again (pur (aLoad true 12 p1 m) m) x13 && (again (pur (aLoad true 12 p1 m) m) x14 && true)))
  (bp (G.tab Q10r [x13] m) fun x20 m =>
  ckB (again (pur (aLoad false 1 x0 m) m) x1 && (again (pur (aLoad true 12 p1 m) m) x14 && true))
  (bp (G.tab Qy8 [x14] m) fun x21 m =>
  ckB (again (pur (aLoad false 1 x0 m) m) x1 && true)
  (bp (aBuildSlice Q2 Q4 4 7 [(0, x15), (1, x16), (2, x17), (3, x18), (4, x19), (5, x20), (6, x21)] m) fun x22 m =>
  bp (apS Q2 4 80 x1 x22 m) fun x23 m =>
  bp (pur (aFieldAddr 0 p4) m) fun x24 m =>
  bp (unt (aStore 1 x24 x23 m)) fun _ m =>
  bp (pur (aFieldAddr 0 p4) m) fun x25 m =>
  bp (pur (aLoad false 1 x25 m) m) fun x26 m =>
  bp (G.tab Q1fc [x26] m) fun x27 m =>
  bp (pur (aExtract x27 0) m) fun x28 m =>
  bp (pur (aExtract x27 1) m) fun x29 m =>
  bp (pur (bin .neq true true .int x29 (.int .i64 0)) m) fun x30 m =>
  brb x30
  (some (.tuple ⟨[(.string ⟨#[]⟩), (.int .i64 121)]⟩, m))
  (some (.tuple ⟨[x28, (.int .i64 0)]⟩, m)))))))))
def Qqq (G : Gt) : Nat → V → V → V → V → V → V → V → V → M → R
 | 0, _, _, _, _, _, _, _, _, _ => none
 | i + 1, p65, p64, p63, p7, p4, p5, p1, p6, m =>
  bp (pur (bin .lss false true .int p65 p64) m) fun x31 m =>
  brb x31
  (bp (pur (aIndexAddrSl 7 p63 p65) m) fun x32 m =>
  bp (pur (aLoad true 7 x32 m) m) fun x33 m =>
  bp (some (aNew Qab Qdz m)) fun x34 m =>
  bp (unt (aStore 7 x34 x33 m)) fun _ m =>
  bp (pur (aFieldAddr 1 x34) m) fun x35 m =>
  bp (pur (aLoad true 2 x35 m) m) fun x36 m =>
  bp (pur (aFieldAddr 4 x34) m) fun x37 m =>
  bp (pur (aLoad false 1 x37 m) m) fun x38 m =>
  bp (aBuildSlice Q1 [(.string ⟨#[]⟩)] 1 1 [(0, (.string ⟨#[100,105,115,99,97,114,100]⟩))] m) fun x39 m =>
  bp (pur (aFieldAddr 4 x34) m) fun x40 m =>
  bp (pur (aLoad false 1 x40 m) m) fun x41 m =>
  bp (pur (un .not x41) m) fun x42 m =>
  bp (pur (aFieldAddr 3 x34) m) fun x43 m =>
  bp (pur (aLoad false 1 x43 m) m) fun x44 m =>
  bp (pur (aFieldAddr 0 x34) m) fun x45 m =>
  bp (pur (aLoad false 1 x45 m) m) fun x46 m =>
  bp (pur (bin .neq true true .str x46 (.string ⟨#[]⟩)) m) fun x47 m =>
  bp (pur (aFieldAddr 0 x34) m) fun x48 m =>
  bp (pur (aLoad false 1 x48 m) m) fun x49 m =>
  bp (aBuildSlice Q1 [(.string ⟨#[]⟩)] 1 2 [(0, (.string ⟨#[105,110,115,116,97,110,99,101]⟩)), (1, x49)] m) fun x50 m =>
  bp (pur (aFieldAddr 5 x34) m) fun x51 m =>
  bp (pur (aLoad false 1 x51 m) m) fun x52 m =>
  bp (pur (aFieldAddr 6 x34) m) fun x53 m =>
  bp (pur (aLoad false 1 x53 m) m) fun x54 m =>
  bp (G.tab Q67 [x36] m) fun x55 m =>
  ckB (again (pur (aLoad false 1 x37 m) m) x38 && (again (pur (aLoad false 1 x40 m) m) x41 && (again (pur (aLoad false 1 x43 m) m) x44 && (again (pur (aLoad false 1 x45 m) m) x46 && (again (pur (aLoad false 1 x48 m) m) x49 && (again (pur (aLoad false 1 x51 m) m) x52 && (again (pur (aLoad false 1 x53 m) m) x54 && true)))))))
  (bp (G.tab Q7j [x38, x39] m) fun x56 m =>
  ckB (again (pur (aLoad false 1 x40 m) m) x41 && (again (pur (aLoad false 1 x43 m) m) x44 && (again (pur (aLoad false 1 x45 m) m) x46 && (again (pur (aLoad false 1 x48 m) m) x49 && (again (pur (aLoad false 1 x51 m) m) x52 && (again (pur (aLoad false 1 x53 m) m) x54 && true))))))
  (bp (G.tab Q7e [x44] m) fun x57 m =>
  ckB (again (pur (aLoad false 1 x40 m) m) x41 && (again (pur (aLoad false 1 x45 m) m) x46 && (again (pur (aLoad false 1 x48 m) m) x49 && (again (pur (aLoad false 1 x51 m) m) x52 && (again (pur (aLoad false 1 x53 m) m) x54 && true)))))
  (bp (aBuildSlice Q1 [(.string ⟨#[]⟩)] 1 2 [(0, (.string ⟨#[110,101,120,116,45,104,111,112]⟩)), (1, x57)] m) fun x58 m =>
  bp (G.tab Q7j [x42, x58] m) fun x59 m =>
  ckB (again (pur (aLoad false 1 x45 m) m) x46 && (again (pur (aLoad false 1 x48 m) m) x49 && (again (pur (aLoad false 1 x51 m) m) x52 && (again (pur (aLoad false 1 x53 m) m) x54 && true))))
  (bp (G.tab Q7j [x47, x50] m) fun x60 m =>
  ckB (again (pur (aLoad false 1 x51 m) m) x52 && (again (pur (aLoad false 1 x53 m) m) x54 && true))
  (bp (G.tab Qg [x52] m) fun x61 m =>
  ckB (again (pur (aLoad false 1 x53 m) m) x54 && true)
  (bp (G.tab Qg [x54] m) fun x62 m =>
  bp (aBuildSlice Q1 [(.string ⟨#[]⟩)] 1 9 [(0, (.string ⟨#[114,111,117,116,101]⟩)), (1, x55), (2, x56), (3, x59), (4, x60), (5, (.string ⟨#[112,114,101,102,101,114,101,110,99,101]⟩)), (6, x61), (7, (.string ⟨#[116,97,103]⟩)), (8, x62)] m) fun x63 m =>
  bp (G.tab Q3 [p7, (.bool true), x63] m) fun x64 m =>
  bp (pur (bin .add true true .int p65 (.int .i64 1)) m) fun x65 m =>
  (Qqq G i) x65 p64 p63 p7 p4 p5 p1 p6 m)))))))
  (Q13p G p4 p5 p1 p6 p7 m)
def Q13q (G : Gt) (p65 p64 p63 p7 p4 p5 p1 p6 : V) (m : M) : R :=
  Qqq G G.rds p65 p64 p63 p7 p4 p5 p1 p6 m
def Q13r (G : Gt) (p1 p7 p4 p5 p6 : V) (m : M) : R :=
  bp (pur (aFieldAddr 6 p1) m) fun x66 m =>
  bp (pur (aLoad false 1 x66 m) m) fun x67 m =>
  bp (pur (lenK 1 x67 m) m) fun x68 m =>
  Q13q G (.int .i64 0) x68 x67 p7 p4 p5 p1 p6 m
def Qod (G : Gt) : Nat → V → V → V → V → V → V → V → V → M → R
 | 0, _, _, _, _, _, _, _, _, _ => none
 | i + 1, p45, p44, p43, p6, p1, p7, p4, p5, m =>
  bp (pur (bin .lss false true .int p45 p44) m) fun x69 m =>
  brb x69
  (bp (pur (aIndexAddrSl 3 p43 p45) m) fun x70 m =>
  bp (pur (aLoad true 3 x70 m) m) fun x71 m =>
  bp (some (aNew Qc6 Qc7 m)) fun x72 m =>
  bp (unt (aStore 3 x72 x71 m)) fun _ m =>
  bp (pur (aBuildArr Qy6 1 [(0, (.string ⟨#[115,111,117,114,99,101]⟩)), (1, (.string ⟨#[100,101,115,116,105,110,97,116,105,111,110]⟩))]) m) fun x73 m =>
  bp (pur (aFieldAddr 0 x72) m) fun x74 m =>
  bp (pur (aLoad false 1 x74 m) m) fun x75 m =>
  bp (pur (aFieldAddr 1 x72) m) fun x76 m =>
  bp (pur (aLoad false 1 x76 m) m) fun x77 m =>
  bp (pur (aFieldAddr 2 x72) m) fun x78 m =>
  bp (pur (aLoad false 1 x78 m) m) fun x79 m =>
  bp (G.tab Qad [x75] m) fun x80 m =>
  ckB (again (pur (aLoad false 1 x76 m) m) x77 && (again (pur (aLoad false 1 x78 m) m) x79 && true))
  (bp (pur (aIndexArr 2 1 false x73 x80) m) fun x81 m =>
  bp (G.tab Q7e [x79] m) fun x82 m =>
  ckB (again (pur (aLoad false 1 x76 m) m) x77 && true)
  (bp (aBuildSlice Q1 [(.string ⟨#[]⟩)] 1 4 [(0, x81), (1, x77), (2, (.string ⟨#[116,111]⟩)), (3, x82)] m) fun x83 m =>
  bp (G.tab Q3 [p6, (.bool true), x83] m) fun x84 m =>
  bp (pur (bin .add true true .int p45 (.int .i64 1)) m) fun x85 m =>
  (Qod G i) x85 p44 p43 p6 p1 p7 p4 p5 m)))
  (Q13r G p1 p7 p4 p5 p6 m)
def Q13s (G : Gt) (p45 p44 p43 p6 p1 p7 p4 p5 : V) (m : M) : R :=
  Qod G G.rds p45 p44 p43 p6 p1 p7 p4 p5 m
def Q13t (G : Gt) (p1 p6 p7 p4 p5 : V) (m : M) : R :=
  bp (pur (aFieldAddr 5 p1) m) fun x86 m =>
  bp (pur (aLoad false 1 x86 m) m) fun x87 m =>
  bp (pur (lenK 1 x87 m) m) fun x88 m =>
  Q13s G (.int .i64 0) x88 x87 p6 p1 p7 p4 p5 m
def Qoe (G : Gt) : Nat → V → V → V → V → V → V → V → V → M → R
 | 0, _, _, _, _, _, _, _, _, _ => none
 | i + 1, p34, p33, p32, p5, p1, p6, p7, p4, m =>
  bp (pur (bin .lss false true .int p34 p33) m) fun x89 m =>
  brb x89
  (bp (pur (aIndexAddrSl 1 p32 p34) m) fun x90 m =>
  bp (pur (aLoad false 1 x90 m) m) fun x91 m =>
  bp (aBuildSlice Q1 [(.string ⟨#[]⟩)] 1 1 [(0, x91)] m) fun x92 m =>
  bp (G.tab Q3 [p5, (.bool true), x92] m) fun x93 m =>
  bp (pur (bin .add true true .int p34 (.int .i64 1)) m) fun x94 m =>
  (Qoe G i) x94 p33 p32 p5 p1 p6 p7 p4 m)
  (Q13t G p1 p6 p7 p4 p5 m)
def Q11c (G : Gt) (p34 p33 p32 p5 p1 p6 p7 p4 : V) (m : M) : R :=
  Qoe G G.rds p34 p33 p32 p5 p1 p6 p7 p4 m
def Q13u (G : Gt) (p1 p5 p6 p7 p4 : V) (m : M) : R :=
  bp (pur (aFieldAddr 2 p1) m) fun x95 m =>
  bp (pur (aLoad false 1 x95 m) m) fun x96 m =>
  bp (pur (lenK 1 x96 m) m) fun x97 m =>
  Q11c G (.int .i64 0) x97 x96 p5 p1 p6 p7 p4 m
def Q13v (G : Gt) (p4 p1 p5 p6 p7 : V) (m : M) : R :=
  bp (pur (aFieldAddr 0 p4) m) fun x98 m =>
  bp (pur (aLoad false 1 x98 m) m) fun x99 m =>
  bp (pur (aFieldAddr 0 p1) m) fun x100 m =>
  bp (pur (aLoad false 1 x100 m) m) fun x101 m =>
  bp (aBuildSlice Q1 [(.string ⟨#[]⟩)] 1 2 [(0, (.string ⟨#[104,111,115,116,45,110,97,109,101]⟩)), (1, x101)] m) fun x102 m =>
  bp (aBuildSlice Q1 [(.string ⟨#[]⟩)] 1 1 [(0, (.string ⟨#[115,121,115,116,101,109]⟩))] m) fun x103 m =>
  bp (G.tab Qc5 [x102] m) fun x104 m =>
  ckB (again (pur (aLoad false 1 x98 m) m) x99 && true)
  (bp (aBuildSlice Q2 Q4 4 1 [(0, x104)] m) fun x105 m =>
  bp (G.tab Qn [x105, x103] m) fun x106 m =>
  ckB (again (pur (aLoad false 1 x98 m) m) x99 && true)
  (bp (aBuildSlice Q2 Q4 4 1 [(0, x106)] m) fun x107 m =>
  bp (apS Q2 4 80 x99 x107 m) fun x108 m =>
  bp (pur (aFieldAddr 0 p4) m) fun x109 m =>
  bp (unt (aStore 1 x109 x108 m)) fun _ m =>
  Q13u G p1 p5 p6 p7 p4 m))
def Q13w (G : Gt) (p1 : V) (m : M) : R :=
  bp (some (aNew Q1r [(.slice none 0 0)] m)) fun x110 m =>
  bp (some (aNew Q1r [(.slice none 0 0)] m)) fun x111 m =>
  bp (some (aNew Q1r [(.slice none 0 0)] m)) fun x112 m =>
  bp (some (aNew Q1r [(.slice none 0 0)] m)) fun x113 m =>
  Q13v G x110 p1 x111 x112 x113 m
def Q13x (G : Gt) (p1 : V) (m : M) : R :=
  bp (pur (aLoad true 12 p1 m) m) fun x114 m =>
  bp (G.tab Q1fb [x114] m) fun x115 m =>
  bp (pur (un .not x115) m) fun x116 m =>
  brb x116
  (some (.tuple ⟨[(.string ⟨#[]⟩), (.int .i64 121)]⟩, m))
  (Q13w G p1 m)
def Qxm (G : Gt) (p0 : V) (m : M) : R :=
  bp (some (aNew Ql (Value.cells p0).toList m)) fun x117 m =>
  Q13x G x117 m
theorem Q1k9 (G : Gt) (a0 : V) (m : M) : evFn Tryz.prog G.tab G.rds (drOf Tryz.prog G.tab) Tryz.f6 [a0] m = Qxm G a0 m :=
  evFn_of (r := fun ρ m => Qxm G (ρ 0) m) rfl rfl (tr (seqQ (f := fun ρ m => Q13x G (ρ 1) m) (tr (seqQ (f := fun ρ m => Q13w G (ρ 1) m) (tr (seqQ (f := fun ρ m => Q13v G (ρ 4) (ρ 1) (ρ 5) (ρ 6) (ρ 7) m) (tr (seqQ (f := fun ρ m => Q13u G (ρ 1) (ρ 5) (ρ 6) (ρ 7) (ρ 4) m) (tr (tr (seqQ (f := fun ρ m => Q13t G (ρ 1) (ρ 6) (ρ 7) (ρ 4) (ρ 5) m) (tr (tr (seqQ (f := fun ρ m => Q13r G (ρ 1) (ρ 7) (ρ 4) (ρ 5) (ρ 6) m) (tr (tr (seqQ (f := fun ρ m => Q13p G (ρ 4) (ρ 5) (ρ 1) (ρ 6) (ρ 7) m) (fun ρ m => by kernel_rfl)) (seqQ (f := fun ρ m => Q13q G (ρ 65) (ρ 64) (ρ 63) (ρ 7) (ρ 4) (ρ 5) (ρ 1) (ρ 6) m) (tr (blockQ (loopQ (fun i ρ m => Qqq G i (ρ 65) (ρ 64) (ρ 63) (ρ 7) (ρ 4) (ρ 5) (ρ 1) (ρ 6) m) (fun _ _ => rfl) (fun i0 => fun ρ m => by kernel_rfl))) (fun ρ m => by kernel_rfl)))) (fun ρ m => by kernel_rfl))) (seqQ (f := fun ρ m => Q13s G (ρ 45) (ρ 44) (ρ 43) (ρ 6) (ρ 1) (ρ 7) (ρ 4) (ρ 5) m) (tr (blockQ (loopQ (fun i ρ m => Qod G i (ρ 45) (ρ 44) (ρ 43) (ρ 6) (ρ 1) (ρ 7) (ρ 4) (ρ 5) m) (fun _ _ => rfl) (fun i0 => fun ρ m => by kernel_rfl))) (fun ρ m => by kernel_rfl)))) (fun ρ m => by kernel_rfl))) (seqQ (f := fun ρ m => Q11c G (ρ 34) (ρ 33) (ρ 32) (ρ 5) (ρ 1) (ρ 6) (ρ 7) (ρ 4) m) (tr (blockQ (loopQ (fun i ρ m => Qoe G i (ρ 34) (ρ 33) (ρ 32) (ρ 5) (ρ 1) (ρ 6) (ρ 7) (ρ 4) m) (fun _ _ => rfl) (fun i0 => fun ρ m => by kernel_rfl))) (fun ρ m => by kernel_rfl)))) (fun ρ m => by kernel_rfl))) (fun ρ m => by kernel_rfl))) (fun ρ m => by kernel_rfl))) (fun ρ m => by kernel_rfl))) (fun ρ m => by kernel_rfl)) m
def Q1ka : Entry Tryz.prog := ⟨Qe4, Tryz.f6, Tryz.func6, by kernel_rfl, arg1 (fun G a0 m => Qxm G a0 m), okarg1 Q1k9⟩
end
end Go.Ab.Sh
