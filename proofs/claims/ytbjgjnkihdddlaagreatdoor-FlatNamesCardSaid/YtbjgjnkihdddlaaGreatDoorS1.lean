/-
  Functions of the program as plain definitions, each with the theorem that it is what the evaluator makes of the code. No conditions.
-/
import Derived.Test.YtbjgjnkihdddlaaGreatDoorAb4
import Derived.Test.YtbjgjnkihdddlaaGreatDoorZ
import Derived.KernelRfl
import Derived.Test.YtbjgjnkihdddlaaGreatDoorProg
set_option linter.unusedVariables false
set_option maxRecDepth 100000
namespace Go.Ab.Sh
open Go Go.Ab
noncomputable section
def Qxp (G : Gt) (p4 : Value) (m : Mem) : Option Rs :=
  bp (pur (aNilCheck p4) m) fun x0 m =>
  bp (pur (aFieldAddr 0 x0) m) fun x1 m =>
  bp (G.tab Qg3 [x1] m) fun x2 m =>
  some (.tuple ⟨[x2, (.int .i64 0)]⟩, m)
def Qpw (G : Gt) : Nat → Value → Value → Value → Value → Mem → Option Rs
  | 0, _, _, _, _, _ => none
  | i + 1, p194, p193, p192, p4, m =>
  bp (pur (bin .lss false true .int p194 p193) m) fun x3 m =>
  brb x3
    (bp (pur (aIndexAddrSl 6 p192 p194) m) fun x4 m =>
  bp (pur (aLoad true 6 x4 m) m) fun x5 m =>
  bp (some (aNew Q9y Qn3 m)) fun x6 m =>
  bp (unt (aStore 6 x6 x5 m)) fun _ m =>
  bp (pur (aLoad true 6 x6 m) m) fun x7 m =>
  bp (G.tab Qt8 [p4, x7] m) fun x8 m =>
  bp (pur (bin .add true true .int p194 (.int .i64 1)) m) fun x9 m =>
  (Qpw G i) x9 p193 p192 p4 m)
    (Qxp G p4 m)
def Qxq (G : Gt) (p194 p193 p192 p4 : Value) (m : Mem) : Option Rs :=
  Qpw G G.rds p194 p193 p192 p4 m
def Qxr (G : Gt) (p1 p4 : Value) (m : Mem) : Option Rs :=
  bp (pur (aFieldAddr 11 p1) m) fun x10 m =>
  bp (pur (aLoad false 1 x10 m) m) fun x11 m =>
  bp (pur (lenK 1 x11 m) m) fun x12 m =>
  Qxq G (.int .i64 0) x12 x11 p4 m
def Qpx (G : Gt) : Nat → Value → Value → Value → Value → Value → Mem → Option Rs
  | 0, _, _, _, _, _, _ => none
  | i + 1, p166, p165, p164, p4, p1, m =>
  bp (pur (bin .lss false true .int p166 p165) m) fun x13 m =>
  brb x13
    (bp (pur (aIndexAddrSl 3 p164 p166) m) fun x14 m =>
  bp (pur (aLoad true 3 x14 m) m) fun x15 m =>
  bp (some (aNew Qd9 Qp8 m)) fun x16 m =>
  bp (unt (aStore 3 x16 x15 m)) fun _ m =>
  bp (pur (aFieldAddr 0 x16) m) fun x17 m =>
  bp (pur (aLoad false 1 x17 m) m) fun x18 m =>
  bp (pur (bin .neq true true .str x18 (.string ⟨#[]⟩)) m) fun x19 m =>
  bp (pur (aFieldAddr 0 x16) m) fun x20 m =>
  bp (pur (aLoad false 1 x20 m) m) fun x21 m =>
  bp (aBuildSlice Q2 [(.string ⟨#[]⟩)] 1 2 [(0, (.string ⟨#[118, 114, 102]⟩)), (1, x21)] m) fun x22 m =>
  bp (G.tab Q6o [x19, x22] m) fun x23 m =>
  bp (aBuildSlice Q2 [(.string ⟨#[]⟩)] 1 2 [(0, (.string ⟨#[114, 111, 117, 116, 101, 114, 32, 111, 115, 112, 102]⟩)), (1, x23)] m) fun x24 m =>
  bp (G.tab Q7 [p4, (.string ⟨#[]⟩), x24] m) fun x25 m =>
  bp (pur (aFieldAddr 1 x16) m) fun x26 m =>
  bp (pur (aLoad false 1 x26 m) m) fun x27 m =>
  bp (G.tab Q1t [x27] m) fun x28 m =>
  bp (aBuildSlice Q2 [(.string ⟨#[]⟩)] 1 2 [(0, (.string ⟨#[114, 111, 117, 116, 101, 114, 45, 105, 100]⟩)), (1, x28)] m) fun x29 m =>
  bp (G.tab Q7 [p4, (.string ⟨#[32]⟩), x29] m) fun x30 m =>
  bp (pur (aFieldAddr 2 x16) m) fun x31 m =>
  bp (pur (aLoad false 1 x31 m) m) fun x32 m =>
  bp (G.tab Qaj [p4, x32, (.string ⟨#[98, 103, 112]⟩), (.bool true)] m) fun x33 m =>
  bp (pur (bin .add true true .int p166 (.int .i64 1)) m) fun x34 m =>
  (Qpx G i) x34 p165 p164 p4 p1 m)
    (Qxr G p1 p4 m)
def Qxs (G : Gt) (p166 p165 p164 p4 p1 : Value) (m : Mem) : Option Rs :=
  Qpx G G.rds p166 p165 p164 p4 p1 m
def Qxt (G : Gt) (p1 p4 : Value) (m : Mem) : Option Rs :=
  bp (pur (aFieldAddr 10 p1) m) fun x35 m =>
  bp (pur (aLoad false 1 x35 m) m) fun x36 m =>
  bp (pur (lenK 1 x36 m) m) fun x37 m =>
  Qxs G (.int .i64 0) x37 x36 p4 p1 m
def Qxu (G : Gt) (k0 : Value → Value → Value → Value → Value → Mem → Option Rs) (p145 p144 p143 p4 p1 : Value) (m : Mem) : Option Rs :=
  bp (pur (bin .add true true .int p145 (.int .i64 1)) m) fun x38 m =>
  k0 x38 p144 p143 p4 p1 m
def Qpy (G : Gt) (k0 : Value → Value → Value → Value → Value → Mem → Option Rs) : Nat → Value → Value → Value → Value → Value → Value → Value → Value → Value → Mem → Option Rs
  | 0, _, _, _, _, _, _, _, _, _, _ => none
  | i + 1, p152, p151, p150, p4, p18, p145, p144, p143, p1, m =>
  bp (pur (bin .lss false true .int p152 p151) m) fun x39 m =>
  brb x39
    (bp (pur (aIndexAddrSl 15 p150 p152) m) fun x40 m =>
  bp (pur (aLoad true 15 x40 m) m) fun x41 m =>
  bp (some (aNew Q6v Qgv m)) fun x42 m =>
  bp (unt (aStore 15 x42 x41 m)) fun _ m =>
  bp (pur (aFieldAddr 0 p18) m) fun x43 m =>
  bp (pur (aLoad false 1 x43 m) m) fun x44 m =>
  bp (pur (aLoad true 15 x42 m) m) fun x45 m =>
  bp (G.tab Qnb [p4, x44, x45] m) fun x46 m =>
  bp (pur (bin .add true true .int p152 (.int .i64 1)) m) fun x47 m =>
  (Qpy G k0 i) x47 p151 p150 p4 p18 p145 p144 p143 p1 m)
    (Qxu G k0 p145 p144 p143 p4 p1 m)
def Qxv (G : Gt) (k0 : Value → Value → Value → Value → Value → Mem → Option Rs) (p152 p151 p150 p4 p18 p145 p144 p143 p1 : Value) (m : Mem) : Option Rs :=
  Qpy G k0 G.rds p152 p151 p150 p4 p18 p145 p144 p143 p1 m
def Qxw (G : Gt) (k0 : Value → Value → Value → Value → Value → Mem → Option Rs) (p18 p4 p145 p144 p143 p1 : Value) (m : Mem) : Option Rs :=
  bp (pur (aFieldAddr 1 p18) m) fun x48 m =>
  bp (pur (aLoad false 1 x48 m) m) fun x49 m =>
  bp (pur (lenK 1 x49 m) m) fun x50 m =>
  Qxv G k0 (.int .i64 0) x50 x49 p4 p18 p145 p144 p143 p1 m
def Qxx (G : Gt) (k0 : Value → Value → Value → Value → Value → Mem → Option Rs) (p143 p145 p4 p144 p1 : Value) (m : Mem) : Option Rs :=
  bp (pur (aIndexAddrSl 3 p143 p145) m) fun x51 m =>
  bp (pur (aLoad true 3 x51 m) m) fun x52 m =>
  bp (some (aNew Q42 Q8i m)) fun x53 m =>
  bp (unt (aStore 3 x53 x52 m)) fun _ m =>
  Qxw G k0 x53 p4 p145 p144 p143 p1 m
def Qxy (G : Gt) (k0 : Value → Value → Value → Value → Value → Mem → Option Rs) (p146 p143 p145 p4 p144 p1 : Value) (m : Mem) : Option Rs :=
  brb p146
    (Qxx G k0 p143 p145 p4 p144 p1 m)
    (Qxt G p1 p4 m)
def Q34 (G : Gt) : Nat → Value → Value → Value → Value → Value → Mem → Option Rs
  | 0, _, _, _, _, _, _ => none
  | i + 1, p145, p144, p143, p4, p1, m =>
  bp (pur (bin .lss false true .int p145 p144) m) fun x54 m =>
  Qxy G (Q34 G i) x54 p143 p145 p4 p144 p1 m
def Qxz (G : Gt) (p145 p144 p143 p4 p1 : Value) (m : Mem) : Option Rs :=
  Q34 G G.rds p145 p144 p143 p4 p1 m
def Q10v (G : Gt) (p1 p4 : Value) (m : Mem) : Option Rs :=
  bp (pur (aFieldAddr 9 p1) m) fun x55 m =>
  bp (pur (aLoad false 1 x55 m) m) fun x56 m =>
  bp (pur (lenK 1 x56 m) m) fun x57 m =>
  Qxz G (.int .i64 0) x57 x56 p4 p1 m
def Q10w (G : Gt) (p4 p1 : Value) (m : Mem) : Option Rs :=
  bp (pur (aLoad true 12 p1 m) m) fun x58 m =>
  bp (G.tab Qob [p4, x58] m) fun x59 m =>
  Q10v G p1 p4 m
def Qpz (G : Gt) : Nat → Value → Value → Value → Value → Value → Mem → Option Rs
  | 0, _, _, _, _, _, _ => none
  | i + 1, p104, p103, p102, p4, p1, m =>
  bp (pur (bin .lss false true .int p104 p103) m) fun x60 m =>
  brb x60
    (bp (pur (aIndexAddrSl 7 p102 p104) m) fun x61 m =>
  bp (pur (aLoad true 7 x61 m) m) fun x62 m =>
  bp (some (aNew Qbe Qgt m)) fun x63 m =>
  bp (unt (aStore 7 x63 x62 m)) fun _ m =>
  bp (pur (aFieldAddr 0 x63) m) fun x64 m =>
  bp (pur (aLoad false 1 x64 m) m) fun x65 m =>
  bp (pur (bin .neq true true .str x65 (.string ⟨#[]⟩)) m) fun x66 m =>
  bp (pur (aFieldAddr 0 x63) m) fun x67 m =>
  bp (pur (aLoad false 1 x67 m) m) fun x68 m =>
  bp (aBuildSlice Q2 [(.string ⟨#[]⟩)] 1 2 [(0, (.string ⟨#[118, 114, 102]⟩)), (1, x68)] m) fun x69 m =>
  bp (pur (aFieldAddr 1 x63) m) fun x70 m =>
  bp (pur (aFieldAddr 0 x70) m) fun x71 m =>
  bp (pur (aLoad false 1 x71 m) m) fun x72 m =>
  bp (pur (aFieldAddr 1 x63) m) fun x73 m =>
  bp (pur (aFieldAddr 1 x73) m) fun x74 m =>
  bp (pur (aLoad false 1 x74 m) m) fun x75 m =>
  bp (pur (aFieldAddr 4 x63) m) fun x76 m =>
  bp (pur (aLoad false 1 x76 m) m) fun x77 m =>
  bp (pur (aFieldAddr 3 x63) m) fun x78 m =>
  bp (pur (aLoad false 1 x78 m) m) fun x79 m =>
  bp (pur (aFieldAddr 5 x63) m) fun x80 m =>
  bp (pur (aLoad false 1 x80 m) m) fun x81 m =>
  bp (pur (aFieldAddr 6 x63) m) fun x82 m =>
  bp (pur (aLoad false 1 x82 m) m) fun x83 m =>
  bp (G.tab Q6o [x66, x69] m) fun x84 m =>
  ckB (again (pur (aLoad false 1 x71 m) m) x72 && (again (pur (aLoad false 1 x74 m) m) x75 && (again (pur (aLoad false 1 x76 m) m) x77 && (again (pur (aLoad false 1 x78 m) m) x79 && (again (pur (aLoad false 1 x80 m) m) x81 && (again (pur (aLoad false 1 x82 m) m) x83 && true))))))
    (bp (G.tab Q1t [x72] m) fun x85 m =>
  ckB (again (pur (aLoad false 1 x74 m) m) x75 && (again (pur (aLoad false 1 x76 m) m) x77 && (again (pur (aLoad false 1 x78 m) m) x79 && (again (pur (aLoad false 1 x80 m) m) x81 && (again (pur (aLoad false 1 x82 m) m) x83 && true)))))
    (bp (G.tab Qkf [x75, (.bool false)] m) fun x86 m =>
  ckB (again (pur (aLoad false 1 x76 m) m) x77 && (again (pur (aLoad false 1 x78 m) m) x79 && (again (pur (aLoad false 1 x80 m) m) x81 && (again (pur (aLoad false 1 x82 m) m) x83 && true))))
    (bp (G.tab Q1t [x79] m) fun x87 m =>
  ckB (again (pur (aLoad false 1 x76 m) m) x77 && (again (pur (aLoad false 1 x80 m) m) x81 && (again (pur (aLoad false 1 x82 m) m) x83 && true)))
    (bp (G.tab Q9x [x77, (.string ⟨#[100, 105, 115, 99, 97, 114, 100]⟩), x87] m) fun x88 m =>
  ckB (again (pur (aLoad false 1 x80 m) m) x81 && (again (pur (aLoad false 1 x82 m) m) x83 && true))
    (bp (G.tab Qe [x81] m) fun x89 m =>
  ckB (again (pur (aLoad false 1 x82 m) m) x83 && true)
    (bp (G.tab Qe [x83] m) fun x90 m =>
  bp (aBuildSlice Q2 [(.string ⟨#[]⟩)] 1 9 [(0, (.string ⟨#[105, 112, 32, 114, 111, 117, 116, 101]⟩)), (1, x84), (2, x85), (3, x86), (4, x88), (5, (.string ⟨#[100, 105, 115, 116, 97, 110, 99, 101]⟩)), (6, x89), (7, (.string ⟨#[116, 97, 103]⟩)), (8, x90)] m) fun x91 m =>
  bp (G.tab Q7 [p4, (.string ⟨#[]⟩), x91] m) fun x92 m =>
  bp (pur (bin .add true true .int p104 (.int .i64 1)) m) fun x93 m =>
  (Qpz G i) x93 p103 p102 p4 p1 m)))))))
    (Q10w G p4 p1 m)
def Qy0 (G : Gt) (p104 p103 p102 p4 p1 : Value) (m : Mem) : Option Rs :=
  Qpz G G.rds p104 p103 p102 p4 p1 m
def Q10x (G : Gt) (p1 p4 : Value) (m : Mem) : Option Rs :=
  bp (pur (aFieldAddr 6 p1) m) fun x94 m =>
  bp (pur (aLoad false 1 x94 m) m) fun x95 m =>
  bp (pur (lenK 1 x95 m) m) fun x96 m =>
  Qy0 G (.int .i64 0) x96 x95 p4 p1 m
def Qq0 (G : Gt) : Nat → Value → Value → Value → Value → Value → Mem → Option Rs
  | 0, _, _, _, _, _, _ => none
  | i + 1, p85, p84, p83, p4, p1, m =>
  bp (pur (bin .lss false true .int p85 p84) m) fun x97 m =>
  brb x97
    (bp (pur (aIndexAddrSl 3 p83 p85) m) fun x98 m =>
  bp (pur (aLoad true 3 x98 m) m) fun x99 m =>
  bp (some (aNew Qe8 Qe7 m)) fun x100 m =>
  bp (unt (aStore 3 x100 x99 m)) fun _ m =>
  bp (pur (aFieldAddr 0 x100) m) fun x101 m =>
  bp (pur (aLoad false 1 x101 m) m) fun x102 m =>
  bp (pur (aFieldAddr 1 x100) m) fun x103 m =>
  bp (pur (aLoad false 1 x103 m) m) fun x104 m =>
  bp (pur (aFieldAddr 2 x100) m) fun x105 m =>
  bp (pur (aLoad false 1 x105 m) m) fun x106 m =>
  bp (G.tab Q9x [x102, (.string ⟨#[100, 101, 115, 116, 105, 110, 97, 116, 105, 111, 110]⟩), (.string ⟨#[115, 111, 117, 114, 99, 101]⟩)] m) fun x107 m =>
  ckB (again (pur (aLoad false 1 x103 m) m) x104 && (again (pur (aLoad false 1 x105 m) m) x106 && true))
    (bp (G.tab Q1t [x106] m) fun x108 m =>
  ckB (again (pur (aLoad false 1 x103 m) m) x104 && true)
    (bp (aBuildSlice Q2 [(.string ⟨#[]⟩)] 1 6 [(0, (.string ⟨#[105, 112, 32, 110, 97, 116]⟩)), (1, x107), (2, (.string ⟨#[102, 105, 108, 116, 101, 114]⟩)), (3, x104), (4, (.string ⟨#[116, 111]⟩)), (5, x108)] m) fun x109 m =>
  bp (G.tab Q7 [p4, (.string ⟨#[]⟩), x109] m) fun x110 m =>
  bp (pur (bin .add true true .int p85 (.int .i64 1)) m) fun x111 m =>
  (Qq0 G i) x111 p84 p83 p4 p1 m)))
    (Q10x G p1 p4 m)
def Qy1 (G : Gt) (p85 p84 p83 p4 p1 : Value) (m : Mem) : Option Rs :=
  Qq0 G G.rds p85 p84 p83 p4 p1 m
def Q10y (G : Gt) (p1 p4 : Value) (m : Mem) : Option Rs :=
  bp (pur (aFieldAddr 5 p1) m) fun x112 m =>
  bp (pur (aLoad false 1 x112 m) m) fun x113 m =>
  bp (pur (lenK 1 x113 m) m) fun x114 m =>
  Qy1 G (.int .i64 0) x114 x113 p4 p1 m
def Qy2 (G : Gt) (k0 : Value → Value → Value → Value → Value → Mem → Option Rs) (p61 p60 p59 p4 p1 : Value) (m : Mem) : Option Rs :=
  bp (pur (bin .add true true .int p61 (.int .i64 1)) m) fun x115 m =>
  k0 x115 p60 p59 p4 p1 m
def Qq1 (G : Gt) (k0 : Value → Value → Value → Value → Value → Mem → Option Rs) : Nat → Value → Value → Value → Value → Value → Value → Value → Value → Mem → Option Rs
  | 0, _, _, _, _, _, _, _, _, _ => none
  | i + 1, p73, p72, p71, p4, p61, p60, p59, p1, m =>
  bp (pur (bin .lss false true .int p73 p72) m) fun x116 m =>
  brb x116
    (bp (pur (aIndexAddrSl 10 p71 p73) m) fun x117 m =>
  bp (pur (aLoad true 10 x117 m) m) fun x118 m =>
  bp (some (aNew Q7n Qid m)) fun x119 m =>
  bp (unt (aStore 10 x119 x118 m)) fun _ m =>
  bp (pur (aLoad true 10 x119 m) m) fun x120 m =>
  bp (G.tab Qqq [p4, x120] m) fun x121 m =>
  bp (pur (bin .add true true .int p73 (.int .i64 1)) m) fun x122 m =>
  (Qq1 G k0 i) x122 p72 p71 p4 p61 p60 p59 p1 m)
    (Qy2 G k0 p61 p60 p59 p4 p1 m)
def Qy3 (G : Gt) (k0 : Value → Value → Value → Value → Value → Mem → Option Rs) (p73 p72 p71 p4 p61 p60 p59 p1 : Value) (m : Mem) : Option Rs :=
  Qq1 G k0 G.rds p73 p72 p71 p4 p61 p60 p59 p1 m
def Qy4 (G : Gt) (k0 : Value → Value → Value → Value → Value → Mem → Option Rs) (p10 p4 p61 p60 p59 p1 : Value) (m : Mem) : Option Rs :=
  bp (pur (aFieldAddr 1 p10) m) fun x123 m =>
  bp (pur (aLoad false 1 x123 m) m) fun x124 m =>
  bp (pur (lenK 1 x124 m) m) fun x125 m =>
  Qy3 G k0 (.int .i64 0) x125 x124 p4 p61 p60 p59 p1 m
def Qy5 (G : Gt) (k0 : Value → Value → Value → Value → Value → Mem → Option Rs) (p4 p10 p61 p60 p59 p1 : Value) (m : Mem) : Option Rs :=
  bp (pur (aFieldAddr 0 p10) m) fun x126 m =>
  bp (pur (aLoad false 1 x126 m) m) fun x127 m =>
  bp (aBuildSlice Q2 [(.string ⟨#[]⟩)] 1 2 [(0, (.string ⟨#[105, 112, 32, 102, 105, 108, 116, 101, 114]⟩)), (1, x127)] m) fun x128 m =>
  bp (G.tab Q7 [p4, (.string ⟨#[]⟩), x128] m) fun x129 m =>
  Qy4 G k0 p10 p4 p61 p60 p59 p1 m
def Qy6 (G : Gt) (k0 : Value → Value → Value → Value → Value → Mem → Option Rs) (p59 p61 p4 p60 p1 : Value) (m : Mem) : Option Rs :=
  bp (pur (aIndexAddrSl 2 p59 p61) m) fun x130 m =>
  bp (pur (aLoad true 2 x130 m) m) fun x131 m =>
  bp (some (aNew Q5b Qbf m)) fun x132 m =>
  bp (unt (aStore 2 x132 x131 m)) fun _ m =>
  Qy5 G k0 p4 x132 p61 p60 p59 p1 m
def Qy7 (G : Gt) (k0 : Value → Value → Value → Value → Value → Mem → Option Rs) (p62 p59 p61 p4 p60 p1 : Value) (m : Mem) : Option Rs :=
  brb p62
    (Qy6 G k0 p59 p61 p4 p60 p1 m)
    (Q10y G p1 p4 m)
def Q2b (G : Gt) : Nat → Value → Value → Value → Value → Value → Mem → Option Rs
  | 0, _, _, _, _, _, _ => none
  | i + 1, p61, p60, p59, p4, p1, m =>
  bp (pur (bin .lss false true .int p61 p60) m) fun x133 m =>
  Qy7 G (Q2b G i) x133 p59 p61 p4 p60 p1 m
def Qy8 (G : Gt) (p61 p60 p59 p4 p1 : Value) (m : Mem) : Option Rs :=
  Q2b G G.rds p61 p60 p59 p4 p1 m
def Q10z (G : Gt) (p1 p4 : Value) (m : Mem) : Option Rs :=
  bp (pur (aFieldAddr 4 p1) m) fun x134 m =>
  bp (pur (aLoad false 1 x134 m) m) fun x135 m =>
  bp (pur (lenK 1 x135 m) m) fun x136 m =>
  Qy8 G (.int .i64 0) x136 x135 p4 p1 m
def Qq2 (G : Gt) : Nat → Value → Value → Value → Value → Value → Mem → Option Rs
  | 0, _, _, _, _, _, _ => none
  | i + 1, p50, p49, p48, p4, p1, m =>
  bp (pur (bin .lss false true .int p50 p49) m) fun x137 m =>
  brb x137
    (bp (pur (aIndexAddrSl 11 p48 p50) m) fun x138 m =>
  bp (pur (aLoad true 11 x138 m) m) fun x139 m =>
  bp (some (aNew Q85 Qlo m)) fun x140 m =>
  bp (unt (aStore 11 x140 x139 m)) fun _ m =>
  bp (pur (aLoad true 11 x140 m) m) fun x141 m =>
  bp (G.tab Qoa [p4, x141] m) fun x142 m =>
  bp (pur (bin .add true true .int p50 (.int .i64 1)) m) fun x143 m =>
  (Qq2 G i) x143 p49 p48 p4 p1 m)
    (Q10z G p1 p4 m)
def Qy9 (G : Gt) (p50 p49 p48 p4 p1 : Value) (m : Mem) : Option Rs :=
  Qq2 G G.rds p50 p49 p48 p4 p1 m
def Q110 (G : Gt) (p1 p4 : Value) (m : Mem) : Option Rs :=
  bp (pur (aFieldAddr 3 p1) m) fun x144 m =>
  bp (pur (aLoad false 1 x144 m) m) fun x145 m =>
  bp (pur (lenK 1 x145 m) m) fun x146 m =>
  Qy9 G (.int .i64 0) x146 x145 p4 p1 m
def Qq3 (G : Gt) : Nat → Value → Value → Value → Value → Value → Mem → Option Rs
  | 0, _, _, _, _, _, _ => none
  | i + 1, p38, p37, p36, p4, p1, m =>
  bp (pur (bin .lss false true .int p38 p37) m) fun x147 m =>
  brb x147
    (bp (pur (aIndexAddrSl 1 p36 p38) m) fun x148 m =>
  bp (pur (aLoad false 1 x148 m) m) fun x149 m =>
  bp (aBuildSlice Q2 [(.string ⟨#[]⟩)] 1 2 [(0, (.string ⟨#[118, 114, 102]⟩)), (1, x149)] m) fun x150 m =>
  bp (G.tab Q7 [p4, (.string ⟨#[]⟩), x150] m) fun x151 m =>
  bp (pur (bin .add true true .int p38 (.int .i64 1)) m) fun x152 m =>
  (Qq3 G i) x152 p37 p36 p4 p1 m)
    (Q110 G p1 p4 m)
def Qya (G : Gt) (p38 p37 p36 p4 p1 : Value) (m : Mem) : Option Rs :=
  Qq3 G G.rds p38 p37 p36 p4 p1 m
def Q111 (G : Gt) (p1 p4 : Value) (m : Mem) : Option Rs :=
  bp (pur (aFieldAddr 2 p1) m) fun x153 m =>
  bp (pur (aLoad false 1 x153 m) m) fun x154 m =>
  bp (pur (lenK 1 x154 m) m) fun x155 m =>
  Qya G (.int .i64 0) x155 x154 p4 p1 m
def Q112 (G : Gt) (p4 p1 : Value) (m : Mem) : Option Rs :=
  bp (pur (aFieldAddr 0 p1) m) fun x156 m =>
  bp (pur (aLoad false 1 x156 m) m) fun x157 m =>
  bp (aBuildSlice Q2 [(.string ⟨#[]⟩)] 1 2 [(0, (.string ⟨#[104, 111, 115, 116, 110, 97, 109, 101]⟩)), (1, x157)] m) fun x158 m =>
  bp (G.tab Q7 [p4, (.string ⟨#[]⟩), x158] m) fun x159 m =>
  Q111 G p1 p4 m
def Q113 (G : Gt) (p1 : Value) (m : Mem) : Option Rs :=
  bp (pur (aBuild Q1av [(0, 2)] []) m) fun x160 m =>
  bp (some (aNew Q1aw (Value.cells x160).toList m)) fun x161 m =>
  Q112 G x161 p1 m
def Q114 (G : Gt) (p1 : Value) (m : Mem) : Option Rs :=
  bp (pur (aLoad true 12 p1 m) m) fun x162 m =>
  bp (G.tab Q196 [x162] m) fun x163 m =>
  bp (pur (un .not x163) m) fun x164 m =>
  brb x164
    (some (.tuple ⟨[(.string ⟨#[]⟩), (.int .i64 121)]⟩, m))
    (Q113 G p1 m)
def Qw9 (G : Gt) (p0 : Value) (m : Mem) : Option Rs :=
  bp (some (aNew Qq (Value.cells p0).toList m)) fun x165 m =>
  Q114 G x165 m
theorem Q1bx (G : Gt) (a0 : Value) (m : Mem) : evFn Go.Proofs.Tryz.prog G.tab G.rds (drOf Go.Proofs.Tryz.prog G.tab) Go.Proofs.Tryz.f6 [a0] m = Qw9 G a0 m :=
  evFn_of (r := fun ρ m => Qw9 G (ρ 0) m) rfl rfl (tr (seqQ (f := fun ρ m => Q114 G (ρ 1) m) (tr (seqQ (f := fun ρ m => Q113 G (ρ 1) m) (tr (seqQ (f := fun ρ m => Q112 G (ρ 4) (ρ 1) m) (tr (seqQ (f := fun ρ m => Q111 G (ρ 1) (ρ 4) m) (tr (tr (seqQ (f := fun ρ m => Q110 G (ρ 1) (ρ 4) m) (tr (tr (seqQ (f := fun ρ m => Q10z G (ρ 1) (ρ 4) m) (tr (tr (seqQ (f := fun ρ m => Q10y G (ρ 1) (ρ 4) m) (tr (tr (seqQ (f := fun ρ m => Q10x G (ρ 1) (ρ 4) m) (tr (tr (seqQ (f := fun ρ m => Q10w G (ρ 4) (ρ 1) m) (tr (seqQ (f := fun ρ m => Q10v G (ρ 1) (ρ 4) m) (tr (tr (seqQ (f := fun ρ m => Qxt G (ρ 1) (ρ 4) m) (tr (tr (seqQ (f := fun ρ m => Qxr G (ρ 1) (ρ 4) m) (tr (tr (seqQ (f := fun ρ m => Qxp G (ρ 4) m) (fun ρ m => by kernel_rfl)) (seqQ (f := fun ρ m => Qxq G (ρ 194) (ρ 193) (ρ 192) (ρ 4) m) (tr (blockQ (loopQ (fun i ρ m => Qpw G i (ρ 194) (ρ 193) (ρ 192) (ρ 4) m) (fun _ _ => rfl) (fun i0 => fun ρ m => by kernel_rfl))) (fun ρ m => by kernel_rfl)))) (fun ρ m => by kernel_rfl))) (seqQ (f := fun ρ m => Qxs G (ρ 166) (ρ 165) (ρ 164) (ρ 4) (ρ 1) m) (tr (blockQ (loopQ (fun i ρ m => Qpx G i (ρ 166) (ρ 165) (ρ 164) (ρ 4) (ρ 1) m) (fun _ _ => rfl) (fun i0 => fun ρ m => by kernel_rfl))) (fun ρ m => by kernel_rfl)))) (fun ρ m => by kernel_rfl))) (seqQ (f := fun ρ m => Qxz G (ρ 145) (ρ 144) (ρ 143) (ρ 4) (ρ 1) m) (tr (blockQ (loopQ (fun i ρ m => Q34 G i (ρ 145) (ρ 144) (ρ 143) (ρ 4) (ρ 1) m) (fun _ _ => rfl) (fun i0 => tr (seqQ (f := fun ρ m => Qxy G (Q34 G i0) (ρ 146) (ρ 143) (ρ 145) (ρ 4) (ρ 144) (ρ 1) m) (tr (seqQ (f := fun ρ m => Qxx G (Q34 G i0) (ρ 143) (ρ 145) (ρ 4) (ρ 144) (ρ 1) m) (tr (tr (seqQ (f := fun ρ m => Qxu G (Q34 G i0) (ρ 145) (ρ 144) (ρ 143) (ρ 4) (ρ 1) m) (fun ρ m => by kernel_rfl)) (blockQ (seqQ (f := fun ρ m => Qxw G (Q34 G i0) (ρ 18) (ρ 4) (ρ 145) (ρ 144) (ρ 143) (ρ 1) m) (tr (seqQ (f := fun ρ m => Qxv G (Q34 G i0) (ρ 152) (ρ 151) (ρ 150) (ρ 4) (ρ 18) (ρ 145) (ρ 144) (ρ 143) (ρ 1) m) (tr (blockQ (loopQ (fun i ρ m => Qpy G (Q34 G i0) i (ρ 152) (ρ 151) (ρ 150) (ρ 4) (ρ 18) (ρ 145) (ρ 144) (ρ 143) (ρ 1) m) (fun _ _ => rfl) (fun i1 => fun ρ m => by kernel_rfl))) (fun ρ m => by kernel_rfl))) (fun ρ m => by kernel_rfl))))) (fun ρ m => by kernel_rfl))) (fun ρ m => by kernel_rfl))) (fun ρ m => by kernel_rfl)))) (fun ρ m => by kernel_rfl)))) (fun ρ m => by kernel_rfl))) (fun ρ m => by kernel_rfl))) (seqQ (f := fun ρ m => Qy0 G (ρ 104) (ρ 103) (ρ 102) (ρ 4) (ρ 1) m) (tr (blockQ (loopQ (fun i ρ m => Qpz G i (ρ 104) (ρ 103) (ρ 102) (ρ 4) (ρ 1) m) (fun _ _ => rfl) (fun i0 => fun ρ m => by kernel_rfl))) (fun ρ m => by kernel_rfl)))) (fun ρ m => by kernel_rfl))) (seqQ (f := fun ρ m => Qy1 G (ρ 85) (ρ 84) (ρ 83) (ρ 4) (ρ 1) m) (tr (blockQ (loopQ (fun i ρ m => Qq0 G i (ρ 85) (ρ 84) (ρ 83) (ρ 4) (ρ 1) m) (fun _ _ => rfl) (fun i0 => fun ρ m => by kernel_rfl))) (fun ρ m => by kernel_rfl)))) (fun ρ m => by kernel_rfl))) (seqQ (f := fun ρ m => Qy8 G (ρ 61) (ρ 60) (ρ 59) (ρ 4) (ρ 1) m) (tr (blockQ (loopQ (fun i ρ m => Q2b G i (ρ 61) (ρ 60) (ρ 59) (ρ 4) (ρ 1) m) (fun _ _ => rfl) (fun i0 => tr (seqQ (f := fun ρ m => Qy7 G (Q2b G i0) (ρ 62) (ρ 59) (ρ 61) (ρ 4) (ρ 60) (ρ 1) m) (tr (seqQ (f := fun ρ m => Qy6 G (Q2b G i0) (ρ 59) (ρ 61) (ρ 4) (ρ 60) (ρ 1) m) (tr (tr (seqQ (f := fun ρ m => Qy2 G (Q2b G i0) (ρ 61) (ρ 60) (ρ 59) (ρ 4) (ρ 1) m) (fun ρ m => by kernel_rfl)) (blockQ (seqQ (f := fun ρ m => Qy5 G (Q2b G i0) (ρ 4) (ρ 10) (ρ 61) (ρ 60) (ρ 59) (ρ 1) m) (tr (seqQ (f := fun ρ m => Qy4 G (Q2b G i0) (ρ 10) (ρ 4) (ρ 61) (ρ 60) (ρ 59) (ρ 1) m) (tr (seqQ (f := fun ρ m => Qy3 G (Q2b G i0) (ρ 73) (ρ 72) (ρ 71) (ρ 4) (ρ 61) (ρ 60) (ρ 59) (ρ 1) m) (tr (blockQ (loopQ (fun i ρ m => Qq1 G (Q2b G i0) i (ρ 73) (ρ 72) (ρ 71) (ρ 4) (ρ 61) (ρ 60) (ρ 59) (ρ 1) m) (fun _ _ => rfl) (fun i1 => fun ρ m => by kernel_rfl))) (fun ρ m => by kernel_rfl))) (fun ρ m => by kernel_rfl))) (fun ρ m => by kernel_rfl))))) (fun ρ m => by kernel_rfl))) (fun ρ m => by kernel_rfl))) (fun ρ m => by kernel_rfl)))) (fun ρ m => by kernel_rfl)))) (fun ρ m => by kernel_rfl))) (seqQ (f := fun ρ m => Qy9 G (ρ 50) (ρ 49) (ρ 48) (ρ 4) (ρ 1) m) (tr (blockQ (loopQ (fun i ρ m => Qq2 G i (ρ 50) (ρ 49) (ρ 48) (ρ 4) (ρ 1) m) (fun _ _ => rfl) (fun i0 => fun ρ m => by kernel_rfl))) (fun ρ m => by kernel_rfl)))) (fun ρ m => by kernel_rfl))) (seqQ (f := fun ρ m => Qya G (ρ 38) (ρ 37) (ρ 36) (ρ 4) (ρ 1) m) (tr (blockQ (loopQ (fun i ρ m => Qq3 G i (ρ 38) (ρ 37) (ρ 36) (ρ 4) (ρ 1) m) (fun _ _ => rfl) (fun i0 => fun ρ m => by kernel_rfl))) (fun ρ m => by kernel_rfl)))) (fun ρ m => by kernel_rfl))) (fun ρ m => by kernel_rfl))) (fun ρ m => by kernel_rfl))) (fun ρ m => by kernel_rfl))) (fun ρ m => by kernel_rfl)) m
def Q1bu : Entry Go.Proofs.Tryz.prog := ⟨Qgl, Go.Proofs.Tryz.f6, Go.Proofs.Tryz.func6, by kernel_rfl, arg1 (fun G a0 m => Qw9 G a0 m), okarg1 Q1bx⟩
end
end Go.Ab.Sh

set_option linter.unusedVariables false
set_option maxRecDepth 100000
namespace Go.Ab.Sh
open Go Go.Ab
noncomputable section
def Qnp (G : Gt) (p3 p1 : Value) (m : Mem) : Option Rs :=
  bp (conv .str p3 m) fun x0 m =>
  bp (pur (aLoad true 12 p1 m) m) fun x1 m =>
  bp (pur (aLoad true 12 p1 m) m) fun x2 m =>
  bp (pur (aLoad true 12 p1 m) m) fun x3 m =>
  bp (pur (aLoad true 12 p1 m) m) fun x4 m =>
  bp (G.tab Qhl [x1] m) fun x5 m =>
  ckB (again (conv .str p3 m) x0 && (again (pur (aLoad true 12 p1 m) m) x2 && (again (pur (aLoad true 12 p1 m) m) x3 && (again (pur (aLoad true 12 p1 m) m) x4 && true))))
    (bp (pur (bin .add false true .str x0 x5) m) fun x6 m =>
  bp (G.tab Qcx [x2] m) fun x7 m =>
  ckB (again (conv .str p3 m) x0 && (again (pur (aLoad true 12 p1 m) m) x3 && (again (pur (aLoad true 12 p1 m) m) x4 && true)))
    (bp (pur (bin .add false true .str x6 x7) m) fun x8 m =>
  bp (G.tab Qjj [x3] m) fun x9 m =>
  ckB (again (conv .str p3 m) x0 && (again (pur (aLoad true 12 p1 m) m) x4 && true))
    (bp (pur (bin .add false true .str x8 x9) m) fun x10 m =>
  bp (G.tab Qlp [x4] m) fun x11 m =>
  ckB (again (conv .str p3 m) x0 && true)
    (bp (pur (bin .add false true .str x10 x11) m) fun x12 m =>
  some (x12, m)))))
def Qc5 (G : Gt) : Nat → Value → Value → Value → Mem → Option Rs
  | 0, _, _, _, _ => none
  | i + 1, p11, p1, p3, m =>
  bp (pur (aFieldAddr 6 p1) m) fun x13 m =>
  bp (pur (aLoad false 1 x13 m) m) fun x14 m =>
  bp (pur (lenK 1 x14 m) m) fun x15 m =>
  bp (pur (bin .lss false true .int p11 x15) m) fun x16 m =>
  brb x16
    (bp (pur (aFieldAddr 6 p1) m) fun x17 m =>
  bp (pur (aLoad false 1 x17 m) m) fun x18 m =>
  bp (pur (aIndexAddrSl 7 x18 p11) m) fun x19 m =>
  bp (pur (aLoad true 7 x19 m) m) fun x20 m =>
  bp (some (aNew Qbe Qgt m)) fun x21 m =>
  bp (unt (aStore 7 x21 x20 m)) fun _ m =>
  bp (pur (aFieldAddr 1 x21) m) fun x22 m =>
  bp (pur (aFieldAddr 0 x22) m) fun x23 m =>
  bp (pur (aLoad false 1 x23 m) m) fun x24 m =>
  bp (conv (.int .i64) x24 m) fun x25 m =>
  bp (pur (aFieldAddr 1 x21) m) fun x26 m =>
  bp (pur (aFieldAddr 1 x26) m) fun x27 m =>
  bp (pur (aLoad false 1 x27 m) m) fun x28 m =>
  bp (pur (aFieldAddr 3 x21) m) fun x29 m =>
  bp (pur (aLoad false 1 x29 m) m) fun x30 m =>
  bp (conv (.int .i64) x30 m) fun x31 m =>
  bp (pur (aFieldAddr 4 x21) m) fun x32 m =>
  bp (pur (aLoad false 1 x32 m) m) fun x33 m =>
  bp (pur (aFieldAddr 5 x21) m) fun x34 m =>
  bp (pur (aLoad false 1 x34 m) m) fun x35 m =>
  bp (pur (aFieldAddr 6 x21) m) fun x36 m =>
  bp (pur (aLoad false 1 x36 m) m) fun x37 m =>
  bp (pur (aFieldAddr 0 x21) m) fun x38 m =>
  bp (pur (aLoad false 1 x38 m) m) fun x39 m =>
  bp (aBuildSlice Q2 [(.string ⟨#[]⟩)] 1 1 [(0, x39)] m) fun x40 m =>
  bp (G.tab Qz [x33] m) fun x41 m =>
  ckB (again (pur (aLoad false 1 x23 m) m) x24 && (again (pur (aLoad false 1 x27 m) m) x28 && (again (pur (aLoad false 1 x29 m) m) x30 && (again (pur (aLoad false 1 x34 m) m) x35 && (again (pur (aLoad false 1 x36 m) m) x37 && (again (pur (aLoad false 1 x38 m) m) x39 && true))))))
    (bp (aBuildSlice Q25 [(.int .i64 0)] 1 6 [(0, x25), (1, x28), (2, x31), (3, x41), (4, x35), (5, x37)] m) fun x42 m =>
  bp (G.tab Qa [x42, x40] m) fun x43 m =>
  bp (aAppend Q3a 1 1 p3 x43 m) fun x44 m =>
  bp (pur (bin .add true true .int p11 (.int .i64 1)) m) fun x45 m =>
  (Qc5 G i) x45 p1 x44 m))
    (Qnp G p3 p1 m)
def Qnq (G : Gt) (p11 p1 p3 : Value) (m : Mem) : Option Rs :=
  Qc5 G G.rds p11 p1 p3 m
def Qnr (G : Gt) (p1 p3 : Value) (m : Mem) : Option Rs :=
  Qnq G (.int .i64 0) p1 p3 m
def Qc6 (G : Gt) : Nat → Value → Value → Value → Mem → Option Rs
  | 0, _, _, _, _ => none
  | i + 1, p10, p1, p3, m =>
  bp (pur (aFieldAddr 5 p1) m) fun x46 m =>
  bp (pur (aLoad false 1 x46 m) m) fun x47 m =>
  bp (pur (lenK 1 x47 m) m) fun x48 m =>
  bp (pur (bin .lss false true .int p10 x48) m) fun x49 m =>
  brb x49
    (bp (pur (aFieldAddr 5 p1) m) fun x50 m =>
  bp (pur (aLoad false 1 x50 m) m) fun x51 m =>
  bp (pur (aIndexAddrSl 3 x51 p10) m) fun x52 m =>
  bp (pur (aFieldAddr 0 x52) m) fun x53 m =>
  bp (pur (aLoad false 1 x53 m) m) fun x54 m =>
  bp (pur (aFieldAddr 5 p1) m) fun x55 m =>
  bp (pur (aLoad false 1 x55 m) m) fun x56 m =>
  bp (pur (aIndexAddrSl 3 x56 p10) m) fun x57 m =>
  bp (pur (aFieldAddr 2 x57) m) fun x58 m =>
  bp (pur (aLoad false 1 x58 m) m) fun x59 m =>
  bp (conv (.int .i64) x59 m) fun x60 m =>
  bp (pur (aFieldAddr 5 p1) m) fun x61 m =>
  bp (pur (aLoad false 1 x61 m) m) fun x62 m =>
  bp (pur (aIndexAddrSl 3 x62 p10) m) fun x63 m =>
  bp (pur (aFieldAddr 1 x63) m) fun x64 m =>
  bp (pur (aLoad false 1 x64 m) m) fun x65 m =>
  bp (aBuildSlice Q2 [(.string ⟨#[]⟩)] 1 1 [(0, x65)] m) fun x66 m =>
  bp (G.tab Qz [x54] m) fun x67 m =>
  ckB (again (pur (aLoad false 1 x55 m) m) x56 && (again (pur (aLoad false 1 x58 m) m) x59 && (again (pur (aLoad false 1 x61 m) m) x62 && (again (pur (aLoad false 1 x64 m) m) x65 && true))))
    (bp (aBuildSlice Q25 [(.int .i64 0)] 1 2 [(0, x67), (1, x60)] m) fun x68 m =>
  bp (G.tab Qa [x68, x66] m) fun x69 m =>
  bp (aAppend Q3a 1 1 p3 x69 m) fun x70 m =>
  bp (pur (bin .add true true .int p10 (.int .i64 1)) m) fun x71 m =>
  (Qc6 G i) x71 p1 x70 m))
    (Qnr G p1 p3 m)
def Qns (G : Gt) (p10 p1 p3 : Value) (m : Mem) : Option Rs :=
  Qc6 G G.rds p10 p1 p3 m
def Qnt (G : Gt) (p1 p3 : Value) (m : Mem) : Option Rs :=
  Qns G (.int .i64 0) p1 p3 m
def Qlq (G : Gt) (k0 : Value → Value → Value → Mem → Option Rs) (p6 p1 p3 : Value) (m : Mem) : Option Rs :=
  bp (pur (bin .add true true .int p6 (.int .i64 1)) m) fun x72 m =>
  k0 x72 p1 p3 m
def Qak (G : Gt) (k0 : Value → Value → Value → Mem → Option Rs) : Nat → Value → Value → Value → Value → Value → Mem → Option Rs
  | 0, _, _, _, _, _, _ => none
  | i + 1, p8, p7, p3, p6, p1, m =>
  bp (pur (aFieldAddr 1 p7) m) fun x73 m =>
  bp (pur (aLoad false 1 x73 m) m) fun x74 m =>
  bp (pur (lenK 1 x74 m) m) fun x75 m =>
  bp (pur (bin .lss false true .int p8 x75) m) fun x76 m =>
  brb x76
    (bp (pur (aFieldAddr 1 p7) m) fun x77 m =>
  bp (pur (aLoad false 1 x77 m) m) fun x78 m =>
  bp (pur (aIndexAddrSl 10 x78 p8) m) fun x79 m =>
  bp (pur (aLoad true 10 x79 m) m) fun x80 m =>
  bp (some (aNew Q7n Qid m)) fun x81 m =>
  bp (unt (aStore 10 x81 x80 m)) fun _ m =>
  bp (pur (aFieldAddr 0 x81) m) fun x82 m =>
  bp (pur (aLoad false 1 x82 m) m) fun x83 m =>
  bp (pur (aFieldAddr 1 x81) m) fun x84 m =>
  bp (pur (aLoad false 1 x84 m) m) fun x85 m =>
  bp (pur (aFieldAddr 2 x81) m) fun x86 m =>
  bp (pur (aFieldAddr 0 x86) m) fun x87 m =>
  bp (pur (aLoad false 1 x87 m) m) fun x88 m =>
  bp (conv (.int .i64) x88 m) fun x89 m =>
  bp (pur (aFieldAddr 2 x81) m) fun x90 m =>
  bp (pur (aFieldAddr 1 x90) m) fun x91 m =>
  bp (pur (aLoad false 1 x91 m) m) fun x92 m =>
  bp (pur (aFieldAddr 4 x81) m) fun x93 m =>
  bp (pur (aFieldAddr 0 x93) m) fun x94 m =>
  bp (pur (aLoad false 1 x94 m) m) fun x95 m =>
  bp (conv (.int .i64) x95 m) fun x96 m =>
  bp (pur (aFieldAddr 4 x81) m) fun x97 m =>
  bp (pur (aFieldAddr 1 x97) m) fun x98 m =>
  bp (pur (aLoad false 1 x98 m) m) fun x99 m =>
  bp (pur (aFieldAddr 6 x81) m) fun x100 m =>
  bp (pur (aFieldAddr 0 x100) m) fun x101 m =>
  bp (pur (aLoad false 1 x101 m) m) fun x102 m =>
  bp (conv (.int .i64) x102 m) fun x103 m =>
  bp (pur (aFieldAddr 6 x81) m) fun x104 m =>
  bp (pur (aFieldAddr 1 x104) m) fun x105 m =>
  bp (pur (aLoad false 1 x105 m) m) fun x106 m =>
  bp (conv (.int .i64) x106 m) fun x107 m =>
  bp (pur (aFieldAddr 8 x81) m) fun x108 m =>
  bp (pur (aFieldAddr 0 x108) m) fun x109 m =>
  bp (pur (aLoad false 1 x109 m) m) fun x110 m =>
  bp (conv (.int .i64) x110 m) fun x111 m =>
  bp (pur (aFieldAddr 8 x81) m) fun x112 m =>
  bp (pur (aFieldAddr 1 x112) m) fun x113 m =>
  bp (pur (aLoad false 1 x113 m) m) fun x114 m =>
  bp (conv (.int .i64) x114 m) fun x115 m =>
  bp (G.tab Qz [x83] m) fun x116 m =>
  ckB (again (pur (aLoad false 1 x84 m) m) x85 && (again (pur (aLoad false 1 x87 m) m) x88 && (again (pur (aLoad false 1 x91 m) m) x92 && (again (pur (aLoad false 1 x94 m) m) x95 && (again (pur (aLoad false 1 x98 m) m) x99 && (again (pur (aLoad false 1 x101 m) m) x102 && (again (pur (aLoad false 1 x105 m) m) x106 && (again (pur (aLoad false 1 x109 m) m) x110 && (again (pur (aLoad false 1 x113 m) m) x114 && true)))))))))
    (bp (aBuildSlice Q25 [(.int .i64 0)] 1 10 [(0, x116), (1, x85), (2, x89), (3, x92), (4, x96), (5, x99), (6, x103), (7, x107), (8, x111), (9, x115)] m) fun x117 m =>
  bp (G.tab Qa [x117, (.slice none 0 0)] m) fun x118 m =>
  bp (aAppend Q3a 1 1 p3 x118 m) fun x119 m =>
  bp (pur (bin .add true true .int p8 (.int .i64 1)) m) fun x120 m =>
  (Qak G k0 i) x120 p7 x119 p6 p1 m))
    (Qlq G k0 p6 p1 p3 m)
def Qlr (G : Gt) (k0 : Value → Value → Value → Mem → Option Rs) (p8 p7 p3 p6 p1 : Value) (m : Mem) : Option Rs :=
  Qak G k0 G.rds p8 p7 p3 p6 p1 m
def Qls (G : Gt) (k0 : Value → Value → Value → Mem → Option Rs) (p7 p3 p6 p1 : Value) (m : Mem) : Option Rs :=
  Qlr G k0 (.int .i64 0) p7 p3 p6 p1 m
def Qlt (G : Gt) (k0 : Value → Value → Value → Mem → Option Rs) (p3 p7 p6 p1 : Value) (m : Mem) : Option Rs :=
  bp (pur (aFieldAddr 1 p7) m) fun x121 m =>
  bp (pur (aLoad false 1 x121 m) m) fun x122 m =>
  bp (pur (lenK 1 x122 m) m) fun x123 m =>
  bp (aBuildSlice Q25 [(.int .i64 0)] 1 1 [(0, x123)] m) fun x124 m =>
  bp (pur (aFieldAddr 0 p7) m) fun x125 m =>
  bp (pur (aLoad false 1 x125 m) m) fun x126 m =>
  bp (aBuildSlice Q2 [(.string ⟨#[]⟩)] 1 1 [(0, x126)] m) fun x127 m =>
  bp (G.tab Qa [x124, x127] m) fun x128 m =>
  bp (aAppend Q3a 1 1 p3 x128 m) fun x129 m =>
  Qls G k0 p7 x129 p6 p1 m
def Qlu (G : Gt) (k0 : Value → Value → Value → Mem → Option Rs) (p1 p6 p3 : Value) (m : Mem) : Option Rs :=
  bp (pur (aFieldAddr 4 p1) m) fun x130 m =>
  bp (pur (aLoad false 1 x130 m) m) fun x131 m =>
  bp (pur (aIndexAddrSl 2 x131 p6) m) fun x132 m =>
  bp (pur (aLoad true 2 x132 m) m) fun x133 m =>
  bp (some (aNew Q5b Qbf m)) fun x134 m =>
  bp (unt (aStore 2 x134 x133 m)) fun _ m =>
  Qlt G k0 p3 x134 p6 p1 m
def Q14 (G : Gt) : Nat → Value → Value → Value → Mem → Option Rs
  | 0, _, _, _, _ => none
  | i + 1, p6, p1, p3, m =>
  bp (pur (aFieldAddr 4 p1) m) fun x135 m =>
  bp (pur (aLoad false 1 x135 m) m) fun x136 m =>
  bp (pur (lenK 1 x136 m) m) fun x137 m =>
  bp (pur (bin .lss false true .int p6 x137) m) fun x138 m =>
  brb x138
    (Qlu G (Q14 G i) p1 p6 p3 m)
    (Qnt G p1 p3 m)
def Qlv (G : Gt) (p6 p1 p3 : Value) (m : Mem) : Option Rs :=
  Q14 G G.rds p6 p1 p3 m
def Qnu (G : Gt) (p1 p3 : Value) (m : Mem) : Option Rs :=
  Qlv G (.int .i64 0) p1 p3 m
def Qal (G : Gt) : Nat → Value → Value → Value → Mem → Option Rs
  | 0, _, _, _, _ => none
  | i + 1, p4, p1, p3, m =>
  bp (pur (aFieldAddr 3 p1) m) fun x139 m =>
  bp (pur (aLoad false 1 x139 m) m) fun x140 m =>
  bp (pur (lenK 1 x140 m) m) fun x141 m =>
  bp (pur (bin .lss false true .int p4 x141) m) fun x142 m =>
  brb x142
    (bp (pur (aFieldAddr 3 p1) m) fun x143 m =>
  bp (pur (aLoad false 1 x143 m) m) fun x144 m =>
  bp (pur (aIndexAddrSl 11 x144 p4) m) fun x145 m =>
  bp (pur (aLoad true 11 x145 m) m) fun x146 m =>
  bp (some (aNew Q85 Qlo m)) fun x147 m =>
  bp (unt (aStore 11 x147 x146 m)) fun _ m =>
  bp (pur (aFieldAddr 2 x147) m) fun x148 m =>
  bp (pur (aLoad false 1 x148 m) m) fun x149 m =>
  bp (conv (.int .i64) x149 m) fun x150 m =>
  bp (pur (aFieldAddr 3 x147) m) fun x151 m =>
  bp (pur (aLoad false 1 x151 m) m) fun x152 m =>
  bp (pur (aFieldAddr 4 x147) m) fun x153 m =>
  bp (pur (aLoad false 1 x153 m) m) fun x154 m =>
  bp (pur (aFieldAddr 7 x147) m) fun x155 m =>
  bp (pur (aLoad false 1 x155 m) m) fun x156 m =>
  bp (conv (.int .i64) x156 m) fun x157 m =>
  bp (pur (aFieldAddr 8 x147) m) fun x158 m =>
  bp (pur (aLoad false 1 x158 m) m) fun x159 m =>
  bp (pur (aFieldAddr 9 x147) m) fun x160 m =>
  bp (pur (aLoad false 1 x160 m) m) fun x161 m =>
  bp (pur (aFieldAddr 10 x147) m) fun x162 m =>
  bp (pur (aLoad false 1 x162 m) m) fun x163 m =>
  bp (pur (aFieldAddr 0 x147) m) fun x164 m =>
  bp (pur (aLoad false 1 x164 m) m) fun x165 m =>
  bp (pur (aFieldAddr 1 x147) m) fun x166 m =>
  bp (pur (aLoad false 1 x166 m) m) fun x167 m =>
  bp (pur (aFieldAddr 5 x147) m) fun x168 m =>
  bp (pur (aLoad false 1 x168 m) m) fun x169 m =>
  bp (pur (aFieldAddr 6 x147) m) fun x170 m =>
  bp (pur (aLoad false 1 x170 m) m) fun x171 m =>
  bp (aBuildSlice Q2 [(.string ⟨#[]⟩)] 1 4 [(0, x165), (1, x167), (2, x169), (3, x171)] m) fun x172 m =>
  bp (G.tab Qz [x154] m) fun x173 m =>
  ckB (again (pur (aLoad false 1 x148 m) m) x149 && (again (pur (aLoad false 1 x151 m) m) x152 && (again (pur (aLoad false 1 x155 m) m) x156 && (again (pur (aLoad false 1 x158 m) m) x159 && (again (pur (aLoad false 1 x160 m) m) x161 && (again (pur (aLoad false 1 x162 m) m) x163 && (again (pur (aLoad false 1 x164 m) m) x165 && (again (pur (aLoad false 1 x166 m) m) x167 && (again (pur (aLoad false 1 x168 m) m) x169 && (again (pur (aLoad false 1 x170 m) m) x171 && true))))))))))
    (bp (G.tab Qz [x163] m) fun x174 m =>
  ckB (again (pur (aLoad false 1 x148 m) m) x149 && (again (pur (aLoad false 1 x151 m) m) x152 && (again (pur (aLoad false 1 x155 m) m) x156 && (again (pur (aLoad false 1 x158 m) m) x159 && (again (pur (aLoad false 1 x160 m) m) x161 && (again (pur (aLoad false 1 x164 m) m) x165 && (again (pur (aLoad false 1 x166 m) m) x167 && (again (pur (aLoad false 1 x168 m) m) x169 && (again (pur (aLoad false 1 x170 m) m) x171 && true)))))))))
    (bp (aBuildSlice Q25 [(.int .i64 0)] 1 7 [(0, x150), (1, x152), (2, x173), (3, x157), (4, x159), (5, x161), (6, x174)] m) fun x175 m =>
  bp (G.tab Qa [x175, x172] m) fun x176 m =>
  bp (aAppend Q3a 1 1 p3 x176 m) fun x177 m =>
  bp (pur (bin .add true true .int p4 (.int .i64 1)) m) fun x178 m =>
  (Qal G i) x178 p1 x177 m)))
    (Qnu G p1 p3 m)
def Qlw (G : Gt) (p4 p1 p3 : Value) (m : Mem) : Option Rs :=
  Qal G G.rds p4 p1 p3 m
def Qnv (G : Gt) (p1 p3 : Value) (m : Mem) : Option Rs :=
  Qlw G (.int .i64 0) p1 p3 m
def Qnw (G : Gt) (p1 : Value) (m : Mem) : Option Rs :=
  bp (pur (aFieldAddr 1 p1) m) fun x179 m =>
  bp (pur (aLoad false 1 x179 m) m) fun x180 m =>
  bp (conv (.int .i64) x180 m) fun x181 m =>
  bp (pur (aFieldAddr 2 p1) m) fun x182 m =>
  bp (pur (aLoad false 1 x182 m) m) fun x183 m =>
  bp (pur (lenK 1 x183 m) m) fun x184 m =>
  bp (pur (aFieldAddr 3 p1) m) fun x185 m =>
  bp (pur (aLoad false 1 x185 m) m) fun x186 m =>
  bp (pur (lenK 1 x186 m) m) fun x187 m =>
  bp (pur (aFieldAddr 4 p1) m) fun x188 m =>
  bp (pur (aLoad false 1 x188 m) m) fun x189 m =>
  bp (pur (lenK 1 x189 m) m) fun x190 m =>
  bp (pur (aFieldAddr 5 p1) m) fun x191 m =>
  bp (pur (aLoad false 1 x191 m) m) fun x192 m =>
  bp (pur (lenK 1 x192 m) m) fun x193 m =>
  bp (pur (aFieldAddr 6 p1) m) fun x194 m =>
  bp (pur (aLoad false 1 x194 m) m) fun x195 m =>
  bp (pur (lenK 1 x195 m) m) fun x196 m =>
  bp (pur (aFieldAddr 7 p1) m) fun x197 m =>
  bp (pur (aLoad false 1 x197 m) m) fun x198 m =>
  bp (pur (lenK 1 x198 m) m) fun x199 m =>
  bp (pur (aFieldAddr 8 p1) m) fun x200 m =>
  bp (pur (aLoad false 1 x200 m) m) fun x201 m =>
  bp (pur (lenK 1 x201 m) m) fun x202 m =>
  bp (pur (aFieldAddr 9 p1) m) fun x203 m =>
  bp (pur (aLoad false 1 x203 m) m) fun x204 m =>
  bp (pur (lenK 1 x204 m) m) fun x205 m =>
  bp (pur (aFieldAddr 10 p1) m) fun x206 m =>
  bp (pur (aLoad false 1 x206 m) m) fun x207 m =>
  bp (pur (lenK 1 x207 m) m) fun x208 m =>
  bp (pur (aFieldAddr 11 p1) m) fun x209 m =>
  bp (pur (aLoad false 1 x209 m) m) fun x210 m =>
  bp (pur (lenK 1 x210 m) m) fun x211 m =>
  bp (aBuildSlice Q25 [(.int .i64 0)] 1 11 [(0, x181), (1, x184), (2, x187), (3, x190), (4, x193), (5, x196), (6, x199), (7, x202), (8, x205), (9, x208), (10, x211)] m) fun x212 m =>
  bp (pur (aFieldAddr 0 p1) m) fun x213 m =>
  bp (pur (aLoad false 1 x213 m) m) fun x214 m =>
  bp (aBuildSlice Q2 [(.string ⟨#[]⟩)] 1 1 [(0, x214)] m) fun x215 m =>
  bp (pur (aFieldAddr 2 p1) m) fun x216 m =>
  bp (pur (aLoad false 1 x216 m) m) fun x217 m =>
  bp (apS Q2 1 16 x215 x217 m) fun x218 m =>
  ckB (again (pur (aLoad false 1 x179 m) m) x180 && (again (pur (aLoad false 1 x182 m) m) x183 && (again (pur (aLoad false 1 x185 m) m) x186 && (again (pur (aLoad false 1 x188 m) m) x189 && (again (pur (aLoad false 1 x191 m) m) x192 && (again (pur (aLoad false 1 x194 m) m) x195 && (again (pur (aLoad false 1 x197 m) m) x198 && (again (pur (aLoad false 1 x200 m) m) x201 && (again (pur (aLoad false 1 x203 m) m) x204 && (again (pur (aLoad false 1 x206 m) m) x207 && (again (pur (aLoad false 1 x209 m) m) x210 && true)))))))))))
    (bp (G.tab Qa [x212, x218] m) fun x219 m =>
  bp (conv .bytes x219 m) fun x220 m =>
  Qnv G p1 x220 m)
def Qfa (G : Gt) (p0 : Value) (m : Mem) : Option Rs :=
  bp (some (aNew Qq (Value.cells p0).toList m)) fun x221 m =>
  Qnw G x221 m
theorem Q14m (G : Gt) (a0 : Value) (m : Mem) : evFn Go.Proofs.Tryz.prog G.tab G.rds (drOf Go.Proofs.Tryz.prog G.tab) Go.Proofs.Tryz.f7 [a0] m = Qfa G a0 m :=
  evFn_of (r := fun ρ m => Qfa G (ρ 0) m) rfl rfl (tr (seqQ (f := fun ρ m => Qnw G (ρ 1) m) (tr (seqQ (f := fun ρ m => Qnv G (ρ 1) (ρ 3) m) (tr (tr (seqQ (f := fun ρ m => Qnu G (ρ 1) (ρ 3) m) (tr (tr (seqQ (f := fun ρ m => Qnt G (ρ 1) (ρ 3) m) (tr (tr (seqQ (f := fun ρ m => Qnr G (ρ 1) (ρ 3) m) (tr (tr (seqQ (f := fun ρ m => Qnp G (ρ 3) (ρ 1) m) (fun ρ m => by kernel_rfl)) (seqQ (f := fun ρ m => Qnq G (ρ 11) (ρ 1) (ρ 3) m) (tr (blockQ (loopQ (fun i ρ m => Qc5 G i (ρ 11) (ρ 1) (ρ 3) m) (fun _ _ => rfl) (fun i0 => fun ρ m => by kernel_rfl))) (fun ρ m => by kernel_rfl)))) (fun ρ m => by kernel_rfl))) (seqQ (f := fun ρ m => Qns G (ρ 10) (ρ 1) (ρ 3) m) (tr (blockQ (loopQ (fun i ρ m => Qc6 G i (ρ 10) (ρ 1) (ρ 3) m) (fun _ _ => rfl) (fun i0 => fun ρ m => by kernel_rfl))) (fun ρ m => by kernel_rfl)))) (fun ρ m => by kernel_rfl))) (seqQ (f := fun ρ m => Qlv G (ρ 6) (ρ 1) (ρ 3) m) (tr (blockQ (loopQ (fun i ρ m => Q14 G i (ρ 6) (ρ 1) (ρ 3) m) (fun _ _ => rfl) (fun i0 => tr (seqQ (f := fun ρ m => Qlu G (Q14 G i0) (ρ 1) (ρ 6) (ρ 3) m) (tr (tr (seqQ (f := fun ρ m => Qlq G (Q14 G i0) (ρ 6) (ρ 1) (ρ 3) m) (fun ρ m => by kernel_rfl)) (blockQ (seqQ (f := fun ρ m => Qlt G (Q14 G i0) (ρ 3) (ρ 7) (ρ 6) (ρ 1) m) (tr (seqQ (f := fun ρ m => Qls G (Q14 G i0) (ρ 7) (ρ 3) (ρ 6) (ρ 1) m) (tr (seqQ (f := fun ρ m => Qlr G (Q14 G i0) (ρ 8) (ρ 7) (ρ 3) (ρ 6) (ρ 1) m) (tr (blockQ (loopQ (fun i ρ m => Qak G (Q14 G i0) i (ρ 8) (ρ 7) (ρ 3) (ρ 6) (ρ 1) m) (fun _ _ => rfl) (fun i1 => fun ρ m => by kernel_rfl))) (fun ρ m => by kernel_rfl))) (fun ρ m => by kernel_rfl))) (fun ρ m => by kernel_rfl))))) (fun ρ m => by kernel_rfl))) (fun ρ m => by kernel_rfl)))) (fun ρ m => by kernel_rfl)))) (fun ρ m => by kernel_rfl))) (seqQ (f := fun ρ m => Qlw G (ρ 4) (ρ 1) (ρ 3) m) (tr (blockQ (loopQ (fun i ρ m => Qal G i (ρ 4) (ρ 1) (ρ 3) m) (fun _ _ => rfl) (fun i0 => fun ρ m => by kernel_rfl))) (fun ρ m => by kernel_rfl)))) (fun ρ m => by kernel_rfl))) (fun ρ m => by kernel_rfl))) (fun ρ m => by kernel_rfl)) m
def Q145 : Entry Go.Proofs.Tryz.prog := ⟨Q5u, Go.Proofs.Tryz.f7, Go.Proofs.Tryz.func7, by kernel_rfl, arg1 (fun G a0 m => Qfa G a0 m), okarg1 Q14m⟩
end
end Go.Ab.Sh
