/-
  Functions of the program as plain definitions, each with the theorem that it is what the evaluator makes of the code. No conditions.
-/
import Derived.Test.YtchdjkidnjfcjaaGreatDoorAb5
import Derived.Test.YtchdjkidnjfcjaaGreatDoorZ
import Derived.KernelRfl
import Derived.Test.YtchdjkidnjfcjaaGreatDoorProg
set_option linter.unusedVariables false
set_option maxRecDepth 100000
namespace Go.Ab.Sh
open Go Go.Ab Go.Proofs
noncomputable section
def Qr2 (G : Gt) (p3 p1 : V) (m : M) : R :=
  bp (conv .str p3 m) fun x0 m =>
  bp (pur (aLoad true 12 p1 m) m) fun x1 m =>
  bp (pur (aLoad true 12 p1 m) m) fun x2 m =>
  bp (pur (aLoad true 12 p1 m) m) fun x3 m =>
  bp (pur (aLoad true 12 p1 m) m) fun x4 m =>
  bp (G.tab Qkd [x1] m) fun x5 m =>
  ckB (again (conv .str p3 m) x0 && (again (pur (aLoad true 12 p1 m) m) x2 && (again (pur (aLoad true 12 p1 m) m) x3 && (again (pur (aLoad true 12 p1 m) m) x4 && true))))
  (bp (pur (bin .add false true .str x0 x5) m) fun x6 m =>
  bp (G.tab Qg1 [x2] m) fun x7 m =>
  ckB (again (conv .str p3 m) x0 && (again (pur (aLoad true 12 p1 m) m) x3 && (again (pur (aLoad true 12 p1 m) m) x4 && true)))
  (bp (pur (bin .add false true .str x6 x7) m) fun x8 m =>
  bp (G.tab Qmp [x3] m) fun x9 m =>
  ckB (again (conv .str p3 m) x0 && (again (pur (aLoad true 12 p1 m) m) x4 && true))
  (bp (pur (bin .add false true .str x8 x9) m) fun x10 m =>
  bp (G.tab Qov [x4] m) fun x11 m =>
  ckB (again (conv .str p3 m) x0 && true)
  (bp (pur (bin .add false true .str x10 x11) m) fun x12 m =>
  some (x12, m)))))
def Qdy (G : Gt) : Nat → V → V → V → M → R
 | 0, _, _, _, _ => none
 | i + 1, p11, p1, p3, m =>
  bp (pur (aFieldAddr 6 p1) m) fun x13 m =>
  bp (pur (aLoad false 1 x13 m) m) fun x14 m =>
  bp (pur (lenK 1 x14 m) m) fun x15 m =>
  bp (pur (bin .lss false true .int p11 x15) m) fun x16 m =>
  brb x16
  (bp (pur (aFieldAddr 6 p1) m) fun x17 m =>
  bp (pur (aLoad false 1 x17 m) m) fun x18 m =>
  bp (pur (aIndexAddrSl 7 x18 p11) m) fun x19 m =>
  bp (pur (aLoad true 7 x19 m) m) fun x20 m =>
  bp (some (aNew Qab Qdz m)) fun x21 m =>
  bp (unt (aStore 7 x21 x20 m)) fun _ m =>
  bp (pur (aFieldAddr 1 x21) m) fun x22 m =>
  bp (pur (aFieldAddr 0 x22) m) fun x23 m =>
  bp (pur (aLoad false 1 x23 m) m) fun x24 m =>
  bp (conv (.int .i64) x24 m) fun x25 m =>
  bp (pur (aFieldAddr 1 x21) m) fun x26 m =>
  bp (pur (aFieldAddr 1 x26) m) fun x27 m =>
  bp (pur (aLoad false 1 x27 m) m) fun x28 m =>
  bp (pur (aFieldAddr 3 x21) m) fun x29 m =>
  bp (pur (aLoad false 1 x29 m) m) fun x30 m =>
  bp (conv (.int .i64) x30 m) fun x31 m =>
  bp (pur (aFieldAddr 4 x21) m) fun x32 m =>
  bp (pur (aLoad false 1 x32 m) m) fun x33 m =>
  bp (pur (aFieldAddr 5 x21) m) fun x34 m =>
  bp (pur (aLoad false 1 x34 m) m) fun x35 m =>
  bp (pur (aFieldAddr 6 x21) m) fun x36 m =>
  bp (pur (aLoad false 1 x36 m) m) fun x37 m =>
  bp (pur (aFieldAddr 0 x21) m) fun x38 m =>
  bp (pur (aLoad false 1 x38 m) m) fun x39 m =>
  bp (aBuildSlice Q1 [(.string ⟨#[]⟩)] 1 1 [(0, x39)] m) fun x40 m =>
  bp (G.tab Q11 [x33] m) fun x41 m =>
  ckB (again (pur (aLoad false 1 x23 m) m) x24 && (again (pur (aLoad false 1 x27 m) m) x28 && (again (pur (aLoad false 1 x29 m) m) x30 && (again (pur (aLoad false 1 x34 m) m) x35 && (again (pur (aLoad false 1 x36 m) m) x37 && (again (pur (aLoad false 1 x38 m) m) x39 && true))))))
  (bp (aBuildSlice Q2h [(.int .i64 0)] 1 6 [(0, x25), (1, x28), (2, x31), (3, x41), (4, x35), (5, x37)] m) fun x42 m =>
  bp (G.tab Qd [x42, x40] m) fun x43 m =>
  bp (aAppend Q6x 1 1 p3 x43 m) fun x44 m =>
  bp (pur (bin .add true true .int p11 (.int .i64 1)) m) fun x45 m =>
  (Qdy G i) x45 p1 x44 m))
  (Qr2 G p3 p1 m)
def Qr3 (G : Gt) (p11 p1 p3 : V) (m : M) : R :=
  Qdy G G.rds p11 p1 p3 m
def Qr4 (G : Gt) (p1 p3 : V) (m : M) : R :=
  Qr3 G (.int .i64 0) p1 p3 m
def Qe0 (G : Gt) : Nat → V → V → V → M → R
 | 0, _, _, _, _ => none
 | i + 1, p10, p1, p3, m =>
  bp (pur (aFieldAddr 5 p1) m) fun x46 m =>
  bp (pur (aLoad false 1 x46 m) m) fun x47 m =>
  bp (pur (lenK 1 x47 m) m) fun x48 m =>
  bp (pur (bin .lss false true .int p10 x48) m) fun x49 m =>
  brb x49
  (bp (pur (aFieldAddr 5 p1) m) fun x50 m =>
  bp (pur (aLoad false 1 x50 m) m) fun x51 m =>
  bp (pur (aIndexAddrSl 3 x51 p10) m) fun x52 m =>
  bp (pur (aFieldAddr 0 x52) m) fun x53 m =>
  bp (pur (aLoad false 1 x53 m) m) fun x54 m =>
  bp (pur (aFieldAddr 5 p1) m) fun x55 m =>
  bp (pur (aLoad false 1 x55 m) m) fun x56 m =>
  bp (pur (aIndexAddrSl 3 x56 p10) m) fun x57 m =>
  bp (pur (aFieldAddr 2 x57) m) fun x58 m =>
  bp (pur (aLoad false 1 x58 m) m) fun x59 m =>
  bp (conv (.int .i64) x59 m) fun x60 m =>
  bp (pur (aFieldAddr 5 p1) m) fun x61 m =>
  bp (pur (aLoad false 1 x61 m) m) fun x62 m =>
  bp (pur (aIndexAddrSl 3 x62 p10) m) fun x63 m =>
  bp (pur (aFieldAddr 1 x63) m) fun x64 m =>
  bp (pur (aLoad false 1 x64 m) m) fun x65 m =>
  bp (aBuildSlice Q1 [(.string ⟨#[]⟩)] 1 1 [(0, x65)] m) fun x66 m =>
  bp (G.tab Q11 [x54] m) fun x67 m =>
  ckB (again (pur (aLoad false 1 x55 m) m) x56 && (again (pur (aLoad false 1 x58 m) m) x59 && (again (pur (aLoad false 1 x61 m) m) x62 && (again (pur (aLoad false 1 x64 m) m) x65 && true))))
  (bp (aBuildSlice Q2h [(.int .i64 0)] 1 2 [(0, x67), (1, x60)] m) fun x68 m =>
  bp (G.tab Qd [x68, x66] m) fun x69 m =>
  bp (aAppend Q6x 1 1 p3 x69 m) fun x70 m =>
  bp (pur (bin .add true true .int p10 (.int .i64 1)) m) fun x71 m =>
  (Qe0 G i) x71 p1 x70 m))
  (Qr4 G p1 p3 m)
def Qr5 (G : Gt) (p10 p1 p3 : V) (m : M) : R :=
  Qe0 G G.rds p10 p1 p3 m
def Qr6 (G : Gt) (p1 p3 : V) (m : M) : R :=
  Qr5 G (.int .i64 0) p1 p3 m
def Qow (G : Gt) (k0 : V → V → V → M → R) (p6 p1 p3 : V) (m : M) : R :=
  bp (pur (bin .add true true .int p6 (.int .i64 1)) m) fun x72 m =>
  k0 x72 p1 p3 m
def Qcc (G : Gt) (k0 : V → V → V → M → R) : Nat → V → V → V → V → V → M → R
 | 0, _, _, _, _, _, _ => none
 | i + 1, p8, p7, p3, p6, p1, m =>
  bp (pur (aFieldAddr 1 p7) m) fun x73 m =>
  bp (pur (aLoad false 1 x73 m) m) fun x74 m =>
  bp (pur (lenK 1 x74 m) m) fun x75 m =>
  bp (pur (bin .lss false true .int p8 x75) m) fun x76 m =>
  brb x76
  (bp (pur (aFieldAddr 1 p7) m) fun x77 m =>
  bp (pur (aLoad false 1 x77 m) m) fun x78 m =>
  bp (pur (aIndexAddrSl 10 x78 p8) m) fun x79 m =>
  bp (pur (aLoad true 10 x79 m) m) fun x80 m =>
  bp (some (aNew Qmi Q11k m)) fun x81 m =>
  bp (unt (aStore 10 x81 x80 m)) fun _ m =>
  bp (pur (aFieldAddr 0 x81) m) fun x82 m =>
  bp (pur (aLoad false 1 x82 m) m) fun x83 m =>
  bp (pur (aFieldAddr 1 x81) m) fun x84 m =>
  bp (pur (aLoad false 1 x84 m) m) fun x85 m =>
  bp (pur (aFieldAddr 2 x81) m) fun x86 m =>
  bp (pur (aFieldAddr 0 x86) m) fun x87 m =>
  bp (pur (aLoad false 1 x87 m) m) fun x88 m =>
  bp (conv (.int .i64) x88 m) fun x89 m =>
  bp (pur (aFieldAddr 2 x81) m) fun x90 m =>
  bp (pur (aFieldAddr 1 x90) m) fun x91 m =>
  bp (pur (aLoad false 1 x91 m) m) fun x92 m =>
  bp (pur (aFieldAddr 4 x81) m) fun x93 m =>
  bp (pur (aFieldAddr 0 x93) m) fun x94 m =>
  bp (pur (aLoad false 1 x94 m) m) fun x95 m =>
  bp (conv (.int .i64) x95 m) fun x96 m =>
  bp (pur (aFieldAddr 4 x81) m) fun x97 m =>
  bp (pur (aFieldAddr 1 x97) m) fun x98 m =>
  bp (pur (aLoad false 1 x98 m) m) fun x99 m =>
  bp (pur (aFieldAddr 6 x81) m) fun x100 m =>
  bp (pur (aFieldAddr 0 x100) m) fun x101 m =>
  bp (pur (aLoad false 1 x101 m) m) fun x102 m =>
  bp (conv (.int .i64) x102 m) fun x103 m =>
  bp (pur (aFieldAddr 6 x81) m) fun x104 m =>
  bp (pur (aFieldAddr 1 x104) m) fun x105 m =>
  bp (pur (aLoad false 1 x105 m) m) fun x106 m =>
  bp (conv (.int .i64) x106 m) fun x107 m =>
  bp (pur (aFieldAddr 8 x81) m) fun x108 m =>
  bp (pur (aFieldAddr 0 x108) m) fun x109 m =>
  bp (pur (aLoad false 1 x109 m) m) fun x110 m =>
  bp (conv (.int .i64) x110 m) fun x111 m =>
  bp (pur (aFieldAddr 8 x81) m) fun x112 m =>
  bp (pur (aFieldAddr 1 x112) m) fun x113 m =>
  bp (pur (aLoad false 1 x113 m) m) fun x114 m =>
  bp (conv (.int .i64) x114 m) fun x115 m =>
  bp (G.tab Q11 [x83] m) fun x116 m =>
  ckB (again (pur (aLoad false 1 x84 m) m) x85 && (again (pur (aLoad false 1 x87 m) m) x88 && (again (pur (aLoad false 1 x91 m) m) x92 && (again (pur (aLoad false 1 x94 m) m) x95 && (again (pur (aLoad false 1 x98 m) m) x99 && (again (pur (aLoad false 1 x101 m) m) x102 && (again (pur (aLoad false 1 x105 m) m) x106 && (again (pur (aLoad false 1 x109 m) m) x110 && (again (pur (aLoad false 1 x113 m) m) x114 && true)))))))))
  (bp (aBuildSlice Q2h [(.int .i64 0)] 1 10 [(0, x116), (1, x85), (2, x89), (3, x92), (4, x96), (5, x99), (6, x103), (7, x107), (8, x111), (9, x115)] m) fun x117 m =>
  bp (G.tab Qd [x117, (.slice none 0 0)] m) fun x118 m =>
  bp (aAppend Q6x 1 1 p3 x118 m) fun x119 m =>
  bp (pur (bin .add true true .int p8 (.int .i64 1)) m) fun x120 m =>
  (Qcc G k0 i) x120 p7 x119 p6 p1 m))
  (Qow G k0 p6 p1 p3 m)
def Qox (G : Gt) (k0 : V → V → V → M → R) (p8 p7 p3 p6 p1 : V) (m : M) : R :=
  Qcc G k0 G.rds p8 p7 p3 p6 p1 m
def Qoy (G : Gt) (k0 : V → V → V → M → R) (p7 p3 p6 p1 : V) (m : M) : R :=
  Qox G k0 (.int .i64 0) p7 p3 p6 p1 m
def Qoz (G : Gt) (k0 : V → V → V → M → R) (p3 p7 p6 p1 : V) (m : M) : R :=
  bp (pur (aFieldAddr 1 p7) m) fun x121 m =>
  bp (pur (aLoad false 1 x121 m) m) fun x122 m =>
  bp (pur (lenK 1 x122 m) m) fun x123 m =>
  bp (aBuildSlice Q2h [(.int .i64 0)] 1 1 [(0, x123)] m) fun x124 m =>
  bp (pur (aFieldAddr 0 p7) m) fun x125 m =>
  bp (pur (aLoad false 1 x125 m) m) fun x126 m =>
  bp (aBuildSlice Q1 [(.string ⟨#[]⟩)] 1 1 [(0, x126)] m) fun x127 m =>
  bp (G.tab Qd [x124, x127] m) fun x128 m =>
  bp (aAppend Q6x 1 1 p3 x128 m) fun x129 m =>
  Qoy G k0 p7 x129 p6 p1 m
def Qp0 (G : Gt) (k0 : V → V → V → M → R) (p1 p6 p3 : V) (m : M) : R :=
  bp (pur (aFieldAddr 4 p1) m) fun x130 m =>
  bp (pur (aLoad false 1 x130 m) m) fun x131 m =>
  bp (pur (aIndexAddrSl 2 x131 p6) m) fun x132 m =>
  bp (pur (aLoad true 2 x132 m) m) fun x133 m =>
  bp (some (aNew Q7g Qke m)) fun x134 m =>
  bp (unt (aStore 2 x134 x133 m)) fun _ m =>
  Qoz G k0 p3 x134 p6 p1 m
def Q15 (G : Gt) : Nat → V → V → V → M → R
 | 0, _, _, _, _ => none
 | i + 1, p6, p1, p3, m =>
  bp (pur (aFieldAddr 4 p1) m) fun x135 m =>
  bp (pur (aLoad false 1 x135 m) m) fun x136 m =>
  bp (pur (lenK 1 x136 m) m) fun x137 m =>
  bp (pur (bin .lss false true .int p6 x137) m) fun x138 m =>
  brb x138
  (Qp0 G (Q15 G i) p1 p6 p3 m)
  (Qr6 G p1 p3 m)
def Qp1 (G : Gt) (p6 p1 p3 : V) (m : M) : R :=
  Q15 G G.rds p6 p1 p3 m
def Qr7 (G : Gt) (p1 p3 : V) (m : M) : R :=
  Qp1 G (.int .i64 0) p1 p3 m
def Qcd (G : Gt) : Nat → V → V → V → M → R
 | 0, _, _, _, _ => none
 | i + 1, p4, p1, p3, m =>
  bp (pur (aFieldAddr 3 p1) m) fun x139 m =>
  bp (pur (aLoad false 1 x139 m) m) fun x140 m =>
  bp (pur (lenK 1 x140 m) m) fun x141 m =>
  bp (pur (bin .lss false true .int p4 x141) m) fun x142 m =>
  brb x142
  (bp (pur (aFieldAddr 3 p1) m) fun x143 m =>
  bp (pur (aLoad false 1 x143 m) m) fun x144 m =>
  bp (pur (aIndexAddrSl 11 x144 p4) m) fun x145 m =>
  bp (pur (aLoad true 11 x145 m) m) fun x146 m =>
  bp (some (aNew Q9v Qik m)) fun x147 m =>
  bp (unt (aStore 11 x147 x146 m)) fun _ m =>
  bp (pur (aFieldAddr 2 x147) m) fun x148 m =>
  bp (pur (aLoad false 1 x148 m) m) fun x149 m =>
  bp (conv (.int .i64) x149 m) fun x150 m =>
  bp (pur (aFieldAddr 3 x147) m) fun x151 m =>
  bp (pur (aLoad false 1 x151 m) m) fun x152 m =>
  bp (pur (aFieldAddr 4 x147) m) fun x153 m =>
  bp (pur (aLoad false 1 x153 m) m) fun x154 m =>
  bp (pur (aFieldAddr 7 x147) m) fun x155 m =>
  bp (pur (aLoad false 1 x155 m) m) fun x156 m =>
  bp (conv (.int .i64) x156 m) fun x157 m =>
  bp (pur (aFieldAddr 8 x147) m) fun x158 m =>
  bp (pur (aLoad false 1 x158 m) m) fun x159 m =>
  bp (pur (aFieldAddr 9 x147) m) fun x160 m =>
  bp (pur (aLoad false 1 x160 m) m) fun x161 m =>
  bp (pur (aFieldAddr 10 x147) m) fun x162 m =>
  bp (pur (aLoad false 1 x162 m) m) fun x163 m =>
  bp (pur (aFieldAddr 0 x147) m) fun x164 m =>
  bp (pur (aLoad false 1 x164 m) m) fun x165 m =>
  bp (pur (aFieldAddr 1 x147) m) fun x166 m =>
  bp (pur (aLoad false 1 x166 m) m) fun x167 m =>
  bp (pur (aFieldAddr 5 x147) m) fun x168 m =>
  bp (pur (aLoad false 1 x168 m) m) fun x169 m =>
  bp (pur (aFieldAddr 6 x147) m) fun x170 m =>
  bp (pur (aLoad false 1 x170 m) m) fun x171 m =>
  bp (aBuildSlice Q1 [(.string ⟨#[]⟩)] 1 4 [(0, x165), (1, x167), (2, x169), (3, x171)] m) fun x172 m =>
  bp (G.tab Q11 [x154] m) fun x173 m =>
  ckB (again (pur (aLoad false 1 x148 m) m) x149 && (again (pur (aLoad false 1 x151 m) m) x152 && (again (pur (aLoad false 1 x155 m) m) x156 && (again (pur (aLoad false 1 x158 m) m) x159 && (again (pur (aLoad false 1 x160 m) m) x161 && (again (pur (aLoad false 1 x162 m) m) x163 && (again (pur (aLoad false 1 x164 m) m) x165 && (again (pur (aLoad false 1 x166 m) m) x167 && (again (pur (aLoad false 1 x168 m) m) x169 && (again (pur (aLoad false 1 x170 m) m) x171 && true))))))))))
  (bp (G.tab Q11 [x163] m) fun x174 m =>
  ckB (again (pur (aLoad false 1 x148 m) m) x149 && (again (pur (aLoad false 1 x151 m) m) x152 && (again (pur (aLoad false 1 x155 m) m) x156 && (again (pur (aLoad false 1 x158 m) m) x159 && (again (pur (aLoad false 1 x160 m) m) x161 && (again (pur (aLoad false 1 x164 m) m) x165 && (again (pur (aLoad false 1 x166 m) m) x167 && (again (pur (aLoad false 1 x168 m) m) x169 && (again (pur (aLoad false 1 x170 m) m) x171 && true)))))))))
  (bp (aBuildSlice Q2h [(.int .i64 0)] 1 7 [(0, x150), (1, x152), (2, x173), (3, x157), (4, x159), (5, x161), (6, x174)] m) fun x175 m =>
  bp (G.tab Qd [x175, x172] m) fun x176 m =>
  bp (aAppend Q6x 1 1 p3 x176 m) fun x177 m =>
  bp (pur (bin .add true true .int p4 (.int .i64 1)) m) fun x178 m =>
  (Qcd G i) x178 p1 x177 m)))
  (Qr7 G p1 p3 m)
def Qp2 (G : Gt) (p4 p1 p3 : V) (m : M) : R :=
  Qcd G G.rds p4 p1 p3 m
def Qr8 (G : Gt) (p1 p3 : V) (m : M) : R :=
  Qp2 G (.int .i64 0) p1 p3 m
def Qr9 (G : Gt) (p1 : V) (m : M) : R :=
  bp (pur (aFieldAddr 1 p1) m) fun x179 m =>
  bp (pur (aLoad false 1 x179 m) m) fun x180 m =>
  bp (conv (.int .i64) x180 m) fun x181 m =>
  bp (pur (aFieldAddr 2 p1) m) fun x182 m =>
  bp (pur (aLoad false 1 x182 m) m) fun x183 m =>
  bp (pur (lenK 1 x183 m) m) fun x184 m =>
  bp (pur (aFieldAddr 3 p1) m) fun x185 m =>
  bp (pur (aLoad false 1 x185 m) m) fun x186 m =>
  bp (pur (lenK 1 x186 m) m) fun x187 m =>
  bp (pur (aFieldAddr 4 p1) m) fun x188 m =>
  bp (pur (aLoad false 1 x188 m) m) fun x189 m =>
  bp (pur (lenK 1 x189 m) m) fun x190 m =>
  bp (pur (aFieldAddr 5 p1) m) fun x191 m =>
  bp (pur (aLoad false 1 x191 m) m) fun x192 m =>
  bp (pur (lenK 1 x192 m) m) fun x193 m =>
  bp (pur (aFieldAddr 6 p1) m) fun x194 m =>
  bp (pur (aLoad false 1 x194 m) m) fun x195 m =>
  bp (pur (lenK 1 x195 m) m) fun x196 m =>
  bp (pur (aFieldAddr 7 p1) m) fun x197 m =>
  bp (pur (aLoad false 1 x197 m) m) fun x198 m =>
  bp (pur (lenK 1 x198 m) m) fun x199 m =>
  bp (pur (aFieldAddr 8 p1) m) fun x200 m =>
  bp (pur (aLoad false 1 x200 m) m) fun x201 m =>
  bp (pur (lenK 1 x201 m) m) fun x202 m =>
  bp (pur (aFieldAddr 9 p1) m) fun x203 m =>
  bp (pur (aLoad false 1 x203 m) m) fun x204 m =>
  bp (pur (lenK 1 x204 m) m) fun x205 m =>
  bp (pur (aFieldAddr 10 p1) m) fun x206 m =>
  bp (pur (aLoad false 1 x206 m) m) fun x207 m =>
  bp (pur (lenK 1 x207 m) m) fun x208 m =>
  bp (pur (aFieldAddr 11 p1) m) fun x209 m =>
  bp (pur (aLoad false 1 x209 m) m) fun x210 m =>
  bp (pur (lenK 1 x210 m) m) fun x211 m =>
  bp (aBuildSlice Q2h [(.int .i64 0)] 1 11 [(0, x181), (1, x184), (2, x187), (3, x190), (4, x193), (5, x196), (6, x199), (7, x202), (8, x205), (9, x208), (10, x211)] m) fun x212 m =>
  bp (pur (aFieldAddr 0 p1) m) fun x213 m =>
  bp (pur (aLoad false 1 x213 m) m) fun x214 m =>
  bp (aBuildSlice Q1 [(.string ⟨#[]⟩)] 1 1 [(0, x214)] m) fun x215 m =>
  bp (pur (aFieldAddr 2 p1) m) fun x216 m =>
  bp (pur (aLoad false 1 x216 m) m) fun x217 m =>
  bp (apS Q1 1 16 x215 x217 m) fun x218 m =>
  ckB (again (pur (aLoad false 1 x179 m) m) x180 && (again (pur (aLoad false 1 x182 m) m) x183 && (again (pur (aLoad false 1 x185 m) m) x186 && (again (pur (aLoad false 1 x188 m) m) x189 && (again (pur (aLoad false 1 x191 m) m) x192 && (again (pur (aLoad false 1 x194 m) m) x195 && (again (pur (aLoad false 1 x197 m) m) x198 && (again (pur (aLoad false 1 x200 m) m) x201 && (again (pur (aLoad false 1 x203 m) m) x204 && (again (pur (aLoad false 1 x206 m) m) x207 && (again (pur (aLoad false 1 x209 m) m) x210 && true)))))))))))
  (bp (G.tab Qd [x212, x218] m) fun x219 m =>
  bp (conv .bytes x219 m) fun x220 m =>
  Qr8 G p1 x220 m)
def Qim (G : Gt) (p0 : V) (m : M) : R :=
  bp (some (aNew Ql (Value.cells p0).toList m)) fun x221 m =>
  Qr9 G x221 m
theorem Q1e6 (G : Gt) (a0 : V) (m : M) : evFn Tryz.prog G.tab G.rds (drOf Tryz.prog G.tab) Tryz.f7 [a0] m = Qim G a0 m :=
  evFn_of (r := fun ρ m => Qim G (ρ 0) m) rfl rfl (tr (seqQ (f := fun ρ m => Qr9 G (ρ 1) m) (tr (seqQ (f := fun ρ m => Qr8 G (ρ 1) (ρ 3) m) (tr (tr (seqQ (f := fun ρ m => Qr7 G (ρ 1) (ρ 3) m) (tr (tr (seqQ (f := fun ρ m => Qr6 G (ρ 1) (ρ 3) m) (tr (tr (seqQ (f := fun ρ m => Qr4 G (ρ 1) (ρ 3) m) (tr (tr (seqQ (f := fun ρ m => Qr2 G (ρ 3) (ρ 1) m) (fun ρ m => by kernel_rfl)) (seqQ (f := fun ρ m => Qr3 G (ρ 11) (ρ 1) (ρ 3) m) (tr (blockQ (loopQ (fun i ρ m => Qdy G i (ρ 11) (ρ 1) (ρ 3) m) (fun _ _ => rfl) (fun i0 => fun ρ m => by kernel_rfl))) (fun ρ m => by kernel_rfl)))) (fun ρ m => by kernel_rfl))) (seqQ (f := fun ρ m => Qr5 G (ρ 10) (ρ 1) (ρ 3) m) (tr (blockQ (loopQ (fun i ρ m => Qe0 G i (ρ 10) (ρ 1) (ρ 3) m) (fun _ _ => rfl) (fun i0 => fun ρ m => by kernel_rfl))) (fun ρ m => by kernel_rfl)))) (fun ρ m => by kernel_rfl))) (seqQ (f := fun ρ m => Qp1 G (ρ 6) (ρ 1) (ρ 3) m) (tr (blockQ (loopQ (fun i ρ m => Q15 G i (ρ 6) (ρ 1) (ρ 3) m) (fun _ _ => rfl) (fun i0 => tr (seqQ (f := fun ρ m => Qp0 G (Q15 G i0) (ρ 1) (ρ 6) (ρ 3) m) (tr (tr (seqQ (f := fun ρ m => Qow G (Q15 G i0) (ρ 6) (ρ 1) (ρ 3) m) (fun ρ m => by kernel_rfl)) (blockQ (seqQ (f := fun ρ m => Qoz G (Q15 G i0) (ρ 3) (ρ 7) (ρ 6) (ρ 1) m) (tr (seqQ (f := fun ρ m => Qoy G (Q15 G i0) (ρ 7) (ρ 3) (ρ 6) (ρ 1) m) (tr (seqQ (f := fun ρ m => Qox G (Q15 G i0) (ρ 8) (ρ 7) (ρ 3) (ρ 6) (ρ 1) m) (tr (blockQ (loopQ (fun i ρ m => Qcc G (Q15 G i0) i (ρ 8) (ρ 7) (ρ 3) (ρ 6) (ρ 1) m) (fun _ _ => rfl) (fun i1 => fun ρ m => by kernel_rfl))) (fun ρ m => by kernel_rfl))) (fun ρ m => by kernel_rfl))) (fun ρ m => by kernel_rfl))))) (fun ρ m => by kernel_rfl))) (fun ρ m => by kernel_rfl)))) (fun ρ m => by kernel_rfl)))) (fun ρ m => by kernel_rfl))) (seqQ (f := fun ρ m => Qp2 G (ρ 4) (ρ 1) (ρ 3) m) (tr (blockQ (loopQ (fun i ρ m => Qcd G i (ρ 4) (ρ 1) (ρ 3) m) (fun _ _ => rfl) (fun i0 => fun ρ m => by kernel_rfl))) (fun ρ m => by kernel_rfl)))) (fun ρ m => by kernel_rfl))) (fun ρ m => by kernel_rfl))) (fun ρ m => by kernel_rfl)) m
def Q1e7 : Entry Tryz.prog := ⟨Q6m, Tryz.f7, Tryz.func7, by kernel_rfl, arg1 (fun G a0 m => Qim G a0 m), okarg1 Q1e6⟩
def Q12e (G : Gt) (p0 : V) (m : M) : R :=
  bp (some (aNew Q9 Q5 m)) fun x0 m =>
  bp (G.tab Q12f [p0] m) fun x1 m =>
  bp (pur (aExtract x1 0) m) fun x2 m =>
  bp (pur (aExtract x1 1) m) fun x3 m =>
  bp (pur (aExtract x1 2) m) fun x4 m =>
  bp (some (aNew Q9 Q5 m)) fun x5 m =>
  bp (unt (aStore 2 x5 x3 m)) fun _ m =>
  bp (pur (bin .neq true true .int x4 (.int .i64 0)) m) fun x6 m =>
  brb x6
  (bp (pur (aLoad true 2 x5 m) m) fun x7 m =>
  bp (unt (aStore 2 x0 x7 m)) fun _ m =>
  ob (ob (ob (aLoad true 2 x0 m) fun v => ob (some [x4]) fun l => some (v :: l)) fun l => some ((.slice none 0 0) :: l)) fun l => some (resVal l, m))
  (bp (pur (aBuild Q1kx [(0, 1), (1, 1), (2, 2)] [(0, x2)]) m) fun x8 m =>
  bp (some (aNew Q1ky (Value.cells x8).toList m)) fun x9 m =>
  bp (pur (aBuild Q5 [(0, 1), (1, 1)] []) m) fun x10 m =>
  bp (G.tab Qin [x9, (.int .i64 0), x10] m) fun x11 m =>
  bp (pur (aNilCheck x9) m) fun x12 m =>
  bp (pur (aFieldAddr 1 x12) m) fun x13 m =>
  bp (pur (aLoad false 1 x13 m) m) fun x14 m =>
  bp (pur (bin .neq true true .int x14 (.int .i64 0)) m) fun x15 m =>
  brb x15
  (bp (pur (aNilCheck x9) m) fun x16 m =>
  bp (pur (aFieldAddr 2 x16) m) fun x17 m =>
  bp (pur (aLoad true 2 x17 m) m) fun x18 m =>
  bp (pur (aNilCheck x9) m) fun x19 m =>
  bp (pur (aFieldAddr 1 x19) m) fun x20 m =>
  bp (pur (aLoad false 1 x20 m) m) fun x21 m =>
  bp (unt (aStore 2 x0 x18 m)) fun _ m =>
  ckB (again (pur (aLoad false 1 x20 m) m) x21 && true)
  (ob (ob (ob (aLoad true 2 x0 m) fun v => ob (some [x21]) fun l => some (v :: l)) fun l => some ((.slice none 0 0) :: l)) fun l => some (resVal l, m)))
  (bp (pur (aBuild Q5 [(0, 1), (1, 1)] []) m) fun x22 m =>
  bp (unt (aStore 2 x0 x22 m)) fun _ m =>
  ob (ob (ob (aLoad true 2 x0 m) fun v => ob (some [(.int .i64 0)]) fun l => some (v :: l)) fun l => some (x11 :: l)) fun l => some (resVal l, m)))
theorem Q1mg (G : Gt) (a0 : V) (m : M) : evFn Tryz.prog G.tab G.rds (drOf Tryz.prog G.tab) Tryz.f8 [a0] m = Q12e G a0 m :=
  evFn_of (r := fun ρ m => Q12e G (ρ 0) m) rfl rfl (fun ρ m => by kernel_rfl) m
def Q1mh : Entry Tryz.prog := ⟨Qst, Tryz.f8, Tryz.func8, by kernel_rfl, arg1 (fun G a0 m => Q12e G a0 m), okarg1 Q1mg⟩
end
end Go.Ab.Sh

set_option linter.unusedVariables false
set_option maxRecDepth 100000
namespace Go.Ab.Sh
open Go Go.Ab Go.Proofs
noncomputable section
def Q12g (G : Gt) (p6 p3 p5 : V) (m : M) : R :=
  bp (G.tab Q1hr [p6] m) fun x0 m =>
  bp (pur (aExtract x0 0) m) fun x1 m =>
  bp (pur (aExtract x0 1) m) fun x2 m =>
  bp (pur (aExtract x0 2) m) fun x3 m =>
  bp (some (aNew Q9 Q5 m)) fun x4 m =>
  bp (unt (aStore 2 x4 x2 m)) fun _ m =>
  bp (pur (bin .neq true true .int x3 (.int .i64 0)) m) fun x5 m =>
  brb x5
  (bp (pur (aLoad true 2 x4 m) m) fun x6 m =>
  bp (unt (aStore 2 p3 x6 m)) fun _ m =>
  ob (ob (ob (aLoad true 2 p3 m) fun v => ob (some [x3]) fun l => some (v :: l)) fun l => some ((.slice none 0 0) :: l)) fun l => some (resVal l, m))
  (bp (G.tab Q12h [p5, x1] m) fun x7 m =>
  bp (pur (aExtract x7 0) m) fun x8 m =>
  bp (pur (aExtract x7 1) m) fun x9 m =>
  bp (some (aNew Q9 Q5 m)) fun x10 m =>
  bp (unt (aStore 2 x10 x8 m)) fun _ m =>
  bp (pur (bin .neq true true .int x9 (.int .i64 0)) m) fun x11 m =>
  brb x11
  (bp (pur (aLoad true 2 x10 m) m) fun x12 m =>
  bp (unt (aStore 2 p3 x12 m)) fun _ m =>
  ob (ob (ob (aLoad true 2 p3 m) fun v => ob (some [x9]) fun l => some (v :: l)) fun l => some ((.slice none 0 0) :: l)) fun l => some (resVal l, m))
  (bp (G.tab Qq9 [p5, x1] m) fun x13 m =>
  bp (pur (aBuild Q5 [(0, 1), (1, 1)] []) m) fun x14 m =>
  bp (unt (aStore 2 p3 x14 m)) fun _ m =>
  ob (ob (ob (aLoad true 2 p3 m) fun v => ob (some [(.int .i64 0)]) fun l => some (v :: l)) fun l => some (x13 :: l)) fun l => some (resVal l, m)))
def Qqa (G : Gt) (k0 : V → V → V → V → V → V → M → R) (p17 p16 p15 p5 p6 p3 : V) (m : M) : R :=
  bp (pur (bin .add true true .int p17 (.int .i64 1)) m) fun x15 m =>
  k0 x15 p16 p15 p5 p6 p3 m
def Qgz (G : Gt) (k0 : V → V → V → V → V → V → M → R) (p35 p8 p17 p16 p15 p5 p3 p6 : V) (m : M) : R :=
  brb p35
  (bp (pur (aFieldAddr 3 p8) m) fun x16 m =>
  bp (pur (aLoad false 1 x16 m) m) fun x17 m =>
  Qqa G k0 p17 p16 p15 p5 x17 p3 m)
  (bp (pur (aLoad true 4 p8 m) m) fun x18 m =>
  bp (aBuildSlice Q2 Q4 4 1 [(0, x18)] m) fun x19 m =>
  bp (apS Q2 4 80 p5 x19 m) fun x20 m =>
  Qqa G k0 p17 p16 p15 x20 p6 p3 m)
def Q12i (G : Gt) (k0 : V → V → V → V → V → V → M → R) (p8 p17 p16 p15 p5 p3 p6 : V) (m : M) : R :=
  bp (pur (aFieldAddr 2 p8) m) fun x21 m =>
  bp (pur (aLoad false 1 x21 m) m) fun x22 m =>
  brb x22
  (bp (pur (aFieldAddr 0 p8) m) fun x23 m =>
  bp (pur (aLoad false 1 x23 m) m) fun x24 m =>
  bp (pur (lenK 1 x24 m) m) fun x25 m =>
  bp (pur (bin .eql true true .int x25 (.int .i64 1)) m) fun x26 m =>
  brb x26
  (bp (pur (aFieldAddr 0 p8) m) fun x27 m =>
  bp (pur (aLoad false 1 x27 m) m) fun x28 m =>
  bp (pur (aIndexAddrSl 1 x28 (.int .i64 0)) m) fun x29 m =>
  bp (pur (aLoad false 1 x29 m) m) fun x30 m =>
  bp (pur (bin .eql true true .str x30 (.string ⟨#[103,114,111,117,112,115]⟩)) m) fun x31 m =>
  Qgz G k0 x31 p8 p17 p16 p15 p5 p3 p6 m)
  (Qgz G k0 (.bool false) p8 p17 p16 p15 p5 p3 p6 m))
  (Qgz G k0 (.bool false) p8 p17 p16 p15 p5 p3 p6 m)
def Q12j (G : Gt) (k0 : V → V → V → V → V → V → M → R) (p15 p17 p16 p5 p3 p6 : V) (m : M) : R :=
  bp (pur (aIndexAddrSl 4 p15 p17) m) fun x32 m =>
  bp (pur (aLoad true 4 x32 m) m) fun x33 m =>
  bp (some (aNew Q2 Q4 m)) fun x34 m =>
  bp (unt (aStore 4 x34 x33 m)) fun _ m =>
  Q12i G k0 x34 p17 p16 p15 p5 p3 p6 m
def Q12k (G : Gt) (k0 : V → V → V → V → V → V → M → R) (p18 p15 p17 p16 p5 p3 p6 : V) (m : M) : R :=
  brb p18
  (Q12j G k0 p15 p17 p16 p5 p3 p6 m)
  (Q12g G p6 p3 p5 m)
def Q3l (G : Gt) : Nat → V → V → V → V → V → V → M → R
 | 0, _, _, _, _, _, _, _ => none
 | i + 1, p17, p16, p15, p5, p6, p3, m =>
  bp (pur (bin .lss false true .int p17 p16) m) fun x35 m =>
  Q12k G (Q3l G i) x35 p15 p17 p16 p5 p3 p6 m
def Q12l (G : Gt) (p17 p16 p15 p5 p6 p3 : V) (m : M) : R :=
  Q3l G G.rds p17 p16 p15 p5 p6 p3 m
def Q12m (G : Gt) (p0 p5 p6 p3 : V) (m : M) : R :=
  bp (G.tab Qsu [p0] m) fun x36 m =>
  bp (pur (lenK 1 x36 m) m) fun x37 m =>
  Q12l G (.int .i64 0) x37 x36 p5 p6 p3 m
def Q12n (G : Gt) (p0 p3 : V) (m : M) : R :=
  Q12m G p0 (.slice none 0 0) (.slice none 0 0) p3 m
def Qx3 (G : Gt) (p0 : V) (m : M) : R :=
  bp (some (aNew Q9 Q5 m)) fun x38 m =>
  Q12n G p0 x38 m
theorem Q1jm (G : Gt) (a0 : V) (m : M) : evFn Tryz.prog G.tab G.rds (drOf Tryz.prog G.tab) Tryz.f9 [a0] m = Qx3 G a0 m :=
  evFn_of (r := fun ρ m => Qx3 G (ρ 0) m) rfl rfl (tr (seqQ (f := fun ρ m => Q12n G (ρ 0) (ρ 3) m) (tr (seqQ (f := fun ρ m => Q12m G (ρ 0) (ρ 5) (ρ 6) (ρ 3) m) (tr (tr (seqQ (f := fun ρ m => Q12g G (ρ 6) (ρ 3) (ρ 5) m) (fun ρ m => by kernel_rfl)) (seqQ (f := fun ρ m => Q12l G (ρ 17) (ρ 16) (ρ 15) (ρ 5) (ρ 6) (ρ 3) m) (tr (blockQ (loopQ (fun i ρ m => Q3l G i (ρ 17) (ρ 16) (ρ 15) (ρ 5) (ρ 6) (ρ 3) m) (fun _ _ => rfl) (fun i0 => tr (seqQ (f := fun ρ m => Q12k G (Q3l G i0) (ρ 18) (ρ 15) (ρ 17) (ρ 16) (ρ 5) (ρ 3) (ρ 6) m) (tr (seqQ (f := fun ρ m => Q12j G (Q3l G i0) (ρ 15) (ρ 17) (ρ 16) (ρ 5) (ρ 3) (ρ 6) m) (tr (tr (seqQ (f := fun ρ m => Qqa G (Q3l G i0) (ρ 17) (ρ 16) (ρ 15) (ρ 5) (ρ 6) (ρ 3) m) (fun ρ m => by kernel_rfl)) (blockQ (seqQ (f := fun ρ m => Q12i G (Q3l G i0) (ρ 8) (ρ 17) (ρ 16) (ρ 15) (ρ 5) (ρ 3) (ρ 6) m) (tr (tr seqD (seqQ (f := fun ρ m => Qgz G (Q3l G i0) (ρ 35) (ρ 8) (ρ 17) (ρ 16) (ρ 15) (ρ 5) (ρ 3) (ρ 6) m) (fun ρ m => by kernel_rfl))) (fun ρ m => by kernel_rfl))))) (fun ρ m => by kernel_rfl))) (fun ρ m => by kernel_rfl))) (fun ρ m => by kernel_rfl)))) (fun ρ m => by kernel_rfl)))) (fun ρ m => by kernel_rfl))) (fun ρ m => by kernel_rfl))) (fun ρ m => by kernel_rfl)) m
def Q1jn : Entry Tryz.prog := ⟨Q197, Tryz.f9, Tryz.func9, by kernel_rfl, arg1 (fun G a0 m => Qx3 G a0 m), okarg1 Q1jm⟩
def Qzo (G : Gt) (p0 : V) (m : M) : R :=
  bp (some (aNew Ql Q1t m)) fun x0 m =>
  bp (some (aNew Q9 Q5 m)) fun x1 m =>
  bp (pur (aBuild Q1t [(0, 1), (1, 1), (2, 1), (3, 1), (4, 1), (5, 1), (6, 1), (7, 1), (8, 1), (9, 1), (10, 1), (11, 1)] [(1, (.int .u8 2))]) m) fun x2 m =>
  bp (pur (aBuild Q1il [(0, 12), (12, 2), (14, 1)] [(0, x2)]) m) fun x3 m =>
  bp (some (aNew Q1im (Value.cells x3).toList m)) fun x4 m =>
  bp (G.tab Qsu [p0] m) fun x5 m =>
  bp (G.tab Q81 [x4, x5, (.func (.func Qsv) ⟨[x4]⟩ ⟨[]⟩)] m) fun x6 m =>
  bp (pur (aNilCheck x4) m) fun x7 m =>
  bp (pur (aFieldAddr 14 x7) m) fun x8 m =>
  bp (pur (aLoad false 1 x8 m) m) fun x9 m =>
  bp (pur (bin .neq true true .int x9 (.int .i64 0)) m) fun x10 m =>
  brb x10
  (bp (pur (aBuild Q1t [(0, 1), (1, 1), (2, 1), (3, 1), (4, 1), (5, 1), (6, 1), (7, 1), (8, 1), (9, 1), (10, 1), (11, 1)] []) m) fun x11 m =>
  bp (pur (aNilCheck x4) m) fun x12 m =>
  bp (pur (aFieldAddr 12 x12) m) fun x13 m =>
  bp (pur (aLoad true 2 x13 m) m) fun x14 m =>
  bp (pur (aNilCheck x4) m) fun x15 m =>
  bp (pur (aFieldAddr 14 x15) m) fun x16 m =>
  bp (pur (aLoad false 1 x16 m) m) fun x17 m =>
  bp (unt (aStore 12 x0 x11 m)) fun _ m =>
  ckB (again (pur (aLoad true 2 x13 m) m) x14 && (again (pur (aLoad false 1 x16 m) m) x17 && true))
  (bp (unt (aStore 2 x1 x14 m)) fun _ m =>
  ckB (again (pur (aLoad false 1 x16 m) m) x17 && true)
  (ob (ob (aLoad true 12 x0 m) fun v => ob (ob (aLoad true 2 x1 m) fun v => ob (some [x17]) fun l => some (v :: l)) fun l => some (v :: l)) fun l => some (resVal l, m))))
  (bp (pur (aNilCheck x4) m) fun x18 m =>
  bp (pur (aFieldAddr 0 x18) m) fun x19 m =>
  bp (pur (aFieldAddr 0 x19) m) fun x20 m =>
  bp (pur (aLoad false 1 x20 m) m) fun x21 m =>
  bp (pur (bin .eql true true .str x21 (.string ⟨#[]⟩)) m) fun x22 m =>
  brb x22
  (bp (pur (aBuild Q1t [(0, 1), (1, 1), (2, 1), (3, 1), (4, 1), (5, 1), (6, 1), (7, 1), (8, 1), (9, 1), (10, 1), (11, 1)] []) m) fun x23 m =>
  bp (pur (aBuild Q5 [(0, 1), (1, 1)] []) m) fun x24 m =>
  bp (unt (aStore 12 x0 x23 m)) fun _ m =>
  bp (unt (aStore 2 x1 x24 m)) fun _ m =>
  ob (ob (aLoad true 12 x0 m) fun v => ob (ob (aLoad true 2 x1 m) fun v => ob (some [(.int .i64 5)]) fun l => some (v :: l)) fun l => some (v :: l)) fun l => some (resVal l, m))
  (bp (pur (aNilCheck x4) m) fun x25 m =>
  bp (pur (aFieldAddr 0 x25) m) fun x26 m =>
  bp (pur (aLoad true 12 x26 m) m) fun x27 m =>
  bp (pur (aBuild Q5 [(0, 1), (1, 1)] []) m) fun x28 m =>
  bp (unt (aStore 12 x0 x27 m)) fun _ m =>
  bp (unt (aStore 2 x1 x28 m)) fun _ m =>
  ob (ob (aLoad true 12 x0 m) fun v => ob (ob (aLoad true 2 x1 m) fun v => ob (some [(.int .i64 0)]) fun l => some (v :: l)) fun l => some (v :: l)) fun l => some (resVal l, m)))
theorem Q1kz (G : Gt) (a0 : V) (m : M) : evFn Tryz.prog G.tab G.rds (drOf Tryz.prog G.tab) Tryz.f10 [a0] m = Qzo G a0 m :=
  evFn_of (r := fun ρ m => Qzo G (ρ 0) m) rfl rfl (fun ρ m => by kernel_rfl) m
def Q1l0 : Entry Tryz.prog := ⟨Q1d7, Tryz.f10, Tryz.func10, by kernel_rfl, arg1 (fun G a0 m => Qzo G a0 m), okarg1 Q1kz⟩
end
end Go.Ab.Sh
