/-
  Functions of the program as plain definitions, each with the theorem that it is what the evaluator makes of the code. No conditions.
-/
import Derived.Test.YtbjgjnkihdddlaaGreatDoorAb4
import Derived.Test.YtbjgjnkihdddlaaGreatDoorZ
import Derived.KernelRfl
import Derived.Test.YtbjgjnkihdddlaaGreatDoorProg
set_option linter.unusedVariables false
set_option maxRecDepth 100000
namespace Go.Ab.Sh
open Go Go.Ab
noncomputable section
def Qew (G : Gt) (p2 p0 : Value) (m : Mem) : Option Rs :=
  bp (conv (.int .u8) p0 m) fun x0 m =>
  bp (pur (aIndexStr (.string ⟨#[0, 1, 2, 2, 3, 3, 3, 3, 4, 4, 4, 4, 4, 4, 4, 4, 5, 5, 5, 5, 5, 5, 5, 5, 5, 5, 5, 5, 5, 5, 5, 5, 6, 6, 6, 6, 6, 6, 6, 6, 6, 6, 6, 6, 6, 6, 6, 6, 6, 6, 6, 6, 6, 6, 6, 6, 6, 6, 6, 6, 6, 6, 6, 6, 7, 7, 7, 7, 7, 7, 7, 7, 7, 7, 7, 7, 7, 7, 7, 7, 7, 7, 7, 7, 7, 7, 7, 7, 7, 7, 7, 7, 7, 7, 7, 7, 7, 7, 7, 7, 7, 7, 7, 7, 7, 7, 7, 7, 7, 7, 7, 7, 7, 7, 7, 7, 7, 7, 7, 7, 7, 7, 7, 7, 7, 7, 7, 7, 8, 8, 8, 8, 8, 8, 8, 8, 8, 8, 8, 8, 8, 8, 8, 8, 8, 8, 8, 8, 8, 8, 8, 8, 8, 8, 8, 8, 8, 8, 8, 8, 8, 8, 8, 8, 8, 8, 8, 8, 8, 8, 8, 8, 8, 8, 8, 8, 8, 8, 8, 8, 8, 8, 8, 8, 8, 8, 8, 8, 8, 8, 8, 8, 8, 8, 8, 8, 8, 8, 8, 8, 8, 8, 8, 8, 8, 8, 8, 8, 8, 8, 8, 8, 8, 8, 8, 8, 8, 8, 8, 8, 8, 8, 8, 8, 8, 8, 8, 8, 8, 8, 8, 8, 8, 8, 8, 8, 8, 8, 8, 8, 8, 8, 8, 8, 8, 8, 8, 8, 8, 8, 8, 8, 8, 8, 8, 8]⟩) x0) m) fun x1 m =>
  bp (conv (.int .i64) x1 m) fun x2 m =>
  bp (pur (bin .add false true .int p2 x2) m) fun x3 m =>
  some (x3, m)
def Qex (G : Gt) (p0 p2 : Value) (m : Mem) : Option Rs :=
  bp (pur (bin .geq true true .int p0 (.int .u64 256)) m) fun x4 m =>
  brb x4
    (bp (pur (bin .shr true true .int p0 (.int .u64 8)) m) fun x5 m =>
  bp (pur (bin .add true true .int p2 (.int .i64 8)) m) fun x6 m =>
  Qew G x6 x5 m)
    (Qew G p2 p0 m)
def Qey (G : Gt) (p0 p2 : Value) (m : Mem) : Option Rs :=
  bp (pur (bin .geq true true .int p0 (.int .u64 65536)) m) fun x7 m =>
  brb x7
    (bp (pur (bin .shr true true .int p0 (.int .u64 16)) m) fun x8 m =>
  bp (pur (bin .add true true .int p2 (.int .i64 16)) m) fun x9 m =>
  Qex G x8 x9 m)
    (Qex G p0 p2 m)
def Qqr (G : Gt) (p0 p2 : Value) (m : Mem) : Option Rs :=
  bp (pur (bin .geq true true .int p0 (.int .u64 4294967296)) m) fun x10 m =>
  brb x10
    (bp (pur (bin .shr true true .int p0 (.int .u64 32)) m) fun x11 m =>
  Qey G x11 (.int .i64 32) m)
    (Qey G p0 p2 m)
def Qjn (G : Gt) (p0 : Value) (m : Mem) : Option Rs :=
  Qqr G p0 (.int .i64 0) m
theorem Q173 (G : Gt) (a0 : Value) (m : Mem) : evFn Go.Proofs.Tryz.prog G.tab G.rds (drOf Go.Proofs.Tryz.prog G.tab) Go.Proofs.Tryz.f108 [a0] m = Qjn G a0 m :=
  evFn_of (r := fun ρ m => Qjn G (ρ 0) m) rfl rfl (tr (seqQ (f := fun ρ m => Qqr G (ρ 0) (ρ 2) m) (tr (seqQ (f := fun ρ m => Qey G (ρ 0) (ρ 2) m) (tr (seqQ (f := fun ρ m => Qex G (ρ 0) (ρ 2) m) (tr (seqQ (f := fun ρ m => Qew G (ρ 2) (ρ 0) m) (fun ρ m => by kernel_rfl)) (fun ρ m => by kernel_rfl))) (fun ρ m => by kernel_rfl))) (fun ρ m => by kernel_rfl))) (fun ρ m => by kernel_rfl)) m
def Q174 : Entry Go.Proofs.Tryz.prog := ⟨Quc, Go.Proofs.Tryz.f108, Go.Proofs.Tryz.func108, by kernel_rfl, arg1 (fun G a0 m => Qjn G a0 m), okarg1 Q173⟩
def Qzl (G : Gt) (m : Mem) : Option Rs :=
  some ((.bool true), m)
def Q63 (G : Gt) (k0 : Value → Value → Value → Mem → Option Rs) (p55 p16 p15 p14 : Value) (m : Mem) : Option Rs :=
  brb p55
    (some ((.bool false), m))
    (bp (pur (bin .add true true .int p16 (.int .i64 1)) m) fun x0 m =>
  k0 x0 p15 p14 m)
def Q8d (G : Gt) (k0 : Value → Value → Value → Mem → Option Rs) (p5 p3 p4 p16 p15 p14 : Value) (m : Mem) : Option Rs :=
  bp (pur (un .not p5) m) fun x1 m =>
  brb x1
    (bp (pur (bin .eql true true .int p3 (.int .i64 0)) m) fun x2 m =>
  brb x2
    (Q63 G k0 (.bool true) p16 p15 p14 m)
    (bp (pur (bin .leq true true .int (.int .u8 48) p4) m) fun x3 m =>
  brb x3
    (bp (pur (bin .leq true true .int p4 (.int .u8 57)) m) fun x4 m =>
  bp (pur (un .not x4) m) fun x5 m =>
  brb x5
    (bp (conv .intStr p4 m) fun x6 m =>
  bp (G.tab Qso [(.string ⟨#[45, 95, 46, 47]⟩), x6] m) fun x7 m =>
  bp (pur (un .not x7) m) fun x8 m =>
  Q63 G k0 x8 p16 p15 p14 m)
    (Q63 G k0 (.bool false) p16 p15 p14 m))
    (bp (pur (un .not (.bool false)) m) fun x9 m =>
  brb x9
    (bp (conv .intStr p4 m) fun x10 m =>
  bp (G.tab Qso [(.string ⟨#[45, 95, 46, 47]⟩), x10] m) fun x11 m =>
  bp (pur (un .not x11) m) fun x12 m =>
  Q63 G k0 x12 p16 p15 p14 m)
    (Q63 G k0 (.bool false) p16 p15 p14 m))))
    (Q63 G k0 (.bool false) p16 p15 p14 m)
def Qzm (G : Gt) (k0 : Value → Value → Value → Mem → Option Rs) (p4 p3 p16 p15 p14 : Value) (m : Mem) : Option Rs :=
  bp (pur (bin .leq true true .int (.int .u8 97) p4) m) fun x13 m =>
  brb x13
    (bp (pur (bin .leq true true .int p4 (.int .u8 122)) m) fun x14 m =>
  brb x14
    (Q8d G k0 (.bool true) p3 p4 p16 p15 p14 m)
    (bp (pur (bin .leq true true .int (.int .u8 65) p4) m) fun x15 m =>
  brb x15
    (bp (pur (bin .leq true true .int p4 (.int .u8 90)) m) fun x16 m =>
  Q8d G k0 x16 p3 p4 p16 p15 p14 m)
    (Q8d G k0 (.bool false) p3 p4 p16 p15 p14 m)))
    (bp (pur (bin .leq true true .int (.int .u8 65) p4) m) fun x17 m =>
  brb x17
    (bp (pur (bin .leq true true .int p4 (.int .u8 90)) m) fun x18 m =>
  Q8d G k0 x18 p3 p4 p16 p15 p14 m)
    (Q8d G k0 (.bool false) p3 p4 p16 p15 p14 m))
def Qzn (G : Gt) (k0 : Value → Value → Value → Mem → Option Rs) (p16 p14 p15 : Value) (m : Mem) : Option Rs :=
  bp (pur (aIndexAddrSl 1 p14 p16) m) fun x19 m =>
  bp (pur (aLoad false 1 x19 m) m) fun x20 m =>
  Qzm G k0 x20 p16 p16 p15 p14 m
def Qzo (G : Gt) (k0 : Value → Value → Value → Mem → Option Rs) (p17 p16 p14 p15 : Value) (m : Mem) : Option Rs :=
  brb p17
    (Qzn G k0 p16 p14 p15 m)
    (Qzl G m)
def Q4l (G : Gt) : Nat → Value → Value → Value → Mem → Option Rs
  | 0, _, _, _, _ => none
  | i + 1, p16, p15, p14, m =>
  bp (pur (bin .lss false true .int p16 p15) m) fun x21 m =>
  Qzo G (Q4l G i) x21 p16 p14 p15 m
def Qzp (G : Gt) (p16 p15 p14 : Value) (m : Mem) : Option Rs :=
  Q4l G G.rds p16 p15 p14 m
def Qzq (G : Gt) (p0 : Value) (m : Mem) : Option Rs :=
  bp (conv .bytes p0 m) fun x22 m =>
  bp (pur (lenK 1 x22 m) m) fun x23 m =>
  Qzp G (.int .i64 0) x23 x22 m
def Qoe (G : Gt) (p12 p0 : Value) (m : Mem) : Option Rs :=
  brb p12
    (some ((.bool false), m))
    (Qzq G p0 m)
def Qzr (G : Gt) (p0 : Value) (m : Mem) : Option Rs :=
  bp (pur (bin .eql true true .str p0 (.string ⟨#[]⟩)) m) fun x24 m =>
  brb x24
    (Qoe G (.bool true) p0 m)
    (bp (pur (lenK 0 p0 m) m) fun x25 m =>
  bp (pur (bin .gtr true true .int x25 (.int .i64 32)) m) fun x26 m =>
  Qoe G x26 p0 m)
def Qvl (G : Gt) (p0 : Value) (m : Mem) : Option Rs :=
  Qzr G p0 m
theorem Q1bd (G : Gt) (a0 : Value) (m : Mem) : evFn Go.Proofs.Tryz.prog G.tab G.rds (drOf Go.Proofs.Tryz.prog G.tab) Go.Proofs.Tryz.f109 [a0] m = Qvl G a0 m :=
  evFn_of (r := fun ρ m => Qvl G (ρ 0) m) rfl rfl (tr (seqQ (f := fun ρ m => Qzr G (ρ 0) m) (tr (tr (seqQ (f := fun ρ m => Qzq G (ρ 0) m) (tr (tr (seqQ (f := fun ρ m => Qzl G m) (fun ρ m => by kernel_rfl)) (seqQ (f := fun ρ m => Qzp G (ρ 16) (ρ 15) (ρ 14) m) (tr (blockQ (loopQ (fun i ρ m => Q4l G i (ρ 16) (ρ 15) (ρ 14) m) (fun _ _ => rfl) (fun i0 => tr (seqQ (f := fun ρ m => Qzo G (Q4l G i0) (ρ 17) (ρ 16) (ρ 14) (ρ 15) m) (tr (seqQ (f := fun ρ m => Qzn G (Q4l G i0) (ρ 16) (ρ 14) (ρ 15) m) (tr (tr seqD (blockQ (seqQ (f := fun ρ m => Qzm G (Q4l G i0) (ρ 4) (ρ 3) (ρ 16) (ρ 15) (ρ 14) m) (tr (seqQ (f := fun ρ m => Q8d G (Q4l G i0) (ρ 5) (ρ 3) (ρ 4) (ρ 16) (ρ 15) (ρ 14) m) (tr (seqQ (f := fun ρ m => Q63 G (Q4l G i0) (ρ 55) (ρ 16) (ρ 15) (ρ 14) m) (fun ρ m => by kernel_rfl)) (fun ρ m => by kernel_rfl))) (fun ρ m => by kernel_rfl))))) (fun ρ m => by kernel_rfl))) (fun ρ m => by kernel_rfl))) (fun ρ m => by kernel_rfl)))) (fun ρ m => by kernel_rfl)))) (fun ρ m => by kernel_rfl))) (seqQ (f := fun ρ m => Qoe G (ρ 12) (ρ 0) m) (fun ρ m => by kernel_rfl))) (fun ρ m => by kernel_rfl))) (fun ρ m => by kernel_rfl)) m
def Q1be : Entry Go.Proofs.Tryz.prog := ⟨Q6r, Go.Proofs.Tryz.f109, Go.Proofs.Tryz.func109, by kernel_rfl, arg1 (fun G a0 m => Qvl G a0 m), okarg1 Q1bd⟩
def Qof (G : Gt) (p0 : Value) (m : Mem) : Option Rs :=
  bp (some (aNew Qq (Value.cells p0).toList m)) fun x0 m =>
  bp (pur (aLoad true 12 x0 m) m) fun x1 m =>
  bp (G.tab Qzs [x1] m) fun x2 m =>
  bp (some (aNew Q6s Qvm m)) fun x3 m =>
  bp (unt (aStore 5 x3 x2 m)) fun _ m =>
  bp (pur (aFieldAddr 2 x0) m) fun x4 m =>
  bp (pur (aLoad false 1 x4 m) m) fun x5 m =>
  bp (pur (lenK 1 x5 m) m) fun x6 m =>
  bp (pur (aBuild Q2v [(0, 1), (1, 1), (2, 1), (3, 1)] [(0, (.string ⟨#[118, 114, 102]⟩)), (1, x6), (2, (.int .i64 256)), (3, (.func (.func Qud) ⟨[]⟩ ⟨[x0]⟩))]) m) fun x7 m =>
  bp (pur (aFieldAddr 3 x0) m) fun x8 m =>
  bp (pur (aLoad false 1 x8 m) m) fun x9 m =>
  bp (pur (lenK 1 x9 m) m) fun x10 m =>
  bp (pur (aBuild Q2v [(0, 1), (1, 1), (2, 1), (3, 1)] [(0, (.string ⟨#[105, 102, 97, 99, 101]⟩)), (1, x10), (2, (.int .i64 64)), (3, (.func (.func Que) ⟨[]⟩ ⟨[x3, x0]⟩))]) m) fun x11 m =>
  bp (pur (aFieldAddr 4 x0) m) fun x12 m =>
  bp (pur (aLoad false 1 x12 m) m) fun x13 m =>
  bp (pur (lenK 1 x13 m) m) fun x14 m =>
  bp (pur (aBuild Q2v [(0, 1), (1, 1), (2, 1), (3, 1)] [(0, (.string ⟨#[102, 105, 108, 116, 101, 114]⟩)), (1, x14), (2, (.int .i64 256)), (3, (.func (.func Quf) ⟨[]⟩ ⟨[x0]⟩))]) m) fun x15 m =>
  bp (pur (aFieldAddr 5 x0) m) fun x16 m =>
  bp (pur (aLoad false 1 x16 m) m) fun x17 m =>
  bp (pur (lenK 1 x17 m) m) fun x18 m =>
  bp (pur (aBuild Q2v [(0, 1), (1, 1), (2, 1), (3, 1)] [(0, (.string ⟨#[114, 101, 119, 114, 105, 116, 101]⟩)), (1, x18), (2, (.int .i64 256)), (3, (.func (.func Qug) ⟨[]⟩ ⟨[x0, x3]⟩))]) m) fun x19 m =>
  bp (pur (aFieldAddr 6 x0) m) fun x20 m =>
  bp (pur (aLoad false 1 x20 m) m) fun x21 m =>
  bp (pur (lenK 1 x21 m) m) fun x22 m =>
  bp (pur (aBuild Q2v [(0, 1), (1, 1), (2, 1), (3, 1)] [(0, (.string ⟨#[115, 116, 97, 116, 105, 99]⟩)), (1, x22), (2, (.int .i64 256)), (3, (.func (.func Quh) ⟨[]⟩ ⟨[x3, x0]⟩))]) m) fun x23 m =>
  bp (pur (aFieldAddr 7 x0) m) fun x24 m =>
  bp (pur (aLoad false 1 x24 m) m) fun x25 m =>
  bp (pur (lenK 1 x25 m) m) fun x26 m =>
  bp (pur (aBuild Q2v [(0, 1), (1, 1), (2, 1), (3, 1)] [(0, (.string ⟨#[112, 114, 101, 102, 105, 120, 101, 115]⟩)), (1, x26), (2, (.int .i64 256)), (3, (.func (.func Qui) ⟨[]⟩ ⟨[x0]⟩))]) m) fun x27 m =>
  bp (pur (aFieldAddr 8 x0) m) fun x28 m =>
  bp (pur (aLoad false 1 x28 m) m) fun x29 m =>
  bp (pur (lenK 1 x29 m) m) fun x30 m =>
  bp (pur (aBuild Q2v [(0, 1), (1, 1), (2, 1), (3, 1)] [(0, (.string ⟨#[99, 111, 109, 109, 117, 110, 105, 116, 105, 101, 115]⟩)), (1, x30), (2, (.int .i64 256)), (3, (.func (.func Quj) ⟨[]⟩ ⟨[x0]⟩))]) m) fun x31 m =>
  bp (pur (aFieldAddr 9 x0) m) fun x32 m =>
  bp (pur (aLoad false 1 x32 m) m) fun x33 m =>
  bp (pur (lenK 1 x33 m) m) fun x34 m =>
  bp (pur (aBuild Q2v [(0, 1), (1, 1), (2, 1), (3, 1)] [(0, (.string ⟨#[112, 111, 108, 105, 99, 121]⟩)), (1, x34), (2, (.int .i64 256)), (3, (.func (.func Quk) ⟨[]⟩ ⟨[x3, x0]⟩))]) m) fun x35 m =>
  bp (pur (aFieldAddr 10 x0) m) fun x36 m =>
  bp (pur (aLoad false 1 x36 m) m) fun x37 m =>
  bp (pur (lenK 1 x37 m) m) fun x38 m =>
  bp (pur (aBuild Q2v [(0, 1), (1, 1), (2, 1), (3, 1)] [(0, (.string ⟨#[111, 115, 112, 102]⟩)), (1, x38), (2, (.int .i64 256)), (3, (.func (.func Qul) ⟨[]⟩ ⟨[x3, x0]⟩))]) m) fun x39 m =>
  bp (pur (aFieldAddr 11 x0) m) fun x40 m =>
  bp (pur (aLoad false 1 x40 m) m) fun x41 m =>
  bp (pur (lenK 1 x41 m) m) fun x42 m =>
  bp (pur (aBuild Q2v [(0, 1), (1, 1), (2, 1), (3, 1)] [(0, (.string ⟨#[98, 103, 112]⟩)), (1, x42), (2, (.int .i64 256)), (3, (.func (.func Qsp) ⟨[]⟩ ⟨[x3, x0]⟩))]) m) fun x43 m =>
  bp (aBuildSlice Q157 Q2v 4 10 [(0, x7), (1, x11), (2, x15), (3, x19), (4, x23), (5, x27), (6, x31), (7, x35), (8, x39), (9, x43)] m) fun x44 m =>
  some (x44, m)
theorem Q18u (G : Gt) (a0 : Value) (m : Mem) : evFn Go.Proofs.Tryz.prog G.tab G.rds (drOf Go.Proofs.Tryz.prog G.tab) Go.Proofs.Tryz.f110 [a0] m = Qof G a0 m :=
  evFn_of (r := fun ρ m => Qof G (ρ 0) m) rfl rfl (fun ρ m => by kernel_rfl) m
def Q18v : Entry Go.Proofs.Tryz.prog := ⟨Qx4, Go.Proofs.Tryz.f110, Go.Proofs.Tryz.func110, by kernel_rfl, arg1 (fun G a0 m => Qof G a0 m), okarg1 Q18u⟩
def Q64 (G : Gt) (p0 : Value) (m : Mem) : Option Rs :=
  bp (pur (aNilCheck p0) m) fun x0 m =>
  bp (pur (aFieldAddr 0 x0) m) fun x1 m =>
  bp (pur (aLoad false 1 x1 m) m) fun x2 m =>
  bp (pur (binP m .eql true true .ptr x2 (.pointer none)) m) fun x3 m =>
  brb x3
    (bp (conv (.toU 2) p0 m) fun x4 m =>
  bp (G.tab Qik [x4] m) fun x5 m =>
  bp (conv (.fromU (liesF Go.Proofs.Tryz.prog Q175)) x5 m) fun x6 m =>
  bp (pur (aNilCheck p0) m) fun x7 m =>
  bp (pur (aFieldAddr 0 x7) m) fun x8 m =>
  bp (unt (aStore 1 x8 x6 m)) fun _ m =>
  some (.tuple ⟨[]⟩, m))
    (bp (pur (aNilCheck p0) m) fun x9 m =>
  bp (pur (aFieldAddr 0 x9) m) fun x10 m =>
  bp (pur (aLoad false 1 x10 m) m) fun x11 m =>
  bp (pur (binP m .neq false true .ptr x11 p0) m) fun x12 m =>
  brb x12
    (none)
    (some (.tuple ⟨[]⟩, m)))
theorem Qrs (G : Gt) (a0 : Value) (m : Mem) : evFn Go.Proofs.Tryz.prog G.tab G.rds (drOf Go.Proofs.Tryz.prog G.tab) Go.Proofs.Tryz.f111 [a0] m = Q64 G a0 m :=
  evFn_of (r := fun ρ m => Q64 G (ρ 0) m) rfl rfl (fun ρ m => by kernel_rfl) m
def Qrt : Entry Go.Proofs.Tryz.prog := ⟨Q65, Go.Proofs.Tryz.f111, Go.Proofs.Tryz.func111, by kernel_rfl, arg1 (fun G a0 m => Q64 G a0 m), okarg1 Qrs⟩
def Qth (G : Gt) (p0 : Value) (m : Mem) : Option Rs :=
  bp (pur (bin .sub true true .int (.int .i64 32) p0) m) fun x0 m =>
  bp (pur (bin .shl true true .int (.int .u64 1) x0) m) fun x1 m =>
  bp (pur (bin .sub true true .int x1 (.int .u64 1)) m) fun x2 m =>
  bp (conv (.int .u32) x2 m) fun x3 m =>
  some (x3, m)
theorem Q1ak (G : Gt) (a0 : Value) (m : Mem) : evFn Go.Proofs.Tryz.prog G.tab G.rds (drOf Go.Proofs.Tryz.prog G.tab) Go.Proofs.Tryz.f114 [a0] m = Qth G a0 m :=
  evFn_of (r := fun ρ m => Qth G (ρ 0) m) rfl rfl (fun ρ m => by kernel_rfl) m
def Q1al : Entry Go.Proofs.Tryz.prog := ⟨Qm7, Go.Proofs.Tryz.f114, Go.Proofs.Tryz.func114, by kernel_rfl, arg1 (fun G a0 m => Qth G a0 m), okarg1 Q1ak⟩
def Qvn (G : Gt) (p0 : Value) (m : Mem) : Option Rs :=
  bp (pur (bin .shr true true .int p0 (.int .u64 16)) m) fun x0 m =>
  bp (conv (.int .i64) x0 m) fun x1 m =>
  bp (G.tab Q26 [x1] m) fun x2 m =>
  bp (pur (bin .add true true .str x2 (.string ⟨#[58]⟩)) m) fun x3 m =>
  bp (pur (bin .and true true .int p0 (.int .u32 65535)) m) fun x4 m =>
  bp (conv (.int .i64) x4 m) fun x5 m =>
  bp (G.tab Q26 [x5] m) fun x6 m =>
  bp (pur (bin .add false true .str x3 x6) m) fun x7 m =>
  some (x7, m)
theorem Q1bf (G : Gt) (a0 : Value) (m : Mem) : evFn Go.Proofs.Tryz.prog G.tab G.rds (drOf Go.Proofs.Tryz.prog G.tab) Go.Proofs.Tryz.f115 [a0] m = Qvn G a0 m :=
  evFn_of (r := fun ρ m => Qvn G (ρ 0) m) rfl rfl (fun ρ m => by kernel_rfl) m
def Q1bg : Entry Go.Proofs.Tryz.prog := ⟨Qvo, Go.Proofs.Tryz.f115, Go.Proofs.Tryz.func115, by kernel_rfl, arg1 (fun G a0 m => Qvn G a0 m), okarg1 Q1bf⟩
def Qil (G : Gt) (p0 p3 : Value) (m : Mem) : Option Rs :=
  bp (pur (bin .add true true .int (.int .u64 48) p0) m) fun x0 m =>
  bp (conv (.int .u8) x0 m) fun x1 m =>
  bp (aBuildSlice Q3a [(.int .u8 0)] 1 1 [(0, x1)] m) fun x2 m =>
  bp (conv .str x2 m) fun x3 m =>
  bp (pur (bin .add false true .str x3 p3) m) fun x4 m =>
  some (x4, m)
def Q99 (G : Gt) : Nat → Value → Value → Mem → Option Rs
  | 0, _, _, _ => none
  | i + 1, p0, p3, m =>
  bp (pur (bin .gtr true true .int p0 (.int .u64 9)) m) fun x5 m =>
  brb x5
    (bp (pur (bin .rem true true .int p0 (.int .u64 10)) m) fun x6 m =>
  bp (pur (bin .add true true .int (.int .u64 48) x6) m) fun x7 m =>
  bp (conv (.int .u8) x7 m) fun x8 m =>
  bp (aBuildSlice Q3a [(.int .u8 0)] 1 1 [(0, x8)] m) fun x9 m =>
  bp (conv .str x9 m) fun x10 m =>
  bp (pur (bin .add false true .str x10 p3) m) fun x11 m =>
  bp (pur (bin .quo true true .int p0 (.int .u64 10)) m) fun x12 m =>
  (Q99 G i) x12 x11 m)
    (Qil G p0 p3 m)
def Qim (G : Gt) (p0 p3 : Value) (m : Mem) : Option Rs :=
  Q99 G G.rds p0 p3 m
def Qin (G : Gt) (p0 : Value) (m : Mem) : Option Rs :=
  Qim G p0 (.string ⟨#[]⟩) m
def Qb9 (G : Gt) (p0 : Value) (m : Mem) : Option Rs :=
  Qin G p0 m
theorem Qzt (G : Gt) (a0 : Value) (m : Mem) : evFn Go.Proofs.Tryz.prog G.tab G.rds (drOf Go.Proofs.Tryz.prog G.tab) Go.Proofs.Tryz.f116 [a0] m = Qb9 G a0 m :=
  evFn_of (r := fun ρ m => Qb9 G (ρ 0) m) rfl rfl (tr (seqQ (f := fun ρ m => Qin G (ρ 0) m) (tr (seqQ (f := fun ρ m => Qim G (ρ 0) (ρ 3) m) (tr (tr (seqQ (f := fun ρ m => Qil G (ρ 0) (ρ 3) m) (fun ρ m => by kernel_rfl)) (blockQ (loopQ (fun i ρ m => Q99 G i (ρ 0) (ρ 3) m) (fun _ _ => rfl) (fun i0 => fun ρ m => by kernel_rfl)))) (fun ρ m => by kernel_rfl))) (fun ρ m => by kernel_rfl))) (fun ρ m => by kernel_rfl)) m
def Qzu : Entry Go.Proofs.Tryz.prog := ⟨Qba, Go.Proofs.Tryz.f116, Go.Proofs.Tryz.func116, by kernel_rfl, arg1 (fun G a0 m => Qb9 G a0 m), okarg1 Qzt⟩
def Qog (G : Gt) (p0 p1 : Value) (m : Mem) : Option Rs :=
  bp (G.tab Q66 [p0, p1] m) fun x0 m =>
  some (x0, m)
theorem Q18w (G : Gt) (a0 a1 : Value) (m : Mem) : evFn Go.Proofs.Tryz.prog G.tab G.rds (drOf Go.Proofs.Tryz.prog G.tab) Go.Proofs.Tryz.f119 [a0, a1] m = Qog G a0 a1 m :=
  evFn_of (r := fun ρ m => Qog G (ρ 0) (ρ 1) m) rfl rfl (fun ρ m => by kernel_rfl) m
def Q18x : Entry Go.Proofs.Tryz.prog := ⟨Qx5, Go.Proofs.Tryz.f119, Go.Proofs.Tryz.func119, by kernel_rfl, arg2 (fun G a0 a1 m => Qog G a0 a1 m), okarg2 Q18w⟩
def Q67 (G : Gt) (p0 p1 : Value) (m : Mem) : Option Rs :=
  bp (pur (aNilCheck p0) m) fun x0 m =>
  bp (pur (aIndexAddrArr 256 1 x0 p1) m) fun x1 m =>
  bp (pur (aLoad false 1 x1 m) m) fun x2 m =>
  some (x2, m)
theorem Qru (G : Gt) (a0 a1 : Value) (m : Mem) : evFn Go.Proofs.Tryz.prog G.tab G.rds (drOf Go.Proofs.Tryz.prog G.tab) Go.Proofs.Tryz.f120 [a0, a1] m = Q67 G a0 a1 m :=
  evFn_of (r := fun ρ m => Q67 G (ρ 0) (ρ 1) m) rfl rfl (fun ρ m => by kernel_rfl) m
def Qrv : Entry Go.Proofs.Tryz.prog := ⟨Q68, Go.Proofs.Tryz.f120, Go.Proofs.Tryz.func120, by kernel_rfl, arg2 (fun G a0 a1 m => Q67 G a0 a1 m), okarg2 Qru⟩
def Qzv (G : Gt) (p5 : Value) (m : Mem) : Option Rs :=
  some (.tuple ⟨[p5, (.int .i64 0)]⟩, m)
def Qrw (G : Gt) : Nat → Value → Value → Value → Mem → Option Rs
  | 0, _, _, _, _ => none
  | i + 1, p14, p4, p5, m =>
  bp (pur (bin .lss true true .int p14 (.int .i64 4)) m) fun x0 m =>
  brb x0
    (bp (pur (aIndexAddrSl 1 p4 p14) m) fun x1 m =>
  bp (pur (aLoad false 1 x1 m) m) fun x2 m =>
  bp (G.tab Qti [x2, (.int .i64 255)] m) fun x3 m =>
  bp (pur (aExtract x3 0) m) fun x4 m =>
  bp (pur (aExtract x3 1) m) fun x5 m =>
  bp (pur (un .not x5) m) fun x6 m =>
  brb x6
    (some (.tuple ⟨[(.int .u32 0), (.int .i64 4)]⟩, m))
    (bp (pur (bin .shl true true .int p5 (.int .u64 8)) m) fun x7 m =>
  bp (conv (.int .u32) x4 m) fun x8 m =>
  bp (pur (bin .or false true .int x7 x8) m) fun x9 m =>
  bp (pur (bin .add true true .int p14 (.int .i64 1)) m) fun x10 m =>
  (Qrw G i) x10 p4 x9 m))
    (Qzv G p5 m)
def Qzw (G : Gt) (p14 p4 p5 : Value) (m : Mem) : Option Rs :=
  Qrw G G.rds p14 p4 p5 m
def Qzx (G : Gt) (p4 p5 : Value) (m : Mem) : Option Rs :=
  Qzw G (.int .i64 0) p4 p5 m
def Qzy (G : Gt) (p4 : Value) (m : Mem) : Option Rs :=
  Qzx G p4 (.int .u32 0) m
def Qzz (G : Gt) (p4 : Value) (m : Mem) : Option Rs :=
  bp (pur (lenK 1 p4 m) m) fun x11 m =>
  bp (pur (bin .neq true true .int x11 (.int .i64 4)) m) fun x12 m =>
  brb x12
    (some (.tuple ⟨[(.int .u32 0), (.int .i64 4)]⟩, m))
    (Qzy G p4 m)
def Q100 (G : Gt) (p0 : Value) (m : Mem) : Option Rs :=
  bp (G.tab Qoh [p0, (.string ⟨#[46]⟩)] m) fun x13 m =>
  Qzz G x13 m
def Qvp (G : Gt) (p0 : Value) (m : Mem) : Option Rs :=
  Q100 G p0 m
theorem Q1bh (G : Gt) (a0 : Value) (m : Mem) : evFn Go.Proofs.Tryz.prog G.tab G.rds (drOf Go.Proofs.Tryz.prog G.tab) Go.Proofs.Tryz.f125 [a0] m = Qvp G a0 m :=
  evFn_of (r := fun ρ m => Qvp G (ρ 0) m) rfl rfl (tr (seqQ (f := fun ρ m => Q100 G (ρ 0) m) (tr (seqQ (f := fun ρ m => Qzz G (ρ 4) m) (tr (seqQ (f := fun ρ m => Qzy G (ρ 4) m) (tr (seqQ (f := fun ρ m => Qzx G (ρ 4) (ρ 5) m) (tr (tr (seqQ (f := fun ρ m => Qzv G (ρ 5) m) (fun ρ m => by kernel_rfl)) (seqQ (f := fun ρ m => Qzw G (ρ 14) (ρ 4) (ρ 5) m) (tr (blockQ (loopQ (fun i ρ m => Qrw G i (ρ 14) (ρ 4) (ρ 5) m) (fun _ _ => rfl) (fun i0 => fun ρ m => by kernel_rfl))) (fun ρ m => by kernel_rfl)))) (fun ρ m => by kernel_rfl))) (fun ρ m => by kernel_rfl))) (fun ρ m => by kernel_rfl))) (fun ρ m => by kernel_rfl))) (fun ρ m => by kernel_rfl)) m
def Q1bi : Entry Go.Proofs.Tryz.prog := ⟨Qvq, Go.Proofs.Tryz.f125, Go.Proofs.Tryz.func125, by kernel_rfl, arg1 (fun G a0 m => Qvp G a0 m), okarg1 Q1bh⟩
def Qyi (G : Gt) (p0 : Value) (m : Mem) : Option Rs :=
  bp (pur (un .xor p0) m) fun x0 m =>
  bp (G.tab Qe6 [x0] m) fun x1 m =>
  bp (G.tab Qm7 [x1] m) fun x2 m =>
  bp (pur (un .xor x2) m) fun x3 m =>
  bp (pur (bin .neq false true .int x3 p0) m) fun x4 m =>
  brb x4
    (some (.tuple ⟨[(.int .i64 0), (.int .i64 10)]⟩, m))
    (some (.tuple ⟨[x1, (.int .i64 0)]⟩, m))
theorem Q1cq (G : Gt) (a0 : Value) (m : Mem) : evFn Go.Proofs.Tryz.prog G.tab G.rds (drOf Go.Proofs.Tryz.prog G.tab) Go.Proofs.Tryz.f126 [a0] m = Qyi G a0 m :=
  evFn_of (r := fun ρ m => Qyi G (ρ 0) m) rfl rfl (fun ρ m => by kernel_rfl) m
def Q1cr : Entry Go.Proofs.Tryz.prog := ⟨Q187, Go.Proofs.Tryz.f126, Go.Proofs.Tryz.func126, by kernel_rfl, arg1 (fun G a0 m => Qyi G a0 m), okarg1 Q1cq⟩
def Qrx (G : Gt) (p3 p1 : Value) (m : Mem) : Option Rs :=
  brb p3
    (some ((.int .i64 1), m))
    (bp (pur (aFieldAddr 0 p1) m) fun x0 m =>
  bp (pur (aLoad false 1 x0 m) m) fun x1 m =>
  bp (pur (aFieldAddr 1 p1) m) fun x2 m =>
  bp (pur (aLoad false 1 x2 m) m) fun x3 m =>
  bp (G.tab Qm7 [x3] m) fun x4 m =>
  ckB (again (pur (aLoad false 1 x0 m) m) x1 && true)
    (bp (pur (bin .and false true .int x1 x4) m) fun x5 m =>
  bp (pur (bin .neq true true .int x5 (.int .u32 0)) m) fun x6 m =>
  brb x6
    (some ((.int .i64 10), m))
    (some ((.int .i64 0), m))))
def Q101 (G : Gt) (p1 : Value) (m : Mem) : Option Rs :=
  bp (pur (aFieldAddr 1 p1) m) fun x7 m =>
  bp (pur (aLoad false 1 x7 m) m) fun x8 m =>
  bp (pur (bin .lss true true .int x8 (.int .i64 0)) m) fun x9 m =>
  brb x9
    (Qrx G (.bool true) p1 m)
    (bp (pur (aFieldAddr 1 p1) m) fun x10 m =>
  bp (pur (aLoad false 1 x10 m) m) fun x11 m =>
  bp (pur (bin .gtr true true .int x11 (.int .i64 32)) m) fun x12 m =>
  Qrx G x12 p1 m)
def Qvr (G : Gt) (p0 : Value) (m : Mem) : Option Rs :=
  bp (some (aNew Q1d (Value.cells p0).toList m)) fun x13 m =>
  Q101 G x13 m
theorem Q1bj (G : Gt) (a0 : Value) (m : Mem) : evFn Go.Proofs.Tryz.prog G.tab G.rds (drOf Go.Proofs.Tryz.prog G.tab) Go.Proofs.Tryz.f127 [a0] m = Qvr G a0 m :=
  evFn_of (r := fun ρ m => Qvr G (ρ 0) m) rfl rfl (tr (seqQ (f := fun ρ m => Q101 G (ρ 1) m) (tr (tr seqD (blockQ (seqQ (f := fun ρ m => Qrx G (ρ 3) (ρ 1) m) (fun ρ m => by kernel_rfl)))) (fun ρ m => by kernel_rfl))) (fun ρ m => by kernel_rfl)) m
def Q1bk : Entry Go.Proofs.Tryz.prog := ⟨Q6t, Go.Proofs.Tryz.f127, Go.Proofs.Tryz.func127, by kernel_rfl, arg1 (fun G a0 m => Qvr G a0 m), okarg1 Q1bj⟩
def Qez (G : Gt) (p0 : Value) (m : Mem) : Option Rs :=
  bp (some (aNew Q1d Q19 m)) fun x0 m =>
  bp (G.tab Qd [p0, (.string ⟨#[97, 110, 121]⟩)] m) fun x1 m =>
  brb x1
    (bp (pur (aBuild Q19 [(0, 1), (1, 1)] []) m) fun x2 m =>
  bp (unt (aStore 2 x0 x2 m)) fun _ m =>
  ob (ob (aLoad true 2 x0 m) fun v => ob (some []) fun l => some (v :: l)) fun l => some (resVal l, m))
    (bp (G.tab Qd [p0, (.string ⟨#[104, 111, 115, 116]⟩)] m) fun x3 m =>
  brb x3
    (bp (G.tab Qt [p0] m) fun x4 m =>
  bp (pur (aBuild Q19 [(0, 1), (1, 1)] [(0, x4), (1, (.int .i64 32))]) m) fun x5 m =>
  bp (unt (aStore 2 x0 x5 m)) fun _ m =>
  ob (ob (aLoad true 2 x0 m) fun v => ob (some []) fun l => some (v :: l)) fun l => some (resVal l, m))
    (bp (G.tab Qt [p0] m) fun x6 m =>
  bp (G.tab Q5v [p0, (.bool true)] m) fun x7 m =>
  bp (G.tab Q9z [p0, x6, x7] m) fun x8 m =>
  bp (unt (aStore 2 x0 x8 m)) fun _ m =>
  ob (ob (aLoad true 2 x0 m) fun v => ob (some []) fun l => some (v :: l)) fun l => some (resVal l, m)))
theorem Q13y (G : Gt) (a0 : Value) (m : Mem) : evFn Go.Proofs.Tryz.prog G.tab G.rds (drOf Go.Proofs.Tryz.prog G.tab) Go.Proofs.Tryz.f128 [a0] m = Qez G a0 m :=
  evFn_of (r := fun ρ m => Qez G (ρ 0) m) rfl rfl (fun ρ m => by kernel_rfl) m
def Q13z : Entry Go.Proofs.Tryz.prog := ⟨Qf0, Go.Proofs.Tryz.f128, Go.Proofs.Tryz.func128, by kernel_rfl, arg1 (fun G a0 m => Qez G a0 m), okarg1 Q13y⟩
end
end Go.Ab.Sh

set_option linter.unusedVariables false
set_option maxRecDepth 100000
namespace Go.Ab.Sh
open Go Go.Ab
noncomputable section
def Qa6 (G : Gt) (p9 p5 p4 p0 : Value) (m : Mem) : Option Rs :=
  brb p9
    (bp (pur (aLoad true 2 p5 m) m) fun x0 m =>
  bp (unt (aStore 2 p4 x0 m)) fun _ m =>
  ob (ob (aLoad true 2 p4 m) fun v => ob (some []) fun l => some (v :: l)) fun l => some (resVal l, m))
    (bp (G.tab Qd [p0, (.string ⟨#[101, 113]⟩)] m) fun x1 m =>
  brb x1
    (bp (G.tab Q3 [p0, (.int .i64 0), (.int .i64 65535)] m) fun x2 m =>
  bp (conv (.int .u32) x2 m) fun x3 m =>
  bp (pur (aBuild Qoi [(0, 1), (1, 1)] [(0, x3), (1, x3)]) m) fun x4 m =>
  bp (unt (aStore 2 p4 x4 m)) fun _ m =>
  ob (ob (aLoad true 2 p4 m) fun v => ob (some []) fun l => some (v :: l)) fun l => some (resVal l, m))
    (bp (G.tab Qd [p0, (.string ⟨#[114, 97, 110, 103, 101]⟩)] m) fun x5 m =>
  brb x5
    (bp (G.tab Q3 [p0, (.int .i64 0), (.int .i64 65535)] m) fun x6 m =>
  bp (conv (.int .u32) x6 m) fun x7 m =>
  bp (G.tab Q3 [p0, x6, (.int .i64 65535)] m) fun x8 m =>
  bp (conv (.int .u32) x8 m) fun x9 m =>
  bp (pur (aBuild Qoi [(0, 1), (1, 1)] [(0, x7), (1, x9)]) m) fun x10 m =>
  bp (unt (aStore 2 p4 x10 m)) fun _ m =>
  ob (ob (aLoad true 2 p4 m) fun v => ob (some []) fun l => some (v :: l)) fun l => some (resVal l, m))
    (bp (pur (aLoad true 2 p5 m) m) fun x11 m =>
  bp (unt (aStore 2 p4 x11 m)) fun _ m =>
  ob (ob (aLoad true 2 p4 m) fun v => ob (some []) fun l => some (v :: l)) fun l => some (resVal l, m))))
def Qks (G : Gt) (p1 p5 p4 p0 : Value) (m : Mem) : Option Rs :=
  bp (pur (bin .neq true true .int p1 (.int .i64 6)) m) fun x12 m =>
  brb x12
    (bp (pur (bin .neq true true .int p1 (.int .i64 17)) m) fun x13 m =>
  Qa6 G x13 p5 p4 p0 m)
    (Qa6 G (.bool false) p5 p4 p0 m)
def Qkt (G : Gt) (p1 p4 p0 : Value) (m : Mem) : Option Rs :=
  bp (pur (aBuild Qoi [(0, 1), (1, 1)] [(1, (.int .u32 65535))]) m) fun x14 m =>
  bp (some (aNew Quz Qoi m)) fun x15 m =>
  bp (unt (aStore 2 x15 x14 m)) fun _ m =>
  Qks G p1 x15 p4 p0 m
def Qda (G : Gt) (p1 p0 : Value) (m : Mem) : Option Rs :=
  bp (some (aNew Quz Qoi m)) fun x16 m =>
  Qkt G p1 x16 p0 m
theorem Q11w (G : Gt) (a0 a1 : Value) (m : Mem) : evFn Go.Proofs.Tryz.prog G.tab G.rds (drOf Go.Proofs.Tryz.prog G.tab) Go.Proofs.Tryz.f129 [a0, a1] m = Qda G a1 a0 m :=
  evFn_of (r := fun ρ m => Qda G (ρ 1) (ρ 0) m) rfl rfl (tr (seqQ (f := fun ρ m => Qkt G (ρ 1) (ρ 4) (ρ 0) m) (tr (seqQ (f := fun ρ m => Qks G (ρ 1) (ρ 5) (ρ 4) (ρ 0) m) (tr (tr seqD (blockQ (seqQ (f := fun ρ m => Qa6 G (ρ 9) (ρ 5) (ρ 4) (ρ 0) m) (fun ρ m => by kernel_rfl)))) (fun ρ m => by kernel_rfl))) (fun ρ m => by kernel_rfl))) (fun ρ m => by kernel_rfl)) m
def Q11x : Entry Go.Proofs.Tryz.prog := ⟨Qdb, Go.Proofs.Tryz.f129, Go.Proofs.Tryz.func129, by kernel_rfl, arg2 (fun G a0 a1 m => Qda G a1 a0 m), okarg2 Q11w⟩
def Q7p (G : Gt) (p38 p2 p7 p9 : Value) (m : Mem) : Option Rs :=
  brb p38
    (bp (pur (aBuild Q19 [(0, 1), (1, 1)] []) m) fun x0 m =>
  bp (unt (aStore 2 p2 x0 m)) fun _ m =>
  ob (ob (aLoad true 2 p2 m) fun v => ob (some [(.int .i64 4)]) fun l => some (v :: l)) fun l => some (resVal l, m))
    (bp (pur (aBuild Q19 [(0, 1), (1, 1)] [(0, p7), (1, p9)]) m) fun x1 m =>
  bp (some (aNew Q1d Q19 m)) fun x2 m =>
  bp (unt (aStore 2 x2 x1 m)) fun _ m =>
  bp (pur (aLoad true 2 x2 m) m) fun x3 m =>
  bp (G.tab Q6t [x3] m) fun x4 m =>
  bp (pur (bin .neq true true .int x4 (.int .i64 0)) m) fun x5 m =>
  brb x5
    (bp (pur (aBuild Q19 [(0, 1), (1, 1)] []) m) fun x6 m =>
  bp (unt (aStore 2 p2 x6 m)) fun _ m =>
  ob (ob (aLoad true 2 p2 m) fun v => ob (some [x4]) fun l => some (v :: l)) fun l => some (resVal l, m))
    (bp (pur (aLoad true 2 x2 m) m) fun x7 m =>
  bp (unt (aStore 2 p2 x7 m)) fun _ m =>
  ob (ob (aLoad true 2 p2 m) fun v => ob (some [(.int .i64 0)]) fun l => some (v :: l)) fun l => some (resVal l, m)))
def Qoj (G : Gt) (p6 p10 p8 p2 p7 p9 : Value) (m : Mem) : Option Rs :=
  bp (pur (un .not p6) m) fun x8 m =>
  brb x8
    (Q7p G (.bool true) p2 p7 p9 m)
    (bp (pur (un .not p10) m) fun x9 m =>
  brb x9
    (Q7p G (.bool true) p2 p7 p9 m)
    (bp (pur (bin .neq true true .int p8 (.int .i64 0)) m) fun x10 m =>
  Q7p G x10 p2 p7 p9 m))
def Qok (G : Gt) (p5 p6 p8 p2 p7 : Value) (m : Mem) : Option Rs :=
  bp (G.tab Qti [p5, (.int .i64 32)] m) fun x11 m =>
  bp (pur (aExtract x11 0) m) fun x12 m =>
  bp (pur (aExtract x11 1) m) fun x13 m =>
  Qoj G p6 x13 p8 p2 p7 x12 m
def Qol (G : Gt) (p4 p5 p6 p2 : Value) (m : Mem) : Option Rs :=
  bp (G.tab Qvq [p4] m) fun x14 m =>
  bp (pur (aExtract x14 0) m) fun x15 m =>
  bp (pur (aExtract x14 1) m) fun x16 m =>
  Qok G p5 p6 x16 p2 x15 m
def Qom (G : Gt) (p0 p2 : Value) (m : Mem) : Option Rs :=
  bp (G.tab Qm8 [p0, (.string ⟨#[47]⟩)] m) fun x17 m =>
  bp (pur (aExtract x17 0) m) fun x18 m =>
  bp (pur (aExtract x17 1) m) fun x19 m =>
  bp (pur (aExtract x17 2) m) fun x20 m =>
  Qol G x18 x19 x20 p2 m
def Qgn (G : Gt) (p0 : Value) (m : Mem) : Option Rs :=
  bp (some (aNew Q1d Q19 m)) fun x21 m =>
  Qom G p0 x21 m
theorem Q158 (G : Gt) (a0 : Value) (m : Mem) : evFn Go.Proofs.Tryz.prog G.tab G.rds (drOf Go.Proofs.Tryz.prog G.tab) Go.Proofs.Tryz.f130 [a0] m = Qgn G a0 m :=
  evFn_of (r := fun ρ m => Qgn G (ρ 0) m) rfl rfl (tr (seqQ (f := fun ρ m => Qom G (ρ 0) (ρ 2) m) (tr (seqQ (f := fun ρ m => Qol G (ρ 4) (ρ 5) (ρ 6) (ρ 2) m) (tr (seqQ (f := fun ρ m => Qok G (ρ 5) (ρ 6) (ρ 8) (ρ 2) (ρ 7) m) (tr (seqQ (f := fun ρ m => Qoj G (ρ 6) (ρ 10) (ρ 8) (ρ 2) (ρ 7) (ρ 9) m) (tr (tr seqD (seqQ (f := fun ρ m => Q7p G (ρ 38) (ρ 2) (ρ 7) (ρ 9) m) (fun ρ m => by kernel_rfl))) (fun ρ m => by kernel_rfl))) (fun ρ m => by kernel_rfl))) (fun ρ m => by kernel_rfl))) (fun ρ m => by kernel_rfl))) (fun ρ m => by kernel_rfl)) m
def Q159 : Entry Go.Proofs.Tryz.prog := ⟨Qsq, Go.Proofs.Tryz.f130, Go.Proofs.Tryz.func130, by kernel_rfl, arg1 (fun G a0 m => Qgn G a0 m), okarg1 Q158⟩
def Qfv (G : Gt) (p45 p11 : Value) (m : Mem) : Option Rs :=
  brb p45
    (some (.tuple ⟨[(.int .u32 0), (.int .i64 4)]⟩, m))
    (some (.tuple ⟨[p11, (.int .i64 0)]⟩, m))
def Qx6 (G : Gt) (p8 p10 p11 p0 : Value) (m : Mem) : Option Rs :=
  bp (pur (bin .neq true false .iface p8 .nilIface) m) fun x0 m =>
  brb x0
    (Qfv G (.bool true) p11 m)
    (bp (pur (bin .neq true false .iface p10 .nilIface) m) fun x1 m =>
  brb x1
    (Qfv G (.bool true) p11 m)
    (bp (G.tab Qvo [p11] m) fun x2 m =>
  bp (pur (bin .neq false true .str x2 p0) m) fun x3 m =>
  Qfv G x3 p11 m))
def Qx7 (G : Gt) (p7 p9 p8 p10 p0 : Value) (m : Mem) : Option Rs :=
  bp (conv (.int .u32) p7 m) fun x4 m =>
  bp (pur (bin .shl true true .int x4 (.int .u64 16)) m) fun x5 m =>
  bp (conv (.int .u32) p9 m) fun x6 m =>
  bp (pur (bin .or false true .int x5 x6) m) fun x7 m =>
  Qx6 G p8 p10 x7 p0 m
def Qx8 (G : Gt) (p5 p7 p8 p0 : Value) (m : Mem) : Option Rs :=
  bp (G.tab Qf1 [p5, (.int .i64 10), (.int .i64 16)] m) fun x8 m =>
  bp (pur (aExtract x8 0) m) fun x9 m =>
  bp (pur (aExtract x8 1) m) fun x10 m =>
  Qx7 G p7 x9 p8 x10 p0 m
def Qx9 (G : Gt) (p4 p5 p0 : Value) (m : Mem) : Option Rs :=
  bp (G.tab Qf1 [p4, (.int .i64 10), (.int .i64 16)] m) fun x11 m =>
  bp (pur (aExtract x11 0) m) fun x12 m =>
  bp (pur (aExtract x11 1) m) fun x13 m =>
  Qx8 G p5 x12 x13 p0 m
def Qxa (G : Gt) (p0 : Value) (m : Mem) : Option Rs :=
  bp (G.tab Qm8 [p0, (.string ⟨#[58]⟩)] m) fun x14 m =>
  bp (pur (aExtract x14 0) m) fun x15 m =>
  bp (pur (aExtract x14 1) m) fun x16 m =>
  bp (pur (aExtract x14 2) m) fun x17 m =>
  Qx9 G x15 x16 p0 m
def Qtj (G : Gt) (p0 : Value) (m : Mem) : Option Rs :=
  Qxa G p0 m
theorem Q1am (G : Gt) (a0 : Value) (m : Mem) : evFn Go.Proofs.Tryz.prog G.tab G.rds (drOf Go.Proofs.Tryz.prog G.tab) Go.Proofs.Tryz.f131 [a0] m = Qtj G a0 m :=
  evFn_of (r := fun ρ m => Qtj G (ρ 0) m) rfl rfl (tr (seqQ (f := fun ρ m => Qxa G (ρ 0) m) (tr (seqQ (f := fun ρ m => Qx9 G (ρ 4) (ρ 5) (ρ 0) m) (tr (seqQ (f := fun ρ m => Qx8 G (ρ 5) (ρ 7) (ρ 8) (ρ 0) m) (tr (seqQ (f := fun ρ m => Qx7 G (ρ 7) (ρ 9) (ρ 8) (ρ 10) (ρ 0) m) (tr (seqQ (f := fun ρ m => Qx6 G (ρ 8) (ρ 10) (ρ 11) (ρ 0) m) (tr (tr seqD (seqQ (f := fun ρ m => Qfv G (ρ 45) (ρ 11) m) (fun ρ m => by kernel_rfl))) (fun ρ m => by kernel_rfl))) (fun ρ m => by kernel_rfl))) (fun ρ m => by kernel_rfl))) (fun ρ m => by kernel_rfl))) (fun ρ m => by kernel_rfl))) (fun ρ m => by kernel_rfl)) m
def Q1an : Entry Go.Proofs.Tryz.prog := ⟨Q12m, Go.Proofs.Tryz.f131, Go.Proofs.Tryz.func131, by kernel_rfl, arg1 (fun G a0 m => Qtj G a0 m), okarg1 Q1am⟩
def Q1m (G : Gt) (p7 : Value) (m : Mem) : Option Rs :=
  some (p7, m)
def Qbb (G : Gt) : Nat → Value → Value → Value → Value → Mem → Option Rs
  | 0, _, _, _, _, _ => none
  | i + 1, p8, p2, p1, p7, m =>
  brb p8
    (bp (pur (aNilCheck p2) m) fun x15 m =>
  bp (pur (aFieldAddr 12 x15) m) fun x16 m =>
  bp (pur (aLoad false 1 x16 m) m) fun x17 m =>
  bp (G.tab Q3 [p1, (.int .i64 1), (.int .i64 4294967295)] m) fun x18 m =>
  ckB (again (pur (aLoad false 1 x16 m) m) x17 && true)
    (bp (conv (.int .u32) x18 m) fun x19 m =>
  bp (aBuildSlice Q11y [(.int .u32 0)] 1 1 [(0, x19)] m) fun x20 m =>
  bp (apS Q11y 1 4 x17 x20 m) fun x21 m =>
  bp (pur (aNilCheck p2) m) fun x22 m =>
  bp (pur (aFieldAddr 12 x22) m) fun x23 m =>
  bp (unt (aStore 1 x23 x21 m)) fun _ m =>
  bp (G.tab Q3z [p1] m) fun x24 m =>
  (Qbb G i) x24 p2 p1 p7 m))
    (Q1m G p7 m)
def Qon (G : Gt) (p8 p2 p1 p7 : Value) (m : Mem) : Option Rs :=
  Qbb G G.rds p8 p2 p1 p7 m
def Qoo (G : Gt) (p47 p2 p1 p7 p11 : Value) (m : Mem) : Option Rs :=
  brb p47
    (Qon G (.bool true) p2 p1 p7 m)
    (bp (pur (bin .eql true true .str p11 (.string ⟨#[110, 101, 120, 116, 45, 104, 111, 112]⟩)) m) fun x25 m =>
  brb x25
    (bp (G.tab Qgo [p1] m) fun x26 m =>
  bp (pur (aNilCheck p2) m) fun x27 m =>
  bp (pur (aFieldAddr 13 x27) m) fun x28 m =>
  bp (unt (aStore 1 x28 x26 m)) fun _ m =>
  Q1m G p7 m)
    (bp (G.tab Q8 [p1, (.int .i64 130)] m) fun x29 m =>
  Q1m G p7 m))
def Qop (G : Gt) (p35 p2 p1 p7 p11 : Value) (m : Mem) : Option Rs :=
  brb p35
    (bp (G.tab Qd [p1, (.string ⟨#[97, 100, 100]⟩)] m) fun x9 m =>
  bp (pur (aNilCheck p2) m) fun x10 m =>
  bp (pur (aFieldAddr 11 x10) m) fun x11 m =>
  bp (unt (aStore 1 x11 x9 m)) fun _ m =>
  bp (G.tab Qdc [p1] m) fun x12 m =>
  bp (pur (aNilCheck p2) m) fun x13 m =>
  bp (pur (aFieldAddr 10 x13) m) fun x14 m =>
  bp (unt (aStore 1 x14 x12 m)) fun _ m =>
  Q1m G p7 m)
    (bp (pur (bin .eql true true .str p11 (.string ⟨#[112, 114, 101, 112, 101, 110, 100]⟩)) m) fun x30 m =>
  Qoo G x30 p2 p1 p7 p11 m)
def Qoq (G : Gt) (p28 p2 p1 p7 p11 : Value) (m : Mem) : Option Rs :=
  brb p28
    (bp (G.tab Q3 [p1, (.int .i64 0), (.int .i64 16777216)] m) fun x6 m =>
  bp (pur (aNilCheck p2) m) fun x7 m =>
  bp (pur (aFieldAddr 9 x7) m) fun x8 m =>
  bp (unt (aStore 1 x8 x6 m)) fun _ m =>
  Q1m G p7 m)
    (bp (pur (bin .eql true true .str p11 (.string ⟨#[99, 111, 109, 109, 117, 110, 105, 116, 121]⟩)) m) fun x31 m =>
  Qop G x31 p2 p1 p7 p11 m)
def Qor (G : Gt) (p21 p2 p1 p7 p11 : Value) (m : Mem) : Option Rs :=
  brb p21
    (bp (G.tab Q3 [p1, (.int .i64 0), (.int .i64 16777216)] m) fun x3 m =>
  bp (pur (aNilCheck p2) m) fun x4 m =>
  bp (pur (aFieldAddr 8 x4) m) fun x5 m =>
  bp (unt (aStore 1 x5 x3 m)) fun _ m =>
  Q1m G p7 m)
    (bp (pur (bin .eql true true .str p11 (.string ⟨#[116, 97, 103]⟩)) m) fun x32 m =>
  Qoq G x32 p2 p1 p7 p11 m)
def Qos (G : Gt) (p14 p2 p1 p7 p11 : Value) (m : Mem) : Option Rs :=
  brb p14
    (bp (G.tab Q3 [p1, (.int .i64 0), (.int .i64 16777216)] m) fun x0 m =>
  bp (pur (aNilCheck p2) m) fun x1 m =>
  bp (pur (aFieldAddr 7 x1) m) fun x2 m =>
  bp (unt (aStore 1 x2 x0 m)) fun _ m =>
  Q1m G p7 m)
    (bp (pur (bin .eql true true .str p11 (.string ⟨#[112, 114, 101, 102, 101, 114, 101, 110, 99, 101]⟩)) m) fun x33 m =>
  Qor G x33 p2 p1 p7 p11 m)
def Qot (G : Gt) (p11 p2 p1 p7 : Value) (m : Mem) : Option Rs :=
  bp (pur (bin .eql true true .str p11 (.string ⟨#[109, 101, 116, 114, 105, 99]⟩)) m) fun x34 m =>
  Qos G x34 p2 p1 p7 p11 m
def Qou (G : Gt) (p7 p2 p1 : Value) (m : Mem) : Option Rs :=
  Qot G p7 p2 p1 p7 m
def Qov (G : Gt) (p1 p2 : Value) (m : Mem) : Option Rs :=
  bp (G.tab Qg [p1] m) fun x35 m =>
  Qou G x35 p2 p1 m
def Qgp (G : Gt) (p1 p2 : Value) (m : Mem) : Option Rs :=
  Qov G p1 p2 m
theorem Q15a (G : Gt) (a0 a1 a2 : Value) (m : Mem) : evFn Go.Proofs.Tryz.prog G.tab G.rds (drOf Go.Proofs.Tryz.prog G.tab) Go.Proofs.Tryz.f132 [a0, a1, a2] m = Qgp G a1 a2 m :=
  evFn_of (r := fun ρ m => Qgp G (ρ 1) (ρ 2) m) rfl rfl (tr (seqQ (f := fun ρ m => Qov G (ρ 1) (ρ 2) m) (tr (seqQ (f := fun ρ m => Qou G (ρ 7) (ρ 2) (ρ 1) m) (tr (tr (seqQ (f := fun ρ m => Q1m G (ρ 7) m) (fun ρ m => by kernel_rfl)) (seqQ (f := fun ρ m => Qot G (ρ 11) (ρ 2) (ρ 1) (ρ 7) m) (tr (blockQ (seqQ (f := fun ρ m => Qos G (ρ 14) (ρ 2) (ρ 1) (ρ 7) (ρ 11) m) (tr (condQ (refQ) (seqQ (f := fun ρ m => Qor G (ρ 21) (ρ 2) (ρ 1) (ρ 7) (ρ 11) m) (tr (condQ (refQ) (seqQ (f := fun ρ m => Qoq G (ρ 28) (ρ 2) (ρ 1) (ρ 7) (ρ 11) m) (tr (condQ (refQ) (seqQ (f := fun ρ m => Qop G (ρ 35) (ρ 2) (ρ 1) (ρ 7) (ρ 11) m) (tr (condQ (refQ) (seqQ (f := fun ρ m => Qoo G (ρ 47) (ρ 2) (ρ 1) (ρ 7) (ρ 11) m) (tr (condQ (seqQ (f := fun ρ m => Qon G (ρ 8) (ρ 2) (ρ 1) (ρ 7) m) (tr (blockQ (loopQ (fun i ρ m => Qbb G i (ρ 8) (ρ 2) (ρ 1) (ρ 7) m) (fun _ _ => rfl) (fun i0 => fun ρ m => by kernel_rfl))) (fun ρ m => by kernel_rfl))) (refQ)) (fun ρ m => by kernel_rfl)))) (fun ρ m => by kernel_rfl)))) (fun ρ m => by kernel_rfl)))) (fun ρ m => by kernel_rfl)))) (fun ρ m => by kernel_rfl)))) (fun ρ m => by kernel_rfl)))) (fun ρ m => by kernel_rfl))) (fun ρ m => by kernel_rfl))) (fun ρ m => by kernel_rfl)) m
def Q15b : Entry Go.Proofs.Tryz.prog := ⟨Qsr, Go.Proofs.Tryz.f132, Go.Proofs.Tryz.func132, by kernel_rfl, arg3 (fun G a0 a1 a2 m => Qgp G a1 a2 m), okarg3 Q15a⟩
def Qmb (G : Gt) (p21 p0 p1 : Value) (m : Mem) : Option Rs :=
  brb p21
    (bp (pur (aIndexStr p1 (.int .i64 0)) m) fun x0 m =>
  bp (pur (aIndexStr p1 (.int .i64 0)) m) fun x1 m =>
  bp (G.tab Qwi [p0, x0] m) fun x2 m =>
  bp (G.tab Qa7 [x2, x1] m) fun x3 m =>
  some (x3, m))
    (bp (G.tab Qa8 [p1] m) fun x4 m =>
  bp (pur (aExtract x4 0) m) fun x5 m =>
  bp (pur (aExtract x4 1) m) fun x6 m =>
  bp (some (aNew Qgq Qgr m)) fun x7 m =>
  bp (unt (aStore 256 x7 x5 m)) fun _ m =>
  brb x6
    (bp (G.tab Qgs [p0, x7] m) fun x8 m =>
  bp (G.tab Q9a [x8, x7] m) fun x9 m =>
  some (x9, m))
    (bp (G.tab Qtk [p0, p1] m) fun x10 m =>
  bp (G.tab Qfw [x10, p1] m) fun x11 m =>
  some (x11, m)))
def Qvs (G : Gt) (p1 p0 : Value) (m : Mem) : Option Rs :=
  bp (pur (lenK 0 p1 m) m) fun x12 m =>
  bp (pur (bin .eql true true .int x12 (.int .i64 1)) m) fun x13 m =>
  brb x13
    (bp (pur (aIndexStr p1 (.int .i64 0)) m) fun x14 m =>
  bp (pur (bin .lss true true .int x14 (.int .u8 128)) m) fun x15 m =>
  Qmb G x15 p0 p1 m)
    (Qmb G (.bool false) p0 p1 m)
def Qmc (G : Gt) (p12 p0 p1 : Value) (m : Mem) : Option Rs :=
  brb p12
    (some (p0, m))
    (Qvs G p1 p0 m)
def Qvt (G : Gt) (p0 p1 : Value) (m : Mem) : Option Rs :=
  bp (pur (bin .eql true true .str p0 (.string ⟨#[]⟩)) m) fun x16 m =>
  brb x16
    (Qmc G (.bool true) p0 p1 m)
    (bp (pur (bin .eql true true .str p1 (.string ⟨#[]⟩)) m) fun x17 m =>
  Qmc G x17 p0 p1 m)
def Qry (G : Gt) (p0 p1 : Value) (m : Mem) : Option Rs :=
  Qvt G p0 p1 m
theorem Q19l (G : Gt) (a0 a1 : Value) (m : Mem) : evFn Go.Proofs.Tryz.prog G.tab G.rds (drOf Go.Proofs.Tryz.prog G.tab) Go.Proofs.Tryz.f133 [a0, a1] m = Qry G a0 a1 m :=
  evFn_of (r := fun ρ m => Qry G (ρ 0) (ρ 1) m) rfl rfl (tr (seqQ (f := fun ρ m => Qvt G (ρ 0) (ρ 1) m) (tr (tr (seqQ (f := fun ρ m => Qvs G (ρ 1) (ρ 0) m) (tr (tr seqD (seqQ (f := fun ρ m => Qmb G (ρ 21) (ρ 0) (ρ 1) m) (fun ρ m => by kernel_rfl))) (fun ρ m => by kernel_rfl))) (seqQ (f := fun ρ m => Qmc G (ρ 12) (ρ 0) (ρ 1) m) (fun ρ m => by kernel_rfl))) (fun ρ m => by kernel_rfl))) (fun ρ m => by kernel_rfl)) m
def Q19m : Entry Go.Proofs.Tryz.prog := ⟨Q102, Go.Proofs.Tryz.f133, Go.Proofs.Tryz.func133, by kernel_rfl, arg2 (fun G a0 a1 m => Qry G a0 a1 m), okarg2 Q19l⟩
def Q9b (G : Gt) (p9 p8 : Value) (m : Mem) : Option Rs :=
  bp (pur (aLoad true 4 p9 m) m) fun x0 m =>
  bp (unt (aStore 4 p8 x0 m)) fun _ m =>
  ob (ob (aLoad true 4 p8 m) fun v => ob (some []) fun l => some (v :: l)) fun l => some (resVal l, m)
def Q5p (G : Gt) (p0 p9 p8 : Value) (m : Mem) : Option Rs :=
  bp (G.tab Qd [p0, (.string ⟨#[114, 111, 117, 116, 101, 45, 109, 97, 112]⟩)] m) fun x1 m =>
  brb x1
    (bp (G.tab Qh [p0] m) fun x2 m =>
  bp (pur (aFieldAddr 3 p9) m) fun x3 m =>
  bp (unt (aStore 1 x3 x2 m)) fun _ m =>
  Q9b G p9 p8 m)
    (Q9b G p9 p8 m)
def Q9c (G : Gt) (p3 p9 p0 p8 : Value) (m : Mem) : Option Rs :=
  brb p3
    (bp (pur (aFieldAddr 2 p9) m) fun x4 m =>
  bp (unt (aStore 1 x4 (.int .u8 2) m)) fun _ m =>
  bp (G.tab Qd [p0, (.string ⟨#[116, 121, 112, 101]⟩)] m) fun x5 m =>
  brb x5
    (bp (G.tab Q3 [p0, (.int .i64 1), (.int .i64 2)] m) fun x6 m =>
  bp (conv (.int .u8) x6 m) fun x7 m =>
  bp (pur (aFieldAddr 2 p9) m) fun x8 m =>
  bp (unt (aStore 1 x8 x7 m)) fun _ m =>
  Q5p G p0 p9 p8 m)
    (Q5p G p0 p9 p8 m))
    (Q5p G p0 p9 p8 m)
def Qio (G : Gt) (p0 p9 p3 p8 : Value) (m : Mem) : Option Rs :=
  bp (G.tab Qd [p0, (.string ⟨#[109, 101, 116, 114, 105, 99]⟩)] m) fun x9 m =>
  brb x9
    (bp (G.tab Q3 [p0, (.int .i64 0), (.int .i64 16777216)] m) fun x10 m =>
  bp (pur (aFieldAddr 1 p9) m) fun x11 m =>
  bp (unt (aStore 1 x11 x10 m)) fun _ m =>
  Q9c G p3 p9 p0 p8 m)
    (Q9c G p3 p9 p0 p8 m)
def Qip (G : Gt) (p2 p0 p1 p3 p8 : Value) (m : Mem) : Option Rs :=
  bp (aBuildSlice Q3a [(.int .u8 0)] 1 3 [(0, (.int .u8 1)), (1, (.int .u8 2)), (2, p2)] m) fun x12 m =>
  bp (aBuildSlice Q2 [(.string ⟨#[]⟩)] 1 3 [(0, (.string ⟨#[99, 111, 110, 110, 101, 99, 116, 101, 100]⟩)), (1, (.string ⟨#[115, 116, 97, 116, 105, 99]⟩)), (2, p1)] m) fun x13 m =>
  bp (G.tab Qs [p0, x13] m) fun x14 m =>
  bp (pur (aIndexAddrSl 1 x12 x14) m) fun x15 m =>
  bp (pur (aLoad false 1 x15 m) m) fun x16 m =>
  bp (pur (aBuild Q6u [(0, 1), (1, 1), (2, 1), (3, 1)] [(0, x16), (1, (.int .i64 (-1)))]) m) fun x17 m =>
  bp (some (aNew Q5a Q6u m)) fun x18 m =>
  bp (unt (aStore 4 x18 x17 m)) fun _ m =>
  Qio G p0 x18 p3 p8 m
def Qbc (G : Gt) (p2 p0 p1 p3 : Value) (m : Mem) : Option Rs :=
  bp (some (aNew Q5a Q6u m)) fun x19 m =>
  Qip G p2 p0 p1 p3 x19 m
theorem Q103 (G : Gt) (a0 a1 a2 a3 : Value) (m : Mem) : evFn Go.Proofs.Tryz.prog G.tab G.rds (drOf Go.Proofs.Tryz.prog G.tab) Go.Proofs.Tryz.f135 [a0, a1, a2, a3] m = Qbc G a2 a0 a1 a3 m :=
  evFn_of (r := fun ρ m => Qbc G (ρ 2) (ρ 0) (ρ 1) (ρ 3) m) rfl rfl (tr (seqQ (f := fun ρ m => Qip G (ρ 2) (ρ 0) (ρ 1) (ρ 3) (ρ 8) m) (tr (seqQ (f := fun ρ m => Qio G (ρ 0) (ρ 9) (ρ 3) (ρ 8) m) (tr (seqQ (f := fun ρ m => Q9c G (ρ 3) (ρ 9) (ρ 0) (ρ 8) m) (tr (seqQ (f := fun ρ m => Q5p G (ρ 0) (ρ 9) (ρ 8) m) (tr (seqQ (f := fun ρ m => Q9b G (ρ 9) (ρ 8) m) (fun ρ m => by kernel_rfl)) (fun ρ m => by kernel_rfl))) (fun ρ m => by kernel_rfl))) (fun ρ m => by kernel_rfl))) (fun ρ m => by kernel_rfl))) (fun ρ m => by kernel_rfl)) m
def Q104 : Entry Go.Proofs.Tryz.prog := ⟨Qbd, Go.Proofs.Tryz.f135, Go.Proofs.Tryz.func135, by kernel_rfl, arg4 (fun G a0 a1 a2 a3 m => Qbc G a2 a0 a1 a3 m), okarg4 Q103⟩
end
end Go.Ab.Sh
