/-
  Functions of the program as plain definitions, each with the theorem that it is what the evaluator makes of the code. No conditions.
-/
import Derived.Test.YtbjgjnkihdddlaaGreatDoorAb4
import Derived.Test.YtbjgjnkihdddlaaGreatDoorZ
import Derived.KernelRfl
import Derived.Test.YtbjgjnkihdddlaaGreatDoorProg
set_option linter.unusedVariables false
set_option maxRecDepth 100000
namespace Go.Ab.Sh
open Go Go.Ab
noncomputable section
def Qek (G : Gt) (p3 : Value) (m : Mem) : Option Rs :=
  bp (conv .str p3 m) fun x0 m =>
  some (x0, m)
def Qel (G : Gt) (k0 : Value → Value → Value → Mem → Option Rs) (p8 p1 p3 : Value) (m : Mem) : Option Rs :=
  bp (pur (bin .add true true .int p8 (.int .i64 1)) m) fun x1 m =>
  k0 x1 p1 p3 m
def Q71 (G : Gt) (k0 : Value → Value → Value → Mem → Option Rs) : Nat → Value → Value → Value → Value → Value → Mem → Option Rs
  | 0, _, _, _, _, _, _ => none
  | i + 1, p10, p9, p3, p8, p1, m =>
  bp (pur (aFieldAddr 1 p9) m) fun x2 m =>
  bp (pur (aLoad false 1 x2 m) m) fun x3 m =>
  bp (pur (lenK 1 x3 m) m) fun x4 m =>
  bp (pur (bin .lss false true .int p10 x4) m) fun x5 m =>
  brb x5
    (bp (pur (aFieldAddr 1 p9) m) fun x6 m =>
  bp (pur (aLoad false 1 x6 m) m) fun x7 m =>
  bp (pur (aIndexAddrSl 2 x7 p10) m) fun x8 m =>
  bp (pur (aFieldAddr 0 x8) m) fun x9 m =>
  bp (pur (aLoad false 1 x9 m) m) fun x10 m =>
  bp (pur (aFieldAddr 1 p9) m) fun x11 m =>
  bp (pur (aLoad false 1 x11 m) m) fun x12 m =>
  bp (pur (aIndexAddrSl 2 x12 p10) m) fun x13 m =>
  bp (pur (aFieldAddr 1 x13) m) fun x14 m =>
  bp (pur (aLoad false 1 x14 m) m) fun x15 m =>
  bp (G.tab Qz [x10] m) fun x16 m =>
  ckB (again (pur (aLoad false 1 x11 m) m) x12 && (again (pur (aLoad false 1 x14 m) m) x15 && true))
    (bp (aBuildSlice Q25 [(.int .i64 0)] 1 1 [(0, x16)] m) fun x17 m =>
  bp (G.tab Q6p [x15] m) fun x18 m =>
  bp (apS Q25 1 8 x17 x18 m) fun x19 m =>
  bp (G.tab Qa [x19, (.slice none 0 0)] m) fun x20 m =>
  bp (aAppend Q3a 1 1 p3 x20 m) fun x21 m =>
  bp (pur (bin .add true true .int p10 (.int .i64 1)) m) fun x22 m =>
  (Q71 G k0 i) x22 p9 x21 p8 p1 m))
    (Qel G k0 p8 p1 p3 m)
def Qcy (G : Gt) (k0 : Value → Value → Value → Mem → Option Rs) (p10 p9 p3 p8 p1 : Value) (m : Mem) : Option Rs :=
  Q71 G k0 G.rds p10 p9 p3 p8 p1 m
def Qem (G : Gt) (k0 : Value → Value → Value → Mem → Option Rs) (p9 p3 p8 p1 : Value) (m : Mem) : Option Rs :=
  Qcy G k0 (.int .i64 0) p9 p3 p8 p1 m
def Qen (G : Gt) (k0 : Value → Value → Value → Mem → Option Rs) (p3 p9 p8 p1 : Value) (m : Mem) : Option Rs :=
  bp (pur (aFieldAddr 1 p9) m) fun x23 m =>
  bp (pur (aLoad false 1 x23 m) m) fun x24 m =>
  bp (pur (lenK 1 x24 m) m) fun x25 m =>
  bp (aBuildSlice Q25 [(.int .i64 0)] 1 1 [(0, x25)] m) fun x26 m =>
  bp (pur (aFieldAddr 0 p9) m) fun x27 m =>
  bp (pur (aLoad false 1 x27 m) m) fun x28 m =>
  bp (aBuildSlice Q2 [(.string ⟨#[]⟩)] 1 1 [(0, x28)] m) fun x29 m =>
  bp (G.tab Qa [x26, x29] m) fun x30 m =>
  bp (aAppend Q3a 1 1 p3 x30 m) fun x31 m =>
  Qem G k0 p9 x31 p8 p1 m
def Qeo (G : Gt) (k0 : Value → Value → Value → Mem → Option Rs) (p1 p8 p3 : Value) (m : Mem) : Option Rs :=
  bp (pur (aFieldAddr 8 p1) m) fun x32 m =>
  bp (pur (aLoad false 1 x32 m) m) fun x33 m =>
  bp (pur (aIndexAddrSl 2 x33 p8) m) fun x34 m =>
  bp (pur (aLoad true 2 x34 m) m) fun x35 m =>
  bp (some (aNew Q24 Q3y m)) fun x36 m =>
  bp (unt (aStore 2 x36 x35 m)) fun _ m =>
  Qen G k0 p3 x36 p8 p1 m
def Qn (G : Gt) : Nat → Value → Value → Value → Mem → Option Rs
  | 0, _, _, _, _ => none
  | i + 1, p8, p1, p3, m =>
  bp (pur (aFieldAddr 8 p1) m) fun x37 m =>
  bp (pur (aLoad false 1 x37 m) m) fun x38 m =>
  bp (pur (lenK 1 x38 m) m) fun x39 m =>
  bp (pur (bin .lss false true .int p8 x39) m) fun x40 m =>
  brb x40
    (Qeo G (Qn G i) p1 p8 p3 m)
    (Qek G p3 m)
def Qep (G : Gt) (p8 p1 p3 : Value) (m : Mem) : Option Rs :=
  Qn G G.rds p8 p1 p3 m
def Qeq (G : Gt) (p1 p3 : Value) (m : Mem) : Option Rs :=
  Qep G (.int .i64 0) p1 p3 m
def Qcz (G : Gt) (k0 : Value → Value → Value → Mem → Option Rs) (p4 p1 p3 : Value) (m : Mem) : Option Rs :=
  bp (pur (bin .add true true .int p4 (.int .i64 1)) m) fun x41 m =>
  k0 x41 p1 p3 m
def Q72 (G : Gt) (k0 : Value → Value → Value → Mem → Option Rs) : Nat → Value → Value → Value → Value → Value → Mem → Option Rs
  | 0, _, _, _, _, _, _ => none
  | i + 1, p6, p5, p3, p4, p1, m =>
  bp (pur (aFieldAddr 1 p5) m) fun x42 m =>
  bp (pur (aLoad false 1 x42 m) m) fun x43 m =>
  bp (pur (lenK 1 x43 m) m) fun x44 m =>
  bp (pur (bin .lss false true .int p6 x44) m) fun x45 m =>
  brb x45
    (bp (pur (aFieldAddr 1 p5) m) fun x46 m =>
  bp (pur (aLoad false 1 x46 m) m) fun x47 m =>
  bp (pur (aIndexAddrSl 5 x47 p6) m) fun x48 m =>
  bp (pur (aLoad true 5 x48 m) m) fun x49 m =>
  bp (some (aNew Q86 Qa5 m)) fun x50 m =>
  bp (unt (aStore 5 x50 x49 m)) fun _ m =>
  bp (pur (aFieldAddr 0 x50) m) fun x51 m =>
  bp (pur (aLoad false 1 x51 m) m) fun x52 m =>
  bp (pur (aFieldAddr 1 x50) m) fun x53 m =>
  bp (pur (aFieldAddr 0 x53) m) fun x54 m =>
  bp (pur (aLoad false 1 x54 m) m) fun x55 m =>
  bp (conv (.int .i64) x55 m) fun x56 m =>
  bp (pur (aFieldAddr 1 x50) m) fun x57 m =>
  bp (pur (aFieldAddr 1 x57) m) fun x58 m =>
  bp (pur (aLoad false 1 x58 m) m) fun x59 m =>
  bp (pur (aFieldAddr 3 x50) m) fun x60 m =>
  bp (pur (aLoad false 1 x60 m) m) fun x61 m =>
  bp (pur (aFieldAddr 4 x50) m) fun x62 m =>
  bp (pur (aLoad false 1 x62 m) m) fun x63 m =>
  bp (G.tab Qz [x52] m) fun x64 m =>
  ckB (again (pur (aLoad false 1 x54 m) m) x55 && (again (pur (aLoad false 1 x58 m) m) x59 && (again (pur (aLoad false 1 x60 m) m) x61 && (again (pur (aLoad false 1 x62 m) m) x63 && true))))
    (bp (aBuildSlice Q25 [(.int .i64 0)] 1 5 [(0, x64), (1, x56), (2, x59), (3, x61), (4, x63)] m) fun x65 m =>
  bp (G.tab Qa [x65, (.slice none 0 0)] m) fun x66 m =>
  bp (aAppend Q3a 1 1 p3 x66 m) fun x67 m =>
  bp (pur (bin .add true true .int p6 (.int .i64 1)) m) fun x68 m =>
  (Q72 G k0 i) x68 p5 x67 p4 p1 m))
    (Qcz G k0 p4 p1 p3 m)
def Qd0 (G : Gt) (k0 : Value → Value → Value → Mem → Option Rs) (p6 p5 p3 p4 p1 : Value) (m : Mem) : Option Rs :=
  Q72 G k0 G.rds p6 p5 p3 p4 p1 m
def Qd1 (G : Gt) (k0 : Value → Value → Value → Mem → Option Rs) (p5 p3 p4 p1 : Value) (m : Mem) : Option Rs :=
  Qd0 G k0 (.int .i64 0) p5 p3 p4 p1 m
def Qd2 (G : Gt) (k0 : Value → Value → Value → Mem → Option Rs) (p3 p5 p4 p1 : Value) (m : Mem) : Option Rs :=
  bp (pur (aFieldAddr 1 p5) m) fun x69 m =>
  bp (pur (aLoad false 1 x69 m) m) fun x70 m =>
  bp (pur (lenK 1 x70 m) m) fun x71 m =>
  bp (aBuildSlice Q25 [(.int .i64 0)] 1 1 [(0, x71)] m) fun x72 m =>
  bp (pur (aFieldAddr 0 p5) m) fun x73 m =>
  bp (pur (aLoad false 1 x73 m) m) fun x74 m =>
  bp (aBuildSlice Q2 [(.string ⟨#[]⟩)] 1 1 [(0, x74)] m) fun x75 m =>
  bp (G.tab Qa [x72, x75] m) fun x76 m =>
  bp (aAppend Q3a 1 1 p3 x76 m) fun x77 m =>
  Qd1 G k0 p5 x77 p4 p1 m
def Qd3 (G : Gt) (k0 : Value → Value → Value → Mem → Option Rs) (p1 p4 p3 : Value) (m : Mem) : Option Rs :=
  bp (pur (aFieldAddr 7 p1) m) fun x78 m =>
  bp (pur (aLoad false 1 x78 m) m) fun x79 m =>
  bp (pur (aIndexAddrSl 2 x79 p4) m) fun x80 m =>
  bp (pur (aLoad true 2 x80 m) m) fun x81 m =>
  bp (some (aNew Q2m Q62 m)) fun x82 m =>
  bp (unt (aStore 2 x82 x81 m)) fun _ m =>
  Qd2 G k0 p3 x82 p4 p1 m
def Qm (G : Gt) : Nat → Value → Value → Value → Mem → Option Rs
  | 0, _, _, _, _ => none
  | i + 1, p4, p1, p3, m =>
  bp (pur (aFieldAddr 7 p1) m) fun x83 m =>
  bp (pur (aLoad false 1 x83 m) m) fun x84 m =>
  bp (pur (lenK 1 x84 m) m) fun x85 m =>
  bp (pur (bin .lss false true .int p4 x85) m) fun x86 m =>
  brb x86
    (Qd3 G (Qm G i) p1 p4 p3 m)
    (Qeq G p1 p3 m)
def Qd4 (G : Gt) (p4 p1 p3 : Value) (m : Mem) : Option Rs :=
  Qm G G.rds p4 p1 p3 m
def Qer (G : Gt) (p1 p3 : Value) (m : Mem) : Option Rs :=
  Qd4 G (.int .i64 0) p1 p3 m
def Qes (G : Gt) (p1 : Value) (m : Mem) : Option Rs :=
  Qer G p1 (.slice none 0 0) m
def Q8s (G : Gt) (p0 : Value) (m : Mem) : Option Rs :=
  bp (some (aNew Qq (Value.cells p0).toList m)) fun x87 m =>
  Qes G x87 m
theorem Qwa (G : Gt) (a0 : Value) (m : Mem) : evFn Go.Proofs.Tryz.prog G.tab G.rds (drOf Go.Proofs.Tryz.prog G.tab) Go.Proofs.Tryz.f31 [a0] m = Q8s G a0 m :=
  evFn_of (r := fun ρ m => Q8s G (ρ 0) m) rfl rfl (tr (seqQ (f := fun ρ m => Qes G (ρ 1) m) (tr (seqQ (f := fun ρ m => Qer G (ρ 1) (ρ 3) m) (tr (tr (seqQ (f := fun ρ m => Qeq G (ρ 1) (ρ 3) m) (tr (tr (seqQ (f := fun ρ m => Qek G (ρ 3) m) (fun ρ m => by kernel_rfl)) (seqQ (f := fun ρ m => Qep G (ρ 8) (ρ 1) (ρ 3) m) (tr (blockQ (loopQ (fun i ρ m => Qn G i (ρ 8) (ρ 1) (ρ 3) m) (fun _ _ => rfl) (fun i0 => tr (seqQ (f := fun ρ m => Qeo G (Qn G i0) (ρ 1) (ρ 8) (ρ 3) m) (tr (tr (seqQ (f := fun ρ m => Qel G (Qn G i0) (ρ 8) (ρ 1) (ρ 3) m) (fun ρ m => by kernel_rfl)) (blockQ (seqQ (f := fun ρ m => Qen G (Qn G i0) (ρ 3) (ρ 9) (ρ 8) (ρ 1) m) (tr (seqQ (f := fun ρ m => Qem G (Qn G i0) (ρ 9) (ρ 3) (ρ 8) (ρ 1) m) (tr (seqQ (f := fun ρ m => Qcy G (Qn G i0) (ρ 10) (ρ 9) (ρ 3) (ρ 8) (ρ 1) m) (tr (blockQ (loopQ (fun i ρ m => Q71 G (Qn G i0) i (ρ 10) (ρ 9) (ρ 3) (ρ 8) (ρ 1) m) (fun _ _ => rfl) (fun i1 => fun ρ m => by kernel_rfl))) (fun ρ m => by kernel_rfl))) (fun ρ m => by kernel_rfl))) (fun ρ m => by kernel_rfl))))) (fun ρ m => by kernel_rfl))) (fun ρ m => by kernel_rfl)))) (fun ρ m => by kernel_rfl)))) (fun ρ m => by kernel_rfl))) (seqQ (f := fun ρ m => Qd4 G (ρ 4) (ρ 1) (ρ 3) m) (tr (blockQ (loopQ (fun i ρ m => Qm G i (ρ 4) (ρ 1) (ρ 3) m) (fun _ _ => rfl) (fun i0 => tr (seqQ (f := fun ρ m => Qd3 G (Qm G i0) (ρ 1) (ρ 4) (ρ 3) m) (tr (tr (seqQ (f := fun ρ m => Qcz G (Qm G i0) (ρ 4) (ρ 1) (ρ 3) m) (fun ρ m => by kernel_rfl)) (blockQ (seqQ (f := fun ρ m => Qd2 G (Qm G i0) (ρ 3) (ρ 5) (ρ 4) (ρ 1) m) (tr (seqQ (f := fun ρ m => Qd1 G (Qm G i0) (ρ 5) (ρ 3) (ρ 4) (ρ 1) m) (tr (seqQ (f := fun ρ m => Qd0 G (Qm G i0) (ρ 6) (ρ 5) (ρ 3) (ρ 4) (ρ 1) m) (tr (blockQ (loopQ (fun i ρ m => Q72 G (Qm G i0) i (ρ 6) (ρ 5) (ρ 3) (ρ 4) (ρ 1) m) (fun _ _ => rfl) (fun i1 => fun ρ m => by kernel_rfl))) (fun ρ m => by kernel_rfl))) (fun ρ m => by kernel_rfl))) (fun ρ m => by kernel_rfl))))) (fun ρ m => by kernel_rfl))) (fun ρ m => by kernel_rfl)))) (fun ρ m => by kernel_rfl)))) (fun ρ m => by kernel_rfl))) (fun ρ m => by kernel_rfl))) (fun ρ m => by kernel_rfl)) m
def Qvz : Entry Go.Proofs.Tryz.prog := ⟨Qhl, Go.Proofs.Tryz.f31, Go.Proofs.Tryz.func31, by kernel_rfl, arg1 (fun G a0 m => Q8s G a0 m), okarg1 Qwa⟩
def Qar (G : Gt) (p3 : Value) (m : Mem) : Option Rs :=
  bp (conv .str p3 m) fun x0 m =>
  some (x0, m)
def Qas (G : Gt) (k0 : Value → Value → Value → Mem → Option Rs) (p4 p1 p3 : Value) (m : Mem) : Option Rs :=
  bp (pur (bin .add true true .int p4 (.int .i64 1)) m) fun x1 m =>
  k0 x1 p1 p3 m
def Q5e (G : Gt) (k0 : Value → Value → Value → Mem → Option Rs) : Nat → Value → Value → Value → Value → Value → Mem → Option Rs
  | 0, _, _, _, _, _, _ => none
  | i + 1, p6, p5, p3, p4, p1, m =>
  bp (pur (aFieldAddr 1 p5) m) fun x2 m =>
  bp (pur (aLoad false 1 x2 m) m) fun x3 m =>
  bp (pur (lenK 1 x3 m) m) fun x4 m =>
  bp (pur (bin .lss false true .int p6 x4) m) fun x5 m =>
  brb x5
    (bp (pur (aFieldAddr 1 p5) m) fun x6 m =>
  bp (pur (aLoad false 1 x6 m) m) fun x7 m =>
  bp (pur (aIndexAddrSl 15 x7 p6) m) fun x8 m =>
  bp (pur (aLoad true 15 x8 m) m) fun x9 m =>
  bp (some (aNew Q6v Qgv m)) fun x10 m =>
  bp (unt (aStore 15 x10 x9 m)) fun _ m =>
  bp (pur (aFieldAddr 0 x10) m) fun x11 m =>
  bp (pur (aLoad false 1 x11 m) m) fun x12 m =>
  bp (pur (aFieldAddr 1 x10) m) fun x13 m =>
  bp (pur (aLoad false 1 x13 m) m) fun x14 m =>
  bp (conv (.int .i64) x14 m) fun x15 m =>
  bp (pur (aFieldAddr 4 x10) m) fun x16 m =>
  bp (pur (aLoad false 1 x16 m) m) fun x17 m =>
  bp (pur (aFieldAddr 5 x10) m) fun x18 m =>
  bp (pur (aLoad false 1 x18 m) m) fun x19 m =>
  bp (pur (aFieldAddr 6 x10) m) fun x20 m =>
  bp (pur (aLoad false 1 x20 m) m) fun x21 m =>
  bp (pur (aFieldAddr 7 x10) m) fun x22 m =>
  bp (pur (aLoad false 1 x22 m) m) fun x23 m =>
  bp (pur (aFieldAddr 8 x10) m) fun x24 m =>
  bp (pur (aLoad false 1 x24 m) m) fun x25 m =>
  bp (pur (aFieldAddr 9 x10) m) fun x26 m =>
  bp (pur (aLoad false 1 x26 m) m) fun x27 m =>
  bp (pur (aFieldAddr 11 x10) m) fun x28 m =>
  bp (pur (aLoad false 1 x28 m) m) fun x29 m =>
  bp (pur (aFieldAddr 13 x10) m) fun x30 m =>
  bp (pur (aLoad false 1 x30 m) m) fun x31 m =>
  bp (conv (.int .i64) x31 m) fun x32 m =>
  bp (pur (aFieldAddr 14 x10) m) fun x33 m =>
  bp (pur (aLoad false 1 x33 m) m) fun x34 m =>
  bp (G.tab Qz [x29] m) fun x35 m =>
  ckB (again (pur (aLoad false 1 x11 m) m) x12 && (again (pur (aLoad false 1 x13 m) m) x14 && (again (pur (aLoad false 1 x16 m) m) x17 && (again (pur (aLoad false 1 x18 m) m) x19 && (again (pur (aLoad false 1 x20 m) m) x21 && (again (pur (aLoad false 1 x22 m) m) x23 && (again (pur (aLoad false 1 x24 m) m) x25 && (again (pur (aLoad false 1 x26 m) m) x27 && (again (pur (aLoad false 1 x30 m) m) x31 && (again (pur (aLoad false 1 x33 m) m) x34 && true))))))))))
    (bp (aBuildSlice Q25 [(.int .i64 0)] 1 11 [(0, x12), (1, x15), (2, x17), (3, x19), (4, x21), (5, x23), (6, x25), (7, x27), (8, x35), (9, x32), (10, x34)] m) fun x36 m =>
  bp (pur (aFieldAddr 10 x10) m) fun x37 m =>
  bp (pur (aLoad false 1 x37 m) m) fun x38 m =>
  bp (G.tab Q6p [x38] m) fun x39 m =>
  bp (apS Q25 1 8 x36 x39 m) fun x40 m =>
  bp (pur (aFieldAddr 12 x10) m) fun x41 m =>
  bp (pur (aLoad false 1 x41 m) m) fun x42 m =>
  bp (G.tab Q6p [x42] m) fun x43 m =>
  bp (apS Q25 1 8 x40 x43 m) fun x44 m =>
  bp (pur (aFieldAddr 2 x10) m) fun x45 m =>
  bp (pur (aLoad false 1 x45 m) m) fun x46 m =>
  bp (pur (aFieldAddr 3 x10) m) fun x47 m =>
  bp (pur (aLoad false 1 x47 m) m) fun x48 m =>
  bp (aBuildSlice Q2 [(.string ⟨#[]⟩)] 1 2 [(0, x46), (1, x48)] m) fun x49 m =>
  bp (G.tab Qa [x44, x49] m) fun x50 m =>
  bp (aAppend Q3a 1 1 p3 x50 m) fun x51 m =>
  bp (pur (bin .add true true .int p6 (.int .i64 1)) m) fun x52 m =>
  (Q5e G k0 i) x52 p5 x51 p4 p1 m))
    (Qas G k0 p4 p1 p3 m)
def Qat (G : Gt) (k0 : Value → Value → Value → Mem → Option Rs) (p6 p5 p3 p4 p1 : Value) (m : Mem) : Option Rs :=
  Q5e G k0 G.rds p6 p5 p3 p4 p1 m
def Qau (G : Gt) (k0 : Value → Value → Value → Mem → Option Rs) (p5 p3 p4 p1 : Value) (m : Mem) : Option Rs :=
  Qat G k0 (.int .i64 0) p5 p3 p4 p1 m
def Qav (G : Gt) (k0 : Value → Value → Value → Mem → Option Rs) (p3 p5 p4 p1 : Value) (m : Mem) : Option Rs :=
  bp (pur (aFieldAddr 1 p5) m) fun x53 m =>
  bp (pur (aLoad false 1 x53 m) m) fun x54 m =>
  bp (pur (lenK 1 x54 m) m) fun x55 m =>
  bp (pur (aFieldAddr 2 p5) m) fun x56 m =>
  bp (pur (aLoad false 1 x56 m) m) fun x57 m =>
  bp (pur (aFieldAddr 0 p5) m) fun x58 m =>
  bp (pur (aLoad false 1 x58 m) m) fun x59 m =>
  bp (aBuildSlice Q2 [(.string ⟨#[]⟩)] 1 1 [(0, x59)] m) fun x60 m =>
  bp (G.tab Qz [x57] m) fun x61 m =>
  ckB (again (pur (aLoad false 1 x53 m) m) x54 && (again (pur (aLoad false 1 x58 m) m) x59 && true))
    (bp (aBuildSlice Q25 [(.int .i64 0)] 1 2 [(0, x55), (1, x61)] m) fun x62 m =>
  bp (G.tab Qa [x62, x60] m) fun x63 m =>
  bp (aAppend Q3a 1 1 p3 x63 m) fun x64 m =>
  Qau G k0 p5 x64 p4 p1 m)
def Qaw (G : Gt) (k0 : Value → Value → Value → Mem → Option Rs) (p1 p4 p3 : Value) (m : Mem) : Option Rs :=
  bp (pur (aFieldAddr 9 p1) m) fun x65 m =>
  bp (pur (aLoad false 1 x65 m) m) fun x66 m =>
  bp (pur (aIndexAddrSl 3 x66 p4) m) fun x67 m =>
  bp (pur (aLoad true 3 x67 m) m) fun x68 m =>
  bp (some (aNew Q42 Q8i m)) fun x69 m =>
  bp (unt (aStore 3 x69 x68 m)) fun _ m =>
  Qav G k0 p3 x69 p4 p1 m
def Ql (G : Gt) : Nat → Value → Value → Value → Mem → Option Rs
  | 0, _, _, _, _ => none
  | i + 1, p4, p1, p3, m =>
  bp (pur (aFieldAddr 9 p1) m) fun x70 m =>
  bp (pur (aLoad false 1 x70 m) m) fun x71 m =>
  bp (pur (lenK 1 x71 m) m) fun x72 m =>
  bp (pur (bin .lss false true .int p4 x72) m) fun x73 m =>
  brb x73
    (Qaw G (Ql G i) p1 p4 p3 m)
    (Qar G p3 m)
def Qax (G : Gt) (p4 p1 p3 : Value) (m : Mem) : Option Rs :=
  Ql G G.rds p4 p1 p3 m
def Qay (G : Gt) (p1 p3 : Value) (m : Mem) : Option Rs :=
  Qax G (.int .i64 0) p1 p3 m
def Qaz (G : Gt) (p1 : Value) (m : Mem) : Option Rs :=
  Qay G p1 (.slice none 0 0) m
def Q73 (G : Gt) (p0 : Value) (m : Mem) : Option Rs :=
  bp (some (aNew Qq (Value.cells p0).toList m)) fun x74 m =>
  Qaz G x74 m
theorem Qta (G : Gt) (a0 : Value) (m : Mem) : evFn Go.Proofs.Tryz.prog G.tab G.rds (drOf Go.Proofs.Tryz.prog G.tab) Go.Proofs.Tryz.f32 [a0] m = Q73 G a0 m :=
  evFn_of (r := fun ρ m => Q73 G (ρ 0) m) rfl rfl (tr (seqQ (f := fun ρ m => Qaz G (ρ 1) m) (tr (seqQ (f := fun ρ m => Qay G (ρ 1) (ρ 3) m) (tr (tr (seqQ (f := fun ρ m => Qar G (ρ 3) m) (fun ρ m => by kernel_rfl)) (seqQ (f := fun ρ m => Qax G (ρ 4) (ρ 1) (ρ 3) m) (tr (blockQ (loopQ (fun i ρ m => Ql G i (ρ 4) (ρ 1) (ρ 3) m) (fun _ _ => rfl) (fun i0 => tr (seqQ (f := fun ρ m => Qaw G (Ql G i0) (ρ 1) (ρ 4) (ρ 3) m) (tr (tr (seqQ (f := fun ρ m => Qas G (Ql G i0) (ρ 4) (ρ 1) (ρ 3) m) (fun ρ m => by kernel_rfl)) (blockQ (seqQ (f := fun ρ m => Qav G (Ql G i0) (ρ 3) (ρ 5) (ρ 4) (ρ 1) m) (tr (seqQ (f := fun ρ m => Qau G (Ql G i0) (ρ 5) (ρ 3) (ρ 4) (ρ 1) m) (tr (seqQ (f := fun ρ m => Qat G (Ql G i0) (ρ 6) (ρ 5) (ρ 3) (ρ 4) (ρ 1) m) (tr (blockQ (loopQ (fun i ρ m => Q5e G (Ql G i0) i (ρ 6) (ρ 5) (ρ 3) (ρ 4) (ρ 1) m) (fun _ _ => rfl) (fun i1 => fun ρ m => by kernel_rfl))) (fun ρ m => by kernel_rfl))) (fun ρ m => by kernel_rfl))) (fun ρ m => by kernel_rfl))))) (fun ρ m => by kernel_rfl))) (fun ρ m => by kernel_rfl)))) (fun ρ m => by kernel_rfl)))) (fun ρ m => by kernel_rfl))) (fun ρ m => by kernel_rfl))) (fun ρ m => by kernel_rfl)) m
def Qsw : Entry Go.Proofs.Tryz.prog := ⟨Qcx, Go.Proofs.Tryz.f32, Go.Proofs.Tryz.func32, by kernel_rfl, arg1 (fun G a0 m => Q73 G a0 m), okarg1 Qta⟩
def Qg4 (G : Gt) (p3 : Value) (m : Mem) : Option Rs :=
  some (p3, m)
def Q7x (G : Gt) : Nat → Value → Value → Value → Mem → Option Rs
  | 0, _, _, _, _ => none
  | i + 1, p4, p1, p3, m =>
  bp (pur (aFieldAddr 10 p1) m) fun x0 m =>
  bp (pur (aLoad false 1 x0 m) m) fun x1 m =>
  bp (pur (lenK 1 x1 m) m) fun x2 m =>
  bp (pur (bin .lss false true .int p4 x2) m) fun x3 m =>
  brb x3
    (bp (pur (aFieldAddr 10 p1) m) fun x4 m =>
  bp (pur (aLoad false 1 x4 m) m) fun x5 m =>
  bp (pur (aIndexAddrSl 3 x5 p4) m) fun x6 m =>
  bp (pur (aFieldAddr 1 x6) m) fun x7 m =>
  bp (pur (aLoad false 1 x7 m) m) fun x8 m =>
  bp (conv (.int .i64) x8 m) fun x9 m =>
  bp (aBuildSlice Q25 [(.int .i64 0)] 1 1 [(0, x9)] m) fun x10 m =>
  bp (pur (aFieldAddr 10 p1) m) fun x11 m =>
  bp (pur (aLoad false 1 x11 m) m) fun x12 m =>
  bp (pur (aIndexAddrSl 3 x12 p4) m) fun x13 m =>
  bp (pur (aFieldAddr 0 x13) m) fun x14 m =>
  bp (pur (aLoad false 1 x14 m) m) fun x15 m =>
  bp (aBuildSlice Q2 [(.string ⟨#[]⟩)] 1 1 [(0, x15)] m) fun x16 m =>
  bp (pur (aFieldAddr 10 p1) m) fun x17 m =>
  bp (pur (aLoad false 1 x17 m) m) fun x18 m =>
  bp (pur (aIndexAddrSl 3 x18 p4) m) fun x19 m =>
  bp (pur (aFieldAddr 2 x19) m) fun x20 m =>
  bp (pur (aLoad false 1 x20 m) m) fun x21 m =>
  bp (G.tab Qa [x10, x16] m) fun x22 m =>
  ckB (again (pur (aLoad false 1 x17 m) m) x18 && (again (pur (aLoad false 1 x20 m) m) x21 && true))
    (bp (pur (bin .add false true .str p3 x22) m) fun x23 m =>
  bp (G.tab Q76 [x21] m) fun x24 m =>
  bp (pur (bin .add false true .str x23 x24) m) fun x25 m =>
  bp (pur (bin .add true true .int p4 (.int .i64 1)) m) fun x26 m =>
  (Q7x G i) x26 p1 x25 m))
    (Qg4 G p3 m)
def Qg5 (G : Gt) (p4 p1 p3 : Value) (m : Mem) : Option Rs :=
  Q7x G G.rds p4 p1 p3 m
def Qg6 (G : Gt) (p1 p3 : Value) (m : Mem) : Option Rs :=
  Qg5 G (.int .i64 0) p1 p3 m
def Qg7 (G : Gt) (p1 : Value) (m : Mem) : Option Rs :=
  Qg6 G p1 (.string ⟨#[]⟩) m
def Q9o (G : Gt) (p0 : Value) (m : Mem) : Option Rs :=
  bp (some (aNew Qq (Value.cells p0).toList m)) fun x27 m =>
  Qg7 G x27 m
theorem Qwt (G : Gt) (a0 : Value) (m : Mem) : evFn Go.Proofs.Tryz.prog G.tab G.rds (drOf Go.Proofs.Tryz.prog G.tab) Go.Proofs.Tryz.f33 [a0] m = Q9o G a0 m :=
  evFn_of (r := fun ρ m => Q9o G (ρ 0) m) rfl rfl (tr (seqQ (f := fun ρ m => Qg7 G (ρ 1) m) (tr (seqQ (f := fun ρ m => Qg6 G (ρ 1) (ρ 3) m) (tr (tr (seqQ (f := fun ρ m => Qg4 G (ρ 3) m) (fun ρ m => by kernel_rfl)) (seqQ (f := fun ρ m => Qg5 G (ρ 4) (ρ 1) (ρ 3) m) (tr (blockQ (loopQ (fun i ρ m => Q7x G i (ρ 4) (ρ 1) (ρ 3) m) (fun _ _ => rfl) (fun i0 => fun ρ m => by kernel_rfl))) (fun ρ m => by kernel_rfl)))) (fun ρ m => by kernel_rfl))) (fun ρ m => by kernel_rfl))) (fun ρ m => by kernel_rfl)) m
def Qwm : Entry Go.Proofs.Tryz.prog := ⟨Qjj, Go.Proofs.Tryz.f33, Go.Proofs.Tryz.func33, by kernel_rfl, arg1 (fun G a0 m => Q9o G a0 m), okarg1 Qwt⟩
end
end Go.Ab.Sh

set_option linter.unusedVariables false
set_option maxRecDepth 100000
namespace Go.Ab.Sh
open Go Go.Ab
noncomputable section
def Qhp (G : Gt) (p3 : Value) (m : Mem) : Option Rs :=
  some (p3, m)
def Qhq (G : Gt) (k0 : Value → Value → Value → Mem → Option Rs) (p4 p1 p3 : Value) (m : Mem) : Option Rs :=
  bp (pur (bin .add true true .int p4 (.int .i64 1)) m) fun x0 m =>
  k0 x0 p1 p3 m
def Q7y (G : Gt) (k0 : Value → Value → Value → Mem → Option Rs) : Nat → Value → Value → Value → Value → Value → Mem → Option Rs
  | 0, _, _, _, _, _, _ => none
  | i + 1, p7, p5, p3, p4, p1, m =>
  bp (pur (aFieldAddr 4 p5) m) fun x1 m =>
  bp (pur (aLoad false 1 x1 m) m) fun x2 m =>
  bp (pur (lenK 1 x2 m) m) fun x3 m =>
  bp (pur (bin .lss false true .int p7 x3) m) fun x4 m =>
  brb x4
    (bp (pur (aFieldAddr 4 p5) m) fun x5 m =>
  bp (pur (aLoad false 1 x5 m) m) fun x6 m =>
  bp (pur (aIndexAddrSl 6 x6 p7) m) fun x7 m =>
  bp (pur (aLoad true 6 x7 m) m) fun x8 m =>
  bp (some (aNew Qdp Qi9 m)) fun x9 m =>
  bp (unt (aStore 6 x9 x8 m)) fun _ m =>
  bp (pur (aFieldAddr 0 x9) m) fun x10 m =>
  bp (pur (aLoad false 1 x10 m) m) fun x11 m =>
  bp (conv (.int .i64) x11 m) fun x12 m =>
  bp (pur (aFieldAddr 1 x9) m) fun x13 m =>
  bp (pur (aLoad false 1 x13 m) m) fun x14 m =>
  bp (conv (.int .i64) x14 m) fun x15 m =>
  bp (pur (aFieldAddr 4 x9) m) fun x16 m =>
  bp (pur (aLoad false 1 x16 m) m) fun x17 m =>
  bp (pur (aFieldAddr 5 x9) m) fun x18 m =>
  bp (pur (aLoad false 1 x18 m) m) fun x19 m =>
  bp (pur (aFieldAddr 2 x9) m) fun x20 m =>
  bp (pur (aLoad false 1 x20 m) m) fun x21 m =>
  bp (pur (aFieldAddr 3 x9) m) fun x22 m =>
  bp (pur (aLoad false 1 x22 m) m) fun x23 m =>
  bp (aBuildSlice Q2 [(.string ⟨#[]⟩)] 1 2 [(0, x21), (1, x23)] m) fun x24 m =>
  bp (G.tab Qz [x17] m) fun x25 m =>
  ckB (again (pur (aLoad false 1 x10 m) m) x11 && (again (pur (aLoad false 1 x13 m) m) x14 && (again (pur (aLoad false 1 x18 m) m) x19 && (again (pur (aLoad false 1 x20 m) m) x21 && (again (pur (aLoad false 1 x22 m) m) x23 && true)))))
    (bp (G.tab Qz [x19] m) fun x26 m =>
  ckB (again (pur (aLoad false 1 x10 m) m) x11 && (again (pur (aLoad false 1 x13 m) m) x14 && (again (pur (aLoad false 1 x20 m) m) x21 && (again (pur (aLoad false 1 x22 m) m) x23 && true))))
    (bp (aBuildSlice Q25 [(.int .i64 0)] 1 4 [(0, x12), (1, x15), (2, x25), (3, x26)] m) fun x27 m =>
  bp (G.tab Qa [x27, x24] m) fun x28 m =>
  bp (pur (bin .add false true .str p3 x28) m) fun x29 m =>
  bp (pur (bin .add true true .int p7 (.int .i64 1)) m) fun x30 m =>
  (Q7y G k0 i) x30 p5 x29 p4 p1 m)))
    (Qhq G k0 p4 p1 p3 m)
def Qg8 (G : Gt) (k0 : Value → Value → Value → Mem → Option Rs) (p7 p5 p3 p4 p1 : Value) (m : Mem) : Option Rs :=
  Q7y G k0 G.rds p7 p5 p3 p4 p1 m
def Qhr (G : Gt) (k0 : Value → Value → Value → Mem → Option Rs) (p5 p3 p4 p1 : Value) (m : Mem) : Option Rs :=
  Qg8 G k0 (.int .i64 0) p5 p3 p4 p1 m
def Q7z (G : Gt) (k0 : Value → Value → Value → Mem → Option Rs) : Nat → Value → Value → Value → Value → Value → Mem → Option Rs
  | 0, _, _, _, _, _, _ => none
  | i + 1, p6, p5, p3, p4, p1, m =>
  bp (pur (aFieldAddr 3 p5) m) fun x31 m =>
  bp (pur (aLoad false 1 x31 m) m) fun x32 m =>
  bp (pur (lenK 1 x32 m) m) fun x33 m =>
  bp (pur (bin .lss false true .int p6 x33) m) fun x34 m =>
  brb x34
    (bp (pur (aFieldAddr 3 p5) m) fun x35 m =>
  bp (pur (aLoad false 1 x35 m) m) fun x36 m =>
  bp (pur (aIndexAddrSl 2 x36 p6) m) fun x37 m =>
  bp (pur (aFieldAddr 0 x37) m) fun x38 m =>
  bp (pur (aLoad false 1 x38 m) m) fun x39 m =>
  bp (conv (.int .i64) x39 m) fun x40 m =>
  bp (pur (aFieldAddr 3 p5) m) fun x41 m =>
  bp (pur (aLoad false 1 x41 m) m) fun x42 m =>
  bp (pur (aIndexAddrSl 2 x42 p6) m) fun x43 m =>
  bp (pur (aFieldAddr 1 x43) m) fun x44 m =>
  bp (pur (aLoad false 1 x44 m) m) fun x45 m =>
  bp (aBuildSlice Q25 [(.int .i64 0)] 1 2 [(0, x40), (1, x45)] m) fun x46 m =>
  bp (G.tab Qa [x46, (.slice none 0 0)] m) fun x47 m =>
  bp (pur (bin .add false true .str p3 x47) m) fun x48 m =>
  bp (pur (bin .add true true .int p6 (.int .i64 1)) m) fun x49 m =>
  (Q7z G k0 i) x49 p5 x48 p4 p1 m)
    (Qhr G k0 p5 p3 p4 p1 m)
def Qg9 (G : Gt) (k0 : Value → Value → Value → Mem → Option Rs) (p6 p5 p3 p4 p1 : Value) (m : Mem) : Option Rs :=
  Q7z G k0 G.rds p6 p5 p3 p4 p1 m
def Qhs (G : Gt) (k0 : Value → Value → Value → Mem → Option Rs) (p5 p3 p4 p1 : Value) (m : Mem) : Option Rs :=
  Qg9 G k0 (.int .i64 0) p5 p3 p4 p1 m
def Qht (G : Gt) (k0 : Value → Value → Value → Mem → Option Rs) (p3 p5 p4 p1 : Value) (m : Mem) : Option Rs :=
  bp (pur (aFieldAddr 1 p5) m) fun x50 m =>
  bp (pur (aLoad false 1 x50 m) m) fun x51 m =>
  bp (conv (.int .i64) x51 m) fun x52 m =>
  bp (pur (aFieldAddr 2 p5) m) fun x53 m =>
  bp (pur (aLoad false 1 x53 m) m) fun x54 m =>
  bp (conv (.int .i64) x54 m) fun x55 m =>
  bp (pur (aFieldAddr 3 p5) m) fun x56 m =>
  bp (pur (aLoad false 1 x56 m) m) fun x57 m =>
  bp (pur (lenK 1 x57 m) m) fun x58 m =>
  bp (pur (aFieldAddr 4 p5) m) fun x59 m =>
  bp (pur (aLoad false 1 x59 m) m) fun x60 m =>
  bp (pur (lenK 1 x60 m) m) fun x61 m =>
  bp (aBuildSlice Q25 [(.int .i64 0)] 1 4 [(0, x52), (1, x55), (2, x58), (3, x61)] m) fun x62 m =>
  bp (pur (aFieldAddr 0 p5) m) fun x63 m =>
  bp (pur (aLoad false 1 x63 m) m) fun x64 m =>
  bp (aBuildSlice Q2 [(.string ⟨#[]⟩)] 1 1 [(0, x64)] m) fun x65 m =>
  bp (pur (aFieldAddr 5 p5) m) fun x66 m =>
  bp (pur (aLoad false 1 x66 m) m) fun x67 m =>
  bp (G.tab Qa [x62, x65] m) fun x68 m =>
  ckB (again (pur (aLoad false 1 x66 m) m) x67 && true)
    (bp (pur (bin .add false true .str p3 x68) m) fun x69 m =>
  bp (G.tab Q76 [x67] m) fun x70 m =>
  bp (pur (bin .add false true .str x69 x70) m) fun x71 m =>
  Qhs G k0 p5 x71 p4 p1 m)
def Qhu (G : Gt) (k0 : Value → Value → Value → Mem → Option Rs) (p1 p4 p3 : Value) (m : Mem) : Option Rs :=
  bp (pur (aFieldAddr 11 p1) m) fun x72 m =>
  bp (pur (aLoad false 1 x72 m) m) fun x73 m =>
  bp (pur (aIndexAddrSl 6 x73 p4) m) fun x74 m =>
  bp (pur (aLoad true 6 x74 m) m) fun x75 m =>
  bp (some (aNew Q9y Qn3 m)) fun x76 m =>
  bp (unt (aStore 6 x76 x75 m)) fun _ m =>
  Qht G k0 p3 x76 p4 p1 m
def Qj (G : Gt) : Nat → Value → Value → Value → Mem → Option Rs
  | 0, _, _, _, _ => none
  | i + 1, p4, p1, p3, m =>
  bp (pur (aFieldAddr 11 p1) m) fun x77 m =>
  bp (pur (aLoad false 1 x77 m) m) fun x78 m =>
  bp (pur (lenK 1 x78 m) m) fun x79 m =>
  bp (pur (bin .lss false true .int p4 x79) m) fun x80 m =>
  brb x80
    (Qhu G (Qj G i) p1 p4 p3 m)
    (Qhp G p3 m)
def Qhv (G : Gt) (p4 p1 p3 : Value) (m : Mem) : Option Rs :=
  Qj G G.rds p4 p1 p3 m
def Qhw (G : Gt) (p1 p3 : Value) (m : Mem) : Option Rs :=
  Qhv G (.int .i64 0) p1 p3 m
def Qhx (G : Gt) (p1 : Value) (m : Mem) : Option Rs :=
  Qhw G p1 (.string ⟨#[]⟩) m
def Qam (G : Gt) (p0 : Value) (m : Mem) : Option Rs :=
  bp (some (aNew Qq (Value.cells p0).toList m)) fun x81 m =>
  Qhx G x81 m
theorem Qz0 (G : Gt) (a0 : Value) (m : Mem) : evFn Go.Proofs.Tryz.prog G.tab G.rds (drOf Go.Proofs.Tryz.prog G.tab) Go.Proofs.Tryz.f34 [a0] m = Qam G a0 m :=
  evFn_of (r := fun ρ m => Qam G (ρ 0) m) rfl rfl (tr (seqQ (f := fun ρ m => Qhx G (ρ 1) m) (tr (seqQ (f := fun ρ m => Qhw G (ρ 1) (ρ 3) m) (tr (tr (seqQ (f := fun ρ m => Qhp G (ρ 3) m) (fun ρ m => by kernel_rfl)) (seqQ (f := fun ρ m => Qhv G (ρ 4) (ρ 1) (ρ 3) m) (tr (blockQ (loopQ (fun i ρ m => Qj G i (ρ 4) (ρ 1) (ρ 3) m) (fun _ _ => rfl) (fun i0 => tr (seqQ (f := fun ρ m => Qhu G (Qj G i0) (ρ 1) (ρ 4) (ρ 3) m) (tr (tr (seqQ (f := fun ρ m => Qhq G (Qj G i0) (ρ 4) (ρ 1) (ρ 3) m) (fun ρ m => by kernel_rfl)) (blockQ (seqQ (f := fun ρ m => Qht G (Qj G i0) (ρ 3) (ρ 5) (ρ 4) (ρ 1) m) (tr (seqQ (f := fun ρ m => Qhs G (Qj G i0) (ρ 5) (ρ 3) (ρ 4) (ρ 1) m) (tr (tr (seqQ (f := fun ρ m => Qhr G (Qj G i0) (ρ 5) (ρ 3) (ρ 4) (ρ 1) m) (tr (seqQ (f := fun ρ m => Qg8 G (Qj G i0) (ρ 7) (ρ 5) (ρ 3) (ρ 4) (ρ 1) m) (tr (blockQ (loopQ (fun i ρ m => Q7y G (Qj G i0) i (ρ 7) (ρ 5) (ρ 3) (ρ 4) (ρ 1) m) (fun _ _ => rfl) (fun i1 => fun ρ m => by kernel_rfl))) (fun ρ m => by kernel_rfl))) (fun ρ m => by kernel_rfl))) (seqQ (f := fun ρ m => Qg9 G (Qj G i0) (ρ 6) (ρ 5) (ρ 3) (ρ 4) (ρ 1) m) (tr (blockQ (loopQ (fun i ρ m => Q7z G (Qj G i0) i (ρ 6) (ρ 5) (ρ 3) (ρ 4) (ρ 1) m) (fun _ _ => rfl) (fun i1 => fun ρ m => by kernel_rfl))) (fun ρ m => by kernel_rfl)))) (fun ρ m => by kernel_rfl))) (fun ρ m => by kernel_rfl))))) (fun ρ m => by kernel_rfl))) (fun ρ m => by kernel_rfl)))) (fun ρ m => by kernel_rfl)))) (fun ρ m => by kernel_rfl))) (fun ρ m => by kernel_rfl))) (fun ρ m => by kernel_rfl)) m
def Qyu : Entry Go.Proofs.Tryz.prog := ⟨Qlp, Go.Proofs.Tryz.f34, Go.Proofs.Tryz.func34, by kernel_rfl, arg1 (fun G a0 m => Qam G a0 m), okarg1 Qz0⟩
def Qtu (G : Gt) (p2 : Value) (m : Mem) : Option Rs :=
  bp (pur (aBuild Qk [(0, 1), (1, 1)] []) m) fun x0 m =>
  bp (unt (aStore 2 p2 x0 m)) fun _ m =>
  ob (ob (aLoad true 2 p2 m) fun v => ob (some [(.int .i64 0)]) fun l => some (v :: l)) fun l => some (resVal l, m)
def Q7a (G : Gt) (k0 : Value → Value → Value → Value → Value → Mem → Option Rs) (p13 p12 p4 p2 p0 : Value) (m : Mem) : Option Rs :=
  bp (pur (bin .add true true .int p13 (.int .i64 1)) m) fun x1 m =>
  k0 x1 p12 p4 p2 p0 m
def Q6c (G : Gt) (k0 : Value → Value → Value → Value → Value → Mem → Option Rs) (p30 p4 p2 p13 p12 p0 : Value) (m : Mem) : Option Rs :=
  brb p30
    (bp (pur (aLoad true 2 p4 m) m) fun x7 m =>
  bp (unt (aStore 2 p2 x7 m)) fun _ m =>
  ob (ob (aLoad true 2 p2 m) fun v => ob (some [(.int .i64 70)]) fun l => some (v :: l)) fun l => some (resVal l, m))
    (bp (pur (aFieldAddr 1 p4) m) fun x8 m =>
  bp (pur (aLoad false 1 x8 m) m) fun x9 m =>
  bp (pur (bin .add true true .int x9 (.int .i64 1)) m) fun x10 m =>
  bp (pur (aFieldAddr 1 p4) m) fun x11 m =>
  bp (unt (aStore 1 x11 x10 m)) fun _ m =>
  Q7a G k0 p13 p12 p4 p2 p0 m)
def Q8f (G : Gt) (k0 : Value → Value → Value → Value → Value → Mem → Option Rs) (p21 p4 p13 p12 p2 p0 p5 : Value) (m : Mem) : Option Rs :=
  brb p21
    (bp (pur (aFieldAddr 0 p4) m) fun x3 m =>
  bp (pur (aLoad false 1 x3 m) m) fun x4 m =>
  bp (pur (bin .add true true .int x4 (.int .i64 1)) m) fun x5 m =>
  bp (pur (aBuild Qk [(0, 1), (1, 1)] [(0, x5), (1, (.int .i64 1))]) m) fun x6 m =>
  bp (unt (aStore 2 p4 x6 m)) fun _ m =>
  Q7a G k0 p13 p12 p4 p2 p0 m)
    (bp (pur (aIndexStr p0 p5) m) fun x12 m =>
  bp (pur (bin .lss true true .int x12 (.int .u8 32)) m) fun x13 m =>
  brb x13
    (Q6c G k0 (.bool true) p4 p2 p13 p12 p0 m)
    (bp (pur (aIndexStr p0 p5) m) fun x14 m =>
  bp (pur (bin .gtr true true .int x14 (.int .u8 126)) m) fun x15 m =>
  Q6c G k0 x15 p4 p2 p13 p12 p0 m))
def Q6b (G : Gt) (k0 : Value → Value → Value → Value → Value → Mem → Option Rs) (p16 p4 p2 p0 p5 p13 p12 : Value) (m : Mem) : Option Rs :=
  brb p16
    (bp (pur (aLoad true 2 p4 m) m) fun x2 m =>
  bp (unt (aStore 2 p2 x2 m)) fun _ m =>
  ob (ob (aLoad true 2 p2 m) fun v => ob (some [(.int .i64 3)]) fun l => some (v :: l)) fun l => some (resVal l, m))
    (bp (pur (aIndexStr p0 p5) m) fun x16 m =>
  bp (pur (bin .eql true true .int x16 (.int .u8 10)) m) fun x17 m =>
  Q8f G k0 x17 p4 p13 p12 p2 p0 p5 m)
def Q79 (G : Gt) (k0 : Value → Value → Value → Value → Value → Mem → Option Rs) (p4 p2 p0 p5 p13 p12 : Value) (m : Mem) : Option Rs :=
  bp (pur (aFieldAddr 0 p4) m) fun x18 m =>
  bp (pur (aLoad false 1 x18 m) m) fun x19 m =>
  bp (pur (bin .gtr true true .int x19 (.int .i64 4096)) m) fun x20 m =>
  Q6b G k0 x20 p4 p2 p0 p5 p13 p12 m
def Q78 (G : Gt) (k0 : Value → Value → Value → Value → Value → Mem → Option Rs) (p13 p4 p2 p0 p12 : Value) (m : Mem) : Option Rs :=
  Q79 G k0 p4 p2 p0 p13 p13 p12 m
def Q5j (G : Gt) (k0 : Value → Value → Value → Value → Value → Mem → Option Rs) (p14 p13 p4 p2 p0 p12 : Value) (m : Mem) : Option Rs :=
  brb p14
    (Q78 G k0 p13 p4 p2 p0 p12 m)
    (Qtu G p2 m)
def Q1h (G : Gt) : Nat → Value → Value → Value → Value → Value → Mem → Option Rs
  | 0, _, _, _, _, _, _ => none
  | i + 1, p13, p12, p4, p2, p0, m =>
  bp (pur (bin .lss false true .int p13 p12) m) fun x21 m =>
  Q5j G (Q1h G i) x21 p13 p4 p2 p0 p12 m
def Qty (G : Gt) (p13 p12 p4 p2 p0 : Value) (m : Mem) : Option Rs :=
  Q1h G G.rds p13 p12 p4 p2 p0 m
def Qtx (G : Gt) (p0 p4 p2 : Value) (m : Mem) : Option Rs :=
  bp (pur (lenK 0 p0 m) m) fun x22 m =>
  Qty G (.int .i64 0) x22 p4 p2 p0 m
def Qtw (G : Gt) (p0 p2 : Value) (m : Mem) : Option Rs :=
  bp (pur (aBuild Qk [(0, 1), (1, 1)] [(0, (.int .i64 1)), (1, (.int .i64 1))]) m) fun x23 m =>
  bp (some (aNew Qr Qk m)) fun x24 m =>
  bp (unt (aStore 2 x24 x23 m)) fun _ m =>
  Qtx G p0 x24 p2 m
def Qtv (G : Gt) (p0 p2 : Value) (m : Mem) : Option Rs :=
  bp (pur (lenK 0 p0 m) m) fun x25 m =>
  bp (pur (bin .gtr true true .int x25 (.int .i64 65536)) m) fun x26 m =>
  brb x26
    (bp (pur (aBuild Qk [(0, 1), (1, 1)] []) m) fun x27 m =>
  bp (unt (aStore 2 p2 x27 m)) fun _ m =>
  ob (ob (aLoad true 2 p2 m) fun v => ob (some [(.int .i64 3)]) fun l => some (v :: l)) fun l => some (resVal l, m))
    (Qtw G p0 p2 m)
def Ql4 (G : Gt) (p0 : Value) (m : Mem) : Option Rs :=
  bp (some (aNew Qr Qk m)) fun x28 m =>
  Qtv G p0 x28 m
theorem Q1d1 (G : Gt) (a0 : Value) (m : Mem) : evFn Go.Proofs.Tryz.prog G.tab G.rds (drOf Go.Proofs.Tryz.prog G.tab) Go.Proofs.Tryz.f35 [a0] m = Ql4 G a0 m :=
  evFn_of (r := fun ρ m => Ql4 G (ρ 0) m) rfl rfl (tr (seqQ (f := fun ρ m => Qtv G (ρ 0) (ρ 2) m) (tr (seqQ (f := fun ρ m => Qtw G (ρ 0) (ρ 2) m) (tr (seqQ (f := fun ρ m => Qtx G (ρ 0) (ρ 4) (ρ 2) m) (tr (tr (seqQ (f := fun ρ m => Qtu G (ρ 2) m) (fun ρ m => by kernel_rfl)) (seqQ (f := fun ρ m => Qty G (ρ 13) (ρ 12) (ρ 4) (ρ 2) (ρ 0) m) (tr (blockQ (loopQ (fun i ρ m => Q1h G i (ρ 13) (ρ 12) (ρ 4) (ρ 2) (ρ 0) m) (fun _ _ => rfl) (fun i0 => tr (seqQ (f := fun ρ m => Q5j G (Q1h G i0) (ρ 14) (ρ 13) (ρ 4) (ρ 2) (ρ 0) (ρ 12) m) (tr (seqQ (f := fun ρ m => Q78 G (Q1h G i0) (ρ 13) (ρ 4) (ρ 2) (ρ 0) (ρ 12) m) (tr (tr (seqQ (f := fun ρ m => Q7a G (Q1h G i0) (ρ 13) (ρ 12) (ρ 4) (ρ 2) (ρ 0) m) (fun ρ m => by kernel_rfl)) (blockQ (seqQ (f := fun ρ m => Q79 G (Q1h G i0) (ρ 4) (ρ 2) (ρ 0) (ρ 5) (ρ 13) (ρ 12) m) (tr (tr seqD (blockQ (seqQ (f := fun ρ m => Q6b G (Q1h G i0) (ρ 16) (ρ 4) (ρ 2) (ρ 0) (ρ 5) (ρ 13) (ρ 12) m) (tr (condQ (refQ) (seqQ (f := fun ρ m => Q8f G (Q1h G i0) (ρ 21) (ρ 4) (ρ 13) (ρ 12) (ρ 2) (ρ 0) (ρ 5) m) (tr (condQ (refQ) (seqQ (f := fun ρ m => Q6c G (Q1h G i0) (ρ 30) (ρ 4) (ρ 2) (ρ 13) (ρ 12) (ρ 0) m) (fun ρ m => by kernel_rfl))) (fun ρ m => by kernel_rfl)))) (fun ρ m => by kernel_rfl))))) (fun ρ m => by kernel_rfl))))) (fun ρ m => by kernel_rfl))) (fun ρ m => by kernel_rfl))) (fun ρ m => by kernel_rfl)))) (fun ρ m => by kernel_rfl)))) (fun ρ m => by kernel_rfl))) (fun ρ m => by kernel_rfl))) (fun ρ m => by kernel_rfl))) (fun ρ m => by kernel_rfl)) m
def Qsj : Entry Go.Proofs.Tryz.prog := ⟨Ql5, Go.Proofs.Tryz.f35, Go.Proofs.Tryz.func35, by kernel_rfl, arg1 (fun G a0 m => Ql4 G a0 m), okarg1 Q1d1⟩
def Qq4 (G : Gt) (p0 p1 : Value) (m : Mem) : Option Rs :=
  bp (G.tab Qsu [p0, p1, (.int .i64 0), (.int .i64 (-1))] m) fun x0 m =>
  some (x0, m)
theorem Q197 (G : Gt) (a0 a1 : Value) (m : Mem) : evFn Go.Proofs.Tryz.prog G.tab G.rds (drOf Go.Proofs.Tryz.prog G.tab) Go.Proofs.Tryz.f36 [a0, a1] m = Qq4 G a0 a1 m :=
  evFn_of (r := fun ρ m => Qq4 G (ρ 0) (ρ 1) m) rfl rfl (fun ρ m => by kernel_rfl) m
def Q193 : Entry Go.Proofs.Tryz.prog := ⟨Qoh, Go.Proofs.Tryz.f36, Go.Proofs.Tryz.func36, by kernel_rfl, arg2 (fun G a0 a1 m => Qq4 G a0 a1 m), okarg2 Q197⟩
def Qdq (G : Gt) (p21 p0 p1 : Value) (m : Mem) : Option Rs :=
  brb p21
    (bp (pur (aIndexStr p1 (.int .i64 0)) m) fun x0 m =>
  bp (G.tab Qa7 [p0, x0] m) fun x1 m =>
  some (x1, m))
    (bp (G.tab Qa8 [p1] m) fun x2 m =>
  bp (pur (aExtract x2 0) m) fun x3 m =>
  bp (pur (aExtract x2 1) m) fun x4 m =>
  bp (some (aNew Qgq Qgr m)) fun x5 m =>
  bp (unt (aStore 256 x5 x3 m)) fun _ m =>
  brb x4
    (bp (G.tab Q9a [p0, x5] m) fun x6 m =>
  some (x6, m))
    (bp (G.tab Qfw [p0, p1] m) fun x7 m =>
  some (x7, m)))
def Qq5 (G : Gt) (p1 p0 : Value) (m : Mem) : Option Rs :=
  bp (pur (lenK 0 p1 m) m) fun x8 m =>
  bp (pur (bin .eql true true .int x8 (.int .i64 1)) m) fun x9 m =>
  brb x9
    (bp (pur (aIndexStr p1 (.int .i64 0)) m) fun x10 m =>
  bp (pur (bin .lss true true .int x10 (.int .u8 128)) m) fun x11 m =>
  Qdq G x11 p0 p1 m)
    (Qdq G (.bool false) p0 p1 m)
def Qdr (G : Gt) (p12 p0 p1 : Value) (m : Mem) : Option Rs :=
  brb p12
    (some (p0, m))
    (Qq5 G p1 p0 m)
def Qq6 (G : Gt) (p0 p1 : Value) (m : Mem) : Option Rs :=
  bp (pur (bin .eql true true .str p0 (.string ⟨#[]⟩)) m) fun x12 m =>
  brb x12
    (Qdr G (.bool true) p0 p1 m)
    (bp (pur (bin .eql true true .str p1 (.string ⟨#[]⟩)) m) fun x13 m =>
  Qdr G x13 p0 p1 m)
def Qhy (G : Gt) (p0 p1 : Value) (m : Mem) : Option Rs :=
  Qq6 G p0 p1 m
theorem Q16o (G : Gt) (a0 a1 : Value) (m : Mem) : evFn Go.Proofs.Tryz.prog G.tab G.rds (drOf Go.Proofs.Tryz.prog G.tab) Go.Proofs.Tryz.f37 [a0, a1] m = Qhy G a0 a1 m :=
  evFn_of (r := fun ρ m => Qhy G (ρ 0) (ρ 1) m) rfl rfl (tr (seqQ (f := fun ρ m => Qq6 G (ρ 0) (ρ 1) m) (tr (tr (seqQ (f := fun ρ m => Qq5 G (ρ 1) (ρ 0) m) (tr (tr seqD (seqQ (f := fun ρ m => Qdq G (ρ 21) (ρ 0) (ρ 1) m) (fun ρ m => by kernel_rfl))) (fun ρ m => by kernel_rfl))) (seqQ (f := fun ρ m => Qdr G (ρ 12) (ρ 0) (ρ 1) m) (fun ρ m => by kernel_rfl))) (fun ρ m => by kernel_rfl))) (fun ρ m => by kernel_rfl)) m
def Q15z : Entry Go.Proofs.Tryz.prog := ⟨Qhm, Go.Proofs.Tryz.f37, Go.Proofs.Tryz.func37, by kernel_rfl, arg2 (fun G a0 a1 m => Qhy G a0 a1 m), okarg2 Q16o⟩
def Qua (G : Gt) (p0 p1 : Value) (m : Mem) : Option Rs :=
  bp (G.tab Qea [p0, p1] m) fun x0 m =>
  bp (pur (aExtract x0 0) m) fun x1 m =>
  bp (pur (aExtract x0 1) m) fun x2 m =>
  bp (pur (aExtract x0 2) m) fun x3 m =>
  some (.tuple ⟨[x1, x2, x3]⟩, m)
theorem Q1ax (G : Gt) (a0 a1 : Value) (m : Mem) : evFn Go.Proofs.Tryz.prog G.tab G.rds (drOf Go.Proofs.Tryz.prog G.tab) Go.Proofs.Tryz.f38 [a0, a1] m = Qua G a0 a1 m :=
  evFn_of (r := fun ρ m => Qua G (ρ 0) (ρ 1) m) rfl rfl (fun ρ m => by kernel_rfl) m
def Q1as : Entry Go.Proofs.Tryz.prog := ⟨Qm8, Go.Proofs.Tryz.f38, Go.Proofs.Tryz.func38, by kernel_rfl, arg2 (fun G a0 a1 m => Qua G a0 a1 m), okarg2 Q1ax⟩
def Qfd (G : Gt) (p0 : Value) (m : Mem) : Option Rs :=
  bp (G.tab Q3z [p0] m) fun x0 m =>
  bp (pur (un .not x0) m) fun x1 m =>
  brb x1
    (bp (pur (aNilCheck p0) m) fun x2 m =>
  bp (pur (aFieldAddr 0 x2) m) fun x3 m =>
  bp (pur (aLoad false 1 x3 m) m) fun x4 m =>
  bp (pur (aNilCheck p0) m) fun x5 m =>
  bp (pur (aFieldAddr 0 x5) m) fun x6 m =>
  bp (pur (aLoad false 1 x6 m) m) fun x7 m =>
  bp (pur (lenK 1 x7 m) m) fun x8 m =>
  bp (pur (bin .sub true true .int x8 (.int .i64 1)) m) fun x9 m =>
  bp (pur (aIndexAddrSl 3 x4 x9) m) fun x10 m =>
  bp (pur (aLoad true 3 x10 m) m) fun x11 m =>
  bp (some (aNew Q12a Q129 m)) fun x12 m =>
  bp (unt (aStore 3 x12 x11 m)) fun _ m =>
  bp (pur (aFieldAddr 1 x12) m) fun x13 m =>
  bp (pur (aFieldAddr 0 x13) m) fun x14 m =>
  bp (pur (aLoad false 1 x14 m) m) fun x15 m =>
  bp (pur (aFieldAddr 1 x12) m) fun x16 m =>
  bp (pur (aFieldAddr 1 x16) m) fun x17 m =>
  bp (pur (aLoad false 1 x17 m) m) fun x18 m =>
  bp (pur (aFieldAddr 0 x12) m) fun x19 m =>
  bp (pur (aLoad false 1 x19 m) m) fun x20 m =>
  bp (pur (lenK 0 x20 m) m) fun x21 m =>
  bp (pur (bin .add false true .int x18 x21) m) fun x22 m =>
  bp (pur (aBuild Qk [(0, 1), (1, 1)] [(0, x15), (1, x22)]) m) fun x23 m =>
  bp (G.tab Q31 [p0, x23, (.int .i64 130)] m) fun x24 m =>
  some ((.string ⟨#[]⟩), m))
    (bp (pur (aNilCheck p0) m) fun x25 m =>
  bp (pur (aFieldAddr 1 x25) m) fun x26 m =>
  bp (pur (aLoad false 1 x26 m) m) fun x27 m =>
  bp (pur (bin .add true true .int x27 (.int .i64 1)) m) fun x28 m =>
  bp (pur (aNilCheck p0) m) fun x29 m =>
  bp (pur (aFieldAddr 1 x29) m) fun x30 m =>
  bp (unt (aStore 1 x30 x28 m)) fun _ m =>
  bp (pur (aNilCheck p0) m) fun x31 m =>
  bp (pur (aFieldAddr 0 x31) m) fun x32 m =>
  bp (pur (aLoad false 1 x32 m) m) fun x33 m =>
  bp (pur (aNilCheck p0) m) fun x34 m =>
  bp (pur (aFieldAddr 1 x34) m) fun x35 m =>
  bp (pur (aLoad false 1 x35 m) m) fun x36 m =>
  bp (pur (bin .sub true true .int x36 (.int .i64 1)) m) fun x37 m =>
  bp (pur (aIndexAddrSl 3 x33 x37) m) fun x38 m =>
  bp (pur (aFieldAddr 0 x38) m) fun x39 m =>
  bp (pur (aLoad false 1 x39 m) m) fun x40 m =>
  some (x40, m))
theorem Q14p (G : Gt) (a0 : Value) (m : Mem) : evFn Go.Proofs.Tryz.prog G.tab G.rds (drOf Go.Proofs.Tryz.prog G.tab) Go.Proofs.Tryz.f39 [a0] m = Qfd G a0 m :=
  evFn_of (r := fun ρ m => Qfd G (ρ 0) m) rfl rfl (fun ρ m => by kernel_rfl) m
def Q146 : Entry Go.Proofs.Tryz.prog := ⟨Qg, Go.Proofs.Tryz.f39, Go.Proofs.Tryz.func39, by kernel_rfl, arg1 (fun G a0 m => Qfd G a0 m), okarg1 Q14p⟩
def Qc9 (G : Gt) (p3 : Value) (m : Mem) : Option Rs :=
  some (p3, m)
def Qny (G : Gt) (p3 p0 : Value) (m : Mem) : Option Rs :=
  bp (G.tab Q190 [p3] m) fun x0 m =>
  bp (pur (un .not x0) m) fun x1 m =>
  brb x1
    (bp (G.tab Q8 [p0, (.int .i64 130)] m) fun x2 m =>
  Qc9 G p3 m)
    (Qc9 G p3 m)
def Qnz (G : Gt) (p0 : Value) (m : Mem) : Option Rs :=
  bp (G.tab Qg [p0] m) fun x3 m =>
  Qny G x3 p0 m
def Qfe (G : Gt) (p0 : Value) (m : Mem) : Option Rs :=
  Qnz G p0 m
theorem Q14q (G : Gt) (a0 : Value) (m : Mem) : evFn Go.Proofs.Tryz.prog G.tab G.rds (drOf Go.Proofs.Tryz.prog G.tab) Go.Proofs.Tryz.f40 [a0] m = Qfe G a0 m :=
  evFn_of (r := fun ρ m => Qfe G (ρ 0) m) rfl rfl (tr (seqQ (f := fun ρ m => Qnz G (ρ 0) m) (tr (seqQ (f := fun ρ m => Qny G (ρ 3) (ρ 0) m) (tr (seqQ (f := fun ρ m => Qc9 G (ρ 3) m) (fun ρ m => by kernel_rfl)) (fun ρ m => by kernel_rfl))) (fun ρ m => by kernel_rfl))) (fun ρ m => by kernel_rfl)) m
def Q14d : Entry Go.Proofs.Tryz.prog := ⟨Qh, Go.Proofs.Tryz.f40, Go.Proofs.Tryz.func40, by kernel_rfl, arg1 (fun G a0 m => Qfe G a0 m), okarg1 Q14q⟩
def Q9p (G : Gt) (p0 p4 : Value) (m : Mem) : Option Rs :=
  bp (pur (aNilCheck p0) m) fun x0 m =>
  bp (pur (aFieldAddr 14 x0) m) fun x1 m =>
  bp (pur (aLoad false 1 x1 m) m) fun x2 m =>
  bp (unt (aMapUpdate .str x2 p4 (.bool true) m)) fun _ m =>
  some (.tuple ⟨[]⟩, m)
def Qjk (G : Gt) (p0 p4 : Value) (m : Mem) : Option Rs :=
  bp (pur (aNilCheck p0) m) fun x3 m =>
  bp (pur (aFieldAddr 15 x3) m) fun x4 m =>
  bp (pur (aLoad false 1 x4 m) m) fun x5 m =>
  brb x5
    (bp (pur (aNilCheck p0) m) fun x6 m =>
  bp (pur (aFieldAddr 15 x6) m) fun x7 m =>
  bp (unt (aStore 1 x7 (.bool true) m)) fun _ m =>
  Q9p G p0 p4 m)
    (bp (pur (aNilCheck p0) m) fun x8 m =>
  bp (pur (aFieldAddr 14 x8) m) fun x9 m =>
  bp (pur (aLoad false 1 x9 m) m) fun x10 m =>
  bp (pur (aLookup .str (.bool false) false x10 p4 m) m) fun x11 m =>
  bp (pur (aNilCheck p0) m) fun x12 m =>
  bp (pur (aFieldAddr 15 x12) m) fun x13 m =>
  bp (unt (aStore 1 x13 x11 m)) fun _ m =>
  Q9p G p0 p4 m)
def Qca (G : Gt) (p1 p0 : Value) (m : Mem) : Option Rs :=
  bp (G.tab Q61 [p1, (.string ⟨#[32]⟩)] m) fun x14 m =>
  Qjk G p0 x14 m
theorem Q119 (G : Gt) (a0 a1 : Value) (m : Mem) : evFn Go.Proofs.Tryz.prog G.tab G.rds (drOf Go.Proofs.Tryz.prog G.tab) Go.Proofs.Tryz.f41 [a0, a1] m = Qca G a1 a0 m :=
  evFn_of (r := fun ρ m => Qca G (ρ 1) (ρ 0) m) rfl rfl (tr (seqQ (f := fun ρ m => Qjk G (ρ 0) (ρ 4) m) (tr (seqQ (f := fun ρ m => Q9p G (ρ 0) (ρ 4) m) (fun ρ m => by kernel_rfl)) (fun ρ m => by kernel_rfl))) (fun ρ m => by kernel_rfl)) m
def Q10o : Entry Go.Proofs.Tryz.prog := ⟨Q4m, Go.Proofs.Tryz.f41, Go.Proofs.Tryz.func41, by kernel_rfl, arg2 (fun G a0 a1 m => Qca G a1 a0 m), okarg2 Q119⟩
def Qff (G : Gt) (p0 p2 p1 : Value) (m : Mem) : Option Rs :=
  bp (G.tab Q4m [p0, p2] m) fun x0 m =>
  bp (G.tab Q61 [p2, (.string ⟨#[32]⟩)] m) fun x1 m =>
  bp (pur (aNilCheck p0) m) fun x2 m =>
  bp (pur (aFieldAddr 12 x2) m) fun x3 m =>
  bp (unt (aStore 1 x3 p1 m)) fun _ m =>
  bp (pur (aNilCheck p0) m) fun x4 m =>
  bp (pur (aFieldAddr 13 x4) m) fun x5 m =>
  bp (unt (aStore 1 x5 x1 m)) fun _ m =>
  some (.tuple ⟨[]⟩, m)
theorem Q14r (G : Gt) (a0 a1 a2 : Value) (m : Mem) : evFn Go.Proofs.Tryz.prog G.tab G.rds (drOf Go.Proofs.Tryz.prog G.tab) Go.Proofs.Tryz.f42 [a0, a1, a2] m = Qff G a0 a2 a1 m :=
  evFn_of (r := fun ρ m => Qff G (ρ 0) (ρ 2) (ρ 1) m) rfl rfl (fun ρ m => by kernel_rfl) m
def Q14i : Entry Go.Proofs.Tryz.prog := ⟨Q40, Go.Proofs.Tryz.f42, Go.Proofs.Tryz.func42, by kernel_rfl, arg3 (fun G a0 a1 a2 m => Qff G a0 a2 a1 m), okarg3 Q14r⟩
end
end Go.Ab.Sh
