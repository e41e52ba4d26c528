/-
  Functions of the program as plain definitions, each with the theorem that it is what the evaluator makes of the code. No conditions.
-/
import Derived.Test.YtbjgjnkihdddlaaGreatDoorAb4
import Derived.Test.YtbjgjnkihdddlaaGreatDoorZ
import Derived.KernelRfl
import Derived.Test.YtbjgjnkihdddlaaGreatDoorProg
set_option linter.unusedVariables false
set_option maxRecDepth 100000
namespace Go.Ab.Sh
open Go Go.Ab
noncomputable section
def Qfk (G : Gt) (p21 p0 : Value) (m : Mem) : Option Rs :=
  brb p21
    (bp (pur (aNilCheck p0) m) fun x0 m =>
  bp (pur (aFieldAddr 1 x0) m) fun x1 m =>
  bp (pur (aLoad false 1 x1 m) m) fun x2 m =>
  bp (pur (bin .add true true .int x2 (.int .i64 1)) m) fun x3 m =>
  bp (pur (aNilCheck p0) m) fun x4 m =>
  bp (pur (aFieldAddr 1 x4) m) fun x5 m =>
  bp (unt (aStore 1 x5 x3 m)) fun _ m =>
  some ((.bool true), m))
    (some ((.bool false), m))
def Qro (G : Gt) (p0 p1 : Value) (m : Mem) : Option Rs :=
  bp (G.tab Q3z [p0] m) fun x6 m =>
  brt x6
    (bp (pur (aNilCheck p0) m) fun x7 m =>
  bp (pur (aFieldAddr 0 x7) m) fun x8 m =>
  bp (pur (aLoad false 1 x8 m) m) fun x9 m =>
  bp (pur (aNilCheck p0) m) fun x10 m =>
  bp (pur (aFieldAddr 1 x10) m) fun x11 m =>
  bp (pur (aLoad false 1 x11 m) m) fun x12 m =>
  bp (pur (aIndexAddrSl 3 x9 x12) m) fun x13 m =>
  bp (pur (aFieldAddr 0 x13) m) fun x14 m =>
  bp (pur (aLoad false 1 x14 m) m) fun x15 m =>
  bp (pur (bin .eql false true .str x15 p1) m) fun x16 m =>
  Qfk G x16 p0 m)
    (Qfk G (.bool false) p0 m)
    (none)
def Qk9 (G : Gt) (p0 p1 : Value) (m : Mem) : Option Rs :=
  Qro G p0 p1 m
theorem Q181 (G : Gt) (a0 a1 : Value) (m : Mem) : evFn Go.Proofs.Tryz.prog G.tab G.rds (drOf Go.Proofs.Tryz.prog G.tab) Go.Proofs.Tryz.f80 [a0, a1] m = Qk9 G a0 a1 m :=
  evFn_of (r := fun ρ m => Qk9 G (ρ 0) (ρ 1) m) rfl rfl (tr (seqQ (f := fun ρ m => Qro G (ρ 0) (ρ 1) m) (tr (tr seqD (seqQ (f := fun ρ m => Qfk G (ρ 21) (ρ 0) m) (fun ρ m => by kernel_rfl))) (fun ρ m => by kernel_rfl))) (fun ρ m => by kernel_rfl)) m
def Q17e : Entry Go.Proofs.Tryz.prog := ⟨Qd, Go.Proofs.Tryz.f80, Go.Proofs.Tryz.func80, by kernel_rfl, arg2 (fun G a0 a1 m => Qk9 G a0 a1 m), okarg2 Q181⟩
def Qds (G : Gt) (p3 : Value) (m : Mem) : Option Rs :=
  some (p3, m)
def Qqc (G : Gt) (p3 p0 : Value) (m : Mem) : Option Rs :=
  bp (pur (bin .eql true true .int p3 (.int .u32 0)) m) fun x0 m =>
  brb x0
    (bp (G.tab Q8 [p0, (.int .i64 131)] m) fun x1 m =>
  Qds G p3 m)
    (Qds G p3 m)
def Qqd (G : Gt) (p0 : Value) (m : Mem) : Option Rs :=
  bp (G.tab Qt [p0] m) fun x2 m =>
  Qqc G x2 p0 m
def Qi2 (G : Gt) (p0 : Value) (m : Mem) : Option Rs :=
  Qqd G p0 m
theorem Q16s (G : Gt) (a0 : Value) (m : Mem) : evFn Go.Proofs.Tryz.prog G.tab G.rds (drOf Go.Proofs.Tryz.prog G.tab) Go.Proofs.Tryz.f81 [a0] m = Qi2 G a0 m :=
  evFn_of (r := fun ρ m => Qi2 G (ρ 0) m) rfl rfl (tr (seqQ (f := fun ρ m => Qqd G (ρ 0) m) (tr (seqQ (f := fun ρ m => Qqc G (ρ 3) (ρ 0) m) (tr (seqQ (f := fun ρ m => Qds G (ρ 3) m) (fun ρ m => by kernel_rfl)) (fun ρ m => by kernel_rfl))) (fun ρ m => by kernel_rfl))) (fun ρ m => by kernel_rfl)) m
def Q15y : Entry Go.Proofs.Tryz.prog := ⟨Qgo, Go.Proofs.Tryz.f81, Go.Proofs.Tryz.func81, by kernel_rfl, arg1 (fun G a0 m => Qi2 G a0 m), okarg1 Q16s⟩
def Q3c (G : Gt) (p1 p5 p4 : Value) (m : Mem) : Option Rs :=
  bp (G.tab Qf0 [p1] m) fun x0 m =>
  bp (pur (aFieldAddr 2 p5) m) fun x1 m =>
  bp (unt (aStore 2 x1 x0 m)) fun _ m =>
  bp (pur (aFieldAddr 1 p5) m) fun x2 m =>
  bp (pur (aLoad false 1 x2 m) m) fun x3 m =>
  bp (G.tab Qdb [p1, x3] m) fun x4 m =>
  bp (pur (aFieldAddr 6 p5) m) fun x5 m =>
  bp (unt (aStore 2 x5 x4 m)) fun _ m =>
  bp (G.tab Qf0 [p1] m) fun x6 m =>
  bp (pur (aFieldAddr 4 p5) m) fun x7 m =>
  bp (unt (aStore 2 x7 x6 m)) fun _ m =>
  bp (pur (aFieldAddr 1 p5) m) fun x8 m =>
  bp (pur (aLoad false 1 x8 m) m) fun x9 m =>
  bp (G.tab Qdb [p1, x9] m) fun x10 m =>
  bp (pur (aFieldAddr 8 p5) m) fun x11 m =>
  bp (unt (aStore 2 x11 x10 m)) fun _ m =>
  bp (pur (aNilCheck p4) m) fun x12 m =>
  bp (pur (aFieldAddr 1 x12) m) fun x13 m =>
  bp (pur (aLoad false 1 x13 m) m) fun x14 m =>
  bp (pur (aLoad true 10 p5 m) m) fun x15 m =>
  bp (aBuildSlice Q7n Qid 10 1 [(0, x15)] m) fun x16 m =>
  bp (apS Q7n 10 64 x14 x16 m) fun x17 m =>
  bp (pur (aNilCheck p4) m) fun x18 m =>
  bp (pur (aFieldAddr 1 x18) m) fun x19 m =>
  bp (unt (aStore 1 x19 x17 m)) fun _ m =>
  some (.tuple ⟨[]⟩, m)
def Qo2 (G : Gt) (p1 p5 p4 : Value) (m : Mem) : Option Rs :=
  bp (G.tab Qd [p1, (.string ⟨#[97, 110, 121]⟩)] m) fun x20 m =>
  brb x20
    (bp (pur (aFieldAddr 1 p5) m) fun x21 m =>
  bp (unt (aStore 1 x21 (.int .i64 (-1)) m)) fun _ m =>
  Q3c G p1 p5 p4 m)
    (bp (G.tab Qd [p1, (.string ⟨#[116, 99, 112]⟩)] m) fun x22 m =>
  brb x22
    (bp (pur (aFieldAddr 1 p5) m) fun x23 m =>
  bp (unt (aStore 1 x23 (.int .i64 6) m)) fun _ m =>
  Q3c G p1 p5 p4 m)
    (bp (G.tab Qd [p1, (.string ⟨#[117, 100, 112]⟩)] m) fun x24 m =>
  brb x24
    (bp (pur (aFieldAddr 1 p5) m) fun x25 m =>
  bp (unt (aStore 1 x25 (.int .i64 17) m)) fun _ m =>
  Q3c G p1 p5 p4 m)
    (bp (G.tab Qd [p1, (.string ⟨#[105, 99, 109, 112]⟩)] m) fun x26 m =>
  brb x26
    (bp (pur (aFieldAddr 1 p5) m) fun x27 m =>
  bp (unt (aStore 1 x27 (.int .i64 1) m)) fun _ m =>
  Q3c G p1 p5 p4 m)
    (bp (G.tab Q3 [p1, (.int .i64 0), (.int .i64 255)] m) fun x28 m =>
  bp (pur (aFieldAddr 1 p5) m) fun x29 m =>
  bp (unt (aStore 1 x29 x28 m)) fun _ m =>
  Q3c G p1 p5 p4 m))))
def Qo3 (G : Gt) (p1 p4 : Value) (m : Mem) : Option Rs :=
  bp (aBuildSlice Q2 [(.string ⟨#[]⟩)] 1 2 [(0, (.string ⟨#[112, 101, 114, 109, 105, 116]⟩)), (1, (.string ⟨#[100, 101, 110, 121]⟩))] m) fun x30 m =>
  bp (G.tab Qs [p1, x30] m) fun x31 m =>
  bp (pur (bin .eql true true .int x31 (.int .i64 0)) m) fun x32 m =>
  bp (pur (aBuild Qid [(0, 1), (1, 1), (2, 2), (4, 2), (6, 2), (8, 2)] [(0, x32)]) m) fun x33 m =>
  bp (some (aNew Q7n Qid m)) fun x34 m =>
  bp (unt (aStore 10 x34 x33 m)) fun _ m =>
  Qo2 G p1 x34 p4 m
def Qfl (G : Gt) (p0 p1 : Value) (m : Mem) : Option Rs :=
  bp (pur (aNilCheck p0) m) fun x35 m =>
  bp (pur (aFieldAddr 0 x35) m) fun x36 m =>
  bp (pur (aFieldAddr 4 x36) m) fun x37 m =>
  bp (pur (aLoad false 1 x37 m) m) fun x38 m =>
  bp (pur (aNilCheck p0) m) fun x39 m =>
  bp (pur (aFieldAddr 0 x39) m) fun x40 m =>
  bp (pur (aFieldAddr 4 x40) m) fun x41 m =>
  bp (pur (aLoad false 1 x41 m) m) fun x42 m =>
  bp (pur (lenK 1 x42 m) m) fun x43 m =>
  bp (pur (bin .sub true true .int x43 (.int .i64 1)) m) fun x44 m =>
  bp (pur (aIndexAddrSl 2 x38 x44) m) fun x45 m =>
  Qo3 G p1 x45 m
theorem Q14v (G : Gt) (a0 a1 : Value) (m : Mem) : evFn Go.Proofs.Tryz.prog G.tab G.rds (drOf Go.Proofs.Tryz.prog G.tab) Go.Proofs.Tryz.f82 [a0, a1] m = Qfl G a0 a1 m :=
  evFn_of (r := fun ρ m => Qfl G (ρ 0) (ρ 1) m) rfl rfl (tr (seqQ (f := fun ρ m => Qo3 G (ρ 1) (ρ 4) m) (tr (seqQ (f := fun ρ m => Qo2 G (ρ 1) (ρ 5) (ρ 4) m) (tr (seqQ (f := fun ρ m => Q3c G (ρ 1) (ρ 5) (ρ 4) m) (fun ρ m => by kernel_rfl)) (fun ρ m => by kernel_rfl))) (fun ρ m => by kernel_rfl))) (fun ρ m => by kernel_rfl)) m
def Q14h : Entry Go.Proofs.Tryz.prog := ⟨Qqx, Go.Proofs.Tryz.f82, Go.Proofs.Tryz.func82, by kernel_rfl, arg2 (fun G a0 a1 m => Qfl G a0 a1 m), okarg2 Q14v⟩
def Qan (G : Gt) (p3 p2 : Value) (m : Mem) : Option Rs :=
  bp (pur (aLoad true 5 p3 m) m) fun x0 m =>
  bp (unt (aStore 5 p2 x0 m)) fun _ m =>
  ob (ob (aLoad true 5 p2 m) fun v => ob (some []) fun l => some (v :: l)) fun l => some (resVal l, m)
def Qao (G : Gt) (p0 p3 p2 : Value) (m : Mem) : Option Rs :=
  bp (G.tab Qd [p0, (.string ⟨#[108, 101]⟩)] m) fun x1 m =>
  brb x1
    (bp (pur (aFieldAddr 3 p3) m) fun x2 m =>
  bp (pur (aLoad false 1 x2 m) m) fun x3 m =>
  bp (G.tab Q3 [p0, x3, (.int .i64 32)] m) fun x4 m =>
  bp (pur (aFieldAddr 4 p3) m) fun x5 m =>
  bp (unt (aStore 1 x5 x4 m)) fun _ m =>
  Qan G p3 p2 m)
    (Qan G p3 p2 m)
def Qlx (G : Gt) (p0 p4 p3 p2 : Value) (m : Mem) : Option Rs :=
  bp (G.tab Qd [p0, (.string ⟨#[103, 101]⟩)] m) fun x6 m =>
  brb x6
    (bp (pur (aFieldAddr 1 p4) m) fun x7 m =>
  bp (pur (aLoad false 1 x7 m) m) fun x8 m =>
  bp (G.tab Q3 [p0, x8, (.int .i64 32)] m) fun x9 m =>
  bp (pur (aFieldAddr 3 p3) m) fun x10 m =>
  bp (unt (aStore 1 x10 x9 m)) fun _ m =>
  bp (pur (aFieldAddr 4 p3) m) fun x11 m =>
  bp (unt (aStore 1 x11 (.int .i64 32) m)) fun _ m =>
  Qao G p0 p3 p2 m)
    (Qao G p0 p3 p2 m)
def Q6q (G : Gt) (p4 p3 p0 p2 : Value) (m : Mem) : Option Rs :=
  bp (pur (aLoad true 2 p4 m) m) fun x12 m =>
  bp (pur (aFieldAddr 1 p4) m) fun x13 m =>
  bp (pur (aLoad false 1 x13 m) m) fun x14 m =>
  bp (pur (aFieldAddr 1 p4) m) fun x15 m =>
  bp (pur (aLoad false 1 x15 m) m) fun x16 m =>
  bp (pur (aFieldAddr 1 p3) m) fun x17 m =>
  bp (unt (aStore 2 x17 x12 m)) fun _ m =>
  ckB (again (pur (aLoad false 1 x13 m) m) x14 && (again (pur (aLoad false 1 x15 m) m) x16 && true))
    (bp (pur (aFieldAddr 3 p3) m) fun x18 m =>
  bp (unt (aStore 1 x18 x14 m)) fun _ m =>
  ckB (again (pur (aLoad false 1 x15 m) m) x16 && true)
    (bp (pur (aFieldAddr 4 p3) m) fun x19 m =>
  bp (unt (aStore 1 x19 x16 m)) fun _ m =>
  Qlx G p0 p4 p3 p2 m))
def Qly (G : Gt) (p5 p4 p3 p0 p2 : Value) (m : Mem) : Option Rs :=
  bp (pur (bin .eql true true .int p5 (.int .i64 0)) m) fun x20 m =>
  brb x20
    (Q6q G p4 p3 p0 p2 m)
    (bp (pur (bin .eql true true .int p5 (.int .i64 10)) m) fun x21 m =>
  brb x21
    (bp (G.tab Q8 [p0, (.int .i64 10)] m) fun x22 m =>
  Q6q G p4 p3 p0 p2 m)
    (bp (G.tab Q8 [p0, (.int .i64 130)] m) fun x23 m =>
  Q6q G p4 p3 p0 p2 m))
def Qlz (G : Gt) (p0 p3 p2 : Value) (m : Mem) : Option Rs :=
  bp (G.tab Qg [p0] m) fun x24 m =>
  bp (G.tab Qsq [x24] m) fun x25 m =>
  bp (pur (aExtract x25 0) m) fun x26 m =>
  bp (pur (aExtract x25 1) m) fun x27 m =>
  bp (some (aNew Q1d Q19 m)) fun x28 m =>
  bp (unt (aStore 2 x28 x26 m)) fun _ m =>
  Qly G x27 x28 p3 p0 p2 m
def Qm0 (G : Gt) (p0 p2 : Value) (m : Mem) : Option Rs :=
  bp (aBuildSlice Q2 [(.string ⟨#[]⟩)] 1 2 [(0, (.string ⟨#[112, 101, 114, 109, 105, 116]⟩)), (1, (.string ⟨#[100, 101, 110, 121]⟩))] m) fun x29 m =>
  bp (G.tab Qs [p0, x29] m) fun x30 m =>
  bp (pur (bin .eql true true .int x30 (.int .i64 0)) m) fun x31 m =>
  bp (pur (aBuild Qa5 [(0, 1), (1, 2), (3, 1), (4, 1)] [(0, x31)]) m) fun x32 m =>
  bp (some (aNew Q86 Qa5 m)) fun x33 m =>
  bp (unt (aStore 5 x33 x32 m)) fun _ m =>
  Qlz G p0 x33 p2 m
def Qdt (G : Gt) (p0 : Value) (m : Mem) : Option Rs :=
  bp (some (aNew Q86 Qa5 m)) fun x34 m =>
  Qm0 G p0 x34 m
theorem Q12c (G : Gt) (a0 : Value) (m : Mem) : evFn Go.Proofs.Tryz.prog G.tab G.rds (drOf Go.Proofs.Tryz.prog G.tab) Go.Proofs.Tryz.f83 [a0] m = Qdt G a0 m :=
  evFn_of (r := fun ρ m => Qdt G (ρ 0) m) rfl rfl (tr (seqQ (f := fun ρ m => Qm0 G (ρ 0) (ρ 2) m) (tr (seqQ (f := fun ρ m => Qlz G (ρ 0) (ρ 3) (ρ 2) m) (tr (seqQ (f := fun ρ m => Qly G (ρ 5) (ρ 4) (ρ 3) (ρ 0) (ρ 2) m) (tr (seqQ (f := fun ρ m => Q6q G (ρ 4) (ρ 3) (ρ 0) (ρ 2) m) (tr (seqQ (f := fun ρ m => Qlx G (ρ 0) (ρ 4) (ρ 3) (ρ 2) m) (tr (seqQ (f := fun ρ m => Qao G (ρ 0) (ρ 3) (ρ 2) m) (tr (seqQ (f := fun ρ m => Qan G (ρ 3) (ρ 2) m) (fun ρ m => by kernel_rfl)) (fun ρ m => by kernel_rfl))) (fun ρ m => by kernel_rfl))) (fun ρ m => by kernel_rfl))) (fun ρ m => by kernel_rfl))) (fun ρ m => by kernel_rfl))) (fun ρ m => by kernel_rfl))) (fun ρ m => by kernel_rfl)) m
def Q123 : Entry Go.Proofs.Tryz.prog := ⟨Qp0, Go.Proofs.Tryz.f83, Go.Proofs.Tryz.func83, by kernel_rfl, arg1 (fun G a0 m => Qdt G a0 m), okarg1 Q12c⟩
def Q2q (G : Gt) (m : Mem) : Option Rs :=
  some ((.int .i64 (-1)), m)
def Q16 (G : Gt) : Nat → Value → Value → Value → Value → Mem → Option Rs
  | 0, _, _, _, _, _ => none
  | i + 1, p8, p7, p1, p0, m =>
  bp (pur (bin .lss false true .int p8 p7) m) fun x0 m =>
  brb x0
    (bp (pur (aIndexAddrSl 2 p0 p8) m) fun x1 m =>
  bp (pur (aLoad true 2 x1 m) m) fun x2 m =>
  bp (evCall G.tab p1 [x2] m) fun x3 m =>
  brb x3
    (some (p8, m))
    (bp (pur (bin .add true true .int p8 (.int .i64 1)) m) fun x4 m =>
  (Q16 G i) x4 p7 p1 p0 m))
    (Q2q G m)
def Q2r (G : Gt) (p8 p7 p1 p0 : Value) (m : Mem) : Option Rs :=
  Q16 G G.rds p8 p7 p1 p0 m
def Q2s (G : Gt) (p0 p1 : Value) (m : Mem) : Option Rs :=
  bp (pur (lenK 1 p0 m) m) fun x5 m =>
  Q2r G (.int .i64 0) x5 p1 p0 m
def Q1b (G : Gt) (p0 p1 : Value) (m : Mem) : Option Rs :=
  Q2s G p0 p1 m
theorem Q7m (G : Gt) (a0 a1 : Value) (m : Mem) : evFn Go.Proofs.Tryz.prog G.tab G.rds (drOf Go.Proofs.Tryz.prog G.tab) Go.Proofs.Tryz.f84 [a0, a1] m = Q1b G a0 a1 m :=
  evFn_of (r := fun ρ m => Q1b G (ρ 0) (ρ 1) m) rfl rfl (tr (seqQ (f := fun ρ m => Q2s G (ρ 0) (ρ 1) m) (tr (tr (seqQ (f := fun ρ m => Q2q G m) (fun ρ m => by kernel_rfl)) (seqQ (f := fun ρ m => Q2r G (ρ 8) (ρ 7) (ρ 1) (ρ 0) m) (tr (blockQ (loopQ (fun i ρ m => Q16 G i (ρ 8) (ρ 7) (ρ 1) (ρ 0) m) (fun _ _ => rfl) (fun i0 => fun ρ m => by kernel_rfl))) (fun ρ m => by kernel_rfl)))) (fun ρ m => by kernel_rfl))) (fun ρ m => by kernel_rfl)) m
def Q7f : Entry Go.Proofs.Tryz.prog := ⟨Q1a, Go.Proofs.Tryz.f84, Go.Proofs.Tryz.func84, by kernel_rfl, arg2 (fun G a0 a1 m => Q1b G a0 a1 m), okarg2 Q7m⟩
def Qfm (G : Gt) (p0 p1 : Value) (m : Mem) : Option Rs :=
  bp (some (aNew Q2m (Value.cells p0).toList m)) fun x0 m =>
  bp (pur (aFieldAddr 0 x0) m) fun x1 m =>
  bp (pur (aLoad false 1 x1 m) m) fun x2 m =>
  bp (pur (aLoad false 1 p1 m) m) fun x3 m =>
  bp (pur (bin .eql false true .str x2 x3) m) fun x4 m =>
  some (x4, m)
theorem Q14w (G : Gt) (a0 a1 : Value) (m : Mem) : evFn Go.Proofs.Tryz.prog G.tab G.rds (drOf Go.Proofs.Tryz.prog G.tab) Go.Proofs.Tryz.f85 [a0, a1] m = Qfm G a0 a1 m :=
  evFn_of (r := fun ρ m => Qfm G (ρ 0) (ρ 1) m) rfl rfl (fun ρ m => by kernel_rfl) m
def Q149 : Entry Go.Proofs.Tryz.prog := ⟨Qqv, Go.Proofs.Tryz.f85, Go.Proofs.Tryz.func85, by kernel_rfl, arg2 (fun G a0 a1 m => Qfm G a0 a1 m), okarg2 Q14w⟩
def Qm1 (G : Gt) (p3 : Value) (m : Mem) : Option Rs :=
  some (p3, m)
def Qap (G : Gt) (k0 : Value → Value → Value → Mem → Option Rs) (p3 p5 p0 : Value) (m : Mem) : Option Rs :=
  bp (aBuildSlice Q11y [(.int .u32 0)] 1 1 [(0, p5)] m) fun x0 m =>
  bp (apS Q11y 1 4 p3 x0 m) fun x1 m =>
  bp (G.tab Q3z [p0] m) fun x2 m =>
  k0 x2 p0 x1 m
def Qm2 (G : Gt) (k0 : Value → Value → Value → Mem → Option Rs) (p6 p0 p3 p5 : Value) (m : Mem) : Option Rs :=
  bp (pur (bin .neq true true .int p6 (.int .i64 0)) m) fun x3 m =>
  brb x3
    (bp (G.tab Q8 [p0, (.int .i64 130)] m) fun x4 m =>
  Qap G k0 p3 p5 p0 m)
    (Qap G k0 p3 p5 p0 m)
def Qm3 (G : Gt) (k0 : Value → Value → Value → Mem → Option Rs) (p0 p3 : Value) (m : Mem) : Option Rs :=
  bp (G.tab Qg [p0] m) fun x5 m =>
  bp (G.tab Q12m [x5] m) fun x6 m =>
  bp (pur (aExtract x6 0) m) fun x7 m =>
  bp (pur (aExtract x6 1) m) fun x8 m =>
  Qm2 G k0 x8 p0 p3 x7 m
def Q30 (G : Gt) : Nat → Value → Value → Value → Mem → Option Rs
  | 0, _, _, _, _ => none
  | i + 1, p4, p0, p3, m =>
  brb p4
    (Qm3 G (Q30 G i) p0 p3 m)
    (Qm1 G p3 m)
def Qm4 (G : Gt) (p4 p0 p3 : Value) (m : Mem) : Option Rs :=
  Q30 G G.rds p4 p0 p3 m
def Qm5 (G : Gt) (p0 p3 : Value) (m : Mem) : Option Rs :=
  Qm4 G (.bool true) p0 p3 m
def Qm6 (G : Gt) (p0 : Value) (m : Mem) : Option Rs :=
  Qm5 G p0 (.slice none 0 0) m
def Qdu (G : Gt) (p0 : Value) (m : Mem) : Option Rs :=
  Qm6 G p0 m
theorem Q12d (G : Gt) (a0 : Value) (m : Mem) : evFn Go.Proofs.Tryz.prog G.tab G.rds (drOf Go.Proofs.Tryz.prog G.tab) Go.Proofs.Tryz.f86 [a0] m = Qdu G a0 m :=
  evFn_of (r := fun ρ m => Qdu G (ρ 0) m) rfl rfl (tr (seqQ (f := fun ρ m => Qm6 G (ρ 0) m) (tr (seqQ (f := fun ρ m => Qm5 G (ρ 0) (ρ 3) m) (tr (tr (seqQ (f := fun ρ m => Qm1 G (ρ 3) m) (fun ρ m => by kernel_rfl)) (seqQ (f := fun ρ m => Qm4 G (ρ 4) (ρ 0) (ρ 3) m) (tr (blockQ (loopQ (fun i ρ m => Q30 G i (ρ 4) (ρ 0) (ρ 3) m) (fun _ _ => rfl) (fun i0 => tr (seqQ (f := fun ρ m => Qm3 G (Q30 G i0) (ρ 0) (ρ 3) m) (tr (tr seqD (blockQ (seqQ (f := fun ρ m => Qm2 G (Q30 G i0) (ρ 6) (ρ 0) (ρ 3) (ρ 5) m) (tr (seqQ (f := fun ρ m => Qap G (Q30 G i0) (ρ 3) (ρ 5) (ρ 0) m) (fun ρ m => by kernel_rfl)) (fun ρ m => by kernel_rfl))))) (fun ρ m => by kernel_rfl))) (fun ρ m => by kernel_rfl)))) (fun ρ m => by kernel_rfl)))) (fun ρ m => by kernel_rfl))) (fun ρ m => by kernel_rfl))) (fun ρ m => by kernel_rfl)) m
def Q125 : Entry Go.Proofs.Tryz.prog := ⟨Qdc, Go.Proofs.Tryz.f86, Go.Proofs.Tryz.func86, by kernel_rfl, arg1 (fun G a0 m => Qdu G a0 m), okarg1 Q12d⟩
def Q1q (G : Gt) (m : Mem) : Option Rs :=
  some ((.int .i64 (-1)), m)
def Qx (G : Gt) : Nat → Value → Value → Value → Value → Mem → Option Rs
  | 0, _, _, _, _, _ => none
  | i + 1, p8, p7, p1, p0, m =>
  bp (pur (bin .lss false true .int p8 p7) m) fun x0 m =>
  brb x0
    (bp (pur (aIndexAddrSl 2 p0 p8) m) fun x1 m =>
  bp (pur (aLoad true 2 x1 m) m) fun x2 m =>
  bp (evCall G.tab p1 [x2] m) fun x3 m =>
  brb x3
    (some (p8, m))
    (bp (pur (bin .add true true .int p8 (.int .i64 1)) m) fun x4 m =>
  (Qx G i) x4 p7 p1 p0 m))
    (Q1q G m)
def Q1r (G : Gt) (p8 p7 p1 p0 : Value) (m : Mem) : Option Rs :=
  Qx G G.rds p8 p7 p1 p0 m
def Q1s (G : Gt) (p0 p1 : Value) (m : Mem) : Option Rs :=
  bp (pur (lenK 1 p0 m) m) fun x5 m =>
  Q1r G (.int .i64 0) x5 p1 p0 m
def Q12 (G : Gt) (p0 p1 : Value) (m : Mem) : Option Rs :=
  Q1s G p0 p1 m
theorem Q5z (G : Gt) (a0 a1 : Value) (m : Mem) : evFn Go.Proofs.Tryz.prog G.tab G.rds (drOf Go.Proofs.Tryz.prog G.tab) Go.Proofs.Tryz.f87 [a0, a1] m = Q12 G a0 a1 m :=
  evFn_of (r := fun ρ m => Q12 G (ρ 0) (ρ 1) m) rfl rfl (tr (seqQ (f := fun ρ m => Q1s G (ρ 0) (ρ 1) m) (tr (tr (seqQ (f := fun ρ m => Q1q G m) (fun ρ m => by kernel_rfl)) (seqQ (f := fun ρ m => Q1r G (ρ 8) (ρ 7) (ρ 1) (ρ 0) m) (tr (blockQ (loopQ (fun i ρ m => Qx G i (ρ 8) (ρ 7) (ρ 1) (ρ 0) m) (fun _ _ => rfl) (fun i0 => fun ρ m => by kernel_rfl))) (fun ρ m => by kernel_rfl)))) (fun ρ m => by kernel_rfl))) (fun ρ m => by kernel_rfl)) m
def Q5w : Entry Go.Proofs.Tryz.prog := ⟨Q11, Go.Proofs.Tryz.f87, Go.Proofs.Tryz.func87, by kernel_rfl, arg2 (fun G a0 a1 m => Q12 G a0 a1 m), okarg2 Q5z⟩
def Qfn (G : Gt) (p0 p1 : Value) (m : Mem) : Option Rs :=
  bp (G.tab Qg [p0] m) fun x0 m =>
  bp (pur (bin .neq false true .str x0 p1) m) fun x1 m =>
  brb x1
    (bp (G.tab Q8 [p0, (.int .i64 130)] m) fun x2 m =>
  some (.tuple ⟨[]⟩, m))
    (some (.tuple ⟨[]⟩, m))
theorem Q14x (G : Gt) (a0 a1 : Value) (m : Mem) : evFn Go.Proofs.Tryz.prog G.tab G.rds (drOf Go.Proofs.Tryz.prog G.tab) Go.Proofs.Tryz.f89 [a0, a1] m = Qfn G a0 a1 m :=
  evFn_of (r := fun ρ m => Qfn G (ρ 0) (ρ 1) m) rfl rfl (fun ρ m => by kernel_rfl) m
def Q148 : Entry Go.Proofs.Tryz.prog := ⟨Qf5, Go.Proofs.Tryz.f89, Go.Proofs.Tryz.func89, by kernel_rfl, arg2 (fun G a0 a1 m => Qfn G a0 a1 m), okarg2 Q14x⟩
def Q8a (G : Gt) (m : Mem) : Option Rs :=
  some ((.int .i64 (-1)), m)
def Q45 (G : Gt) : Nat → Value → Value → Value → Value → Mem → Option Rs
  | 0, _, _, _, _, _ => none
  | i + 1, p8, p7, p1, p0, m =>
  bp (pur (bin .lss false true .int p8 p7) m) fun x0 m =>
  brb x0
    (bp (pur (aIndexAddrSl 1 p0 p8) m) fun x1 m =>
  bp (pur (aLoad false 1 x1 m) m) fun x2 m =>
  bp (pur (bin .eql false true .str p1 x2) m) fun x3 m =>
  brb x3
    (some (p8, m))
    (bp (pur (bin .add true true .int p8 (.int .i64 1)) m) fun x4 m =>
  (Q45 G i) x4 p7 p1 p0 m))
    (Q8a G m)
def Q8b (G : Gt) (p8 p7 p1 p0 : Value) (m : Mem) : Option Rs :=
  Q45 G G.rds p8 p7 p1 p0 m
def Q8c (G : Gt) (p0 p1 : Value) (m : Mem) : Option Rs :=
  bp (pur (lenK 1 p0 m) m) fun x5 m =>
  Q8b G (.int .i64 0) x5 p1 p0 m
def Q4t (G : Gt) (p0 p1 : Value) (m : Mem) : Option Rs :=
  Q8c G p0 p1 m
theorem Qo9 (G : Gt) (a0 a1 : Value) (m : Mem) : evFn Go.Proofs.Tryz.prog G.tab G.rds (drOf Go.Proofs.Tryz.prog G.tab) Go.Proofs.Tryz.f90 [a0, a1] m = Q4t G a0 a1 m :=
  evFn_of (r := fun ρ m => Q4t G (ρ 0) (ρ 1) m) rfl rfl (tr (seqQ (f := fun ρ m => Q8c G (ρ 0) (ρ 1) m) (tr (tr (seqQ (f := fun ρ m => Q8a G m) (fun ρ m => by kernel_rfl)) (seqQ (f := fun ρ m => Q8b G (ρ 8) (ρ 7) (ρ 1) (ρ 0) m) (tr (blockQ (loopQ (fun i ρ m => Q45 G i (ρ 8) (ρ 7) (ρ 1) (ρ 0) m) (fun _ _ => rfl) (fun i0 => fun ρ m => by kernel_rfl))) (fun ρ m => by kernel_rfl)))) (fun ρ m => by kernel_rfl))) (fun ρ m => by kernel_rfl)) m
def Qo7 : Entry Go.Proofs.Tryz.prog := ⟨Q92, Go.Proofs.Tryz.f90, Go.Proofs.Tryz.func90, by kernel_rfl, arg2 (fun G a0 a1 m => Q4t G a0 a1 m), okarg2 Qo9⟩
def Q3v (G : Gt) (m : Mem) : Option Rs :=
  some ((.int .i64 (-1)), m)
def Q1p (G : Gt) : Nat → Value → Value → Value → Value → Mem → Option Rs
  | 0, _, _, _, _, _ => none
  | i + 1, p8, p7, p1, p0, m =>
  bp (pur (bin .lss false true .int p8 p7) m) fun x0 m =>
  brb x0
    (bp (pur (aIndexAddrSl 3 p0 p8) m) fun x1 m =>
  bp (pur (aLoad true 3 x1 m) m) fun x2 m =>
  bp (evCall G.tab p1 [x2] m) fun x3 m =>
  brb x3
    (some (p8, m))
    (bp (pur (bin .add true true .int p8 (.int .i64 1)) m) fun x4 m =>
  (Q1p G i) x4 p7 p1 p0 m))
    (Q3v G m)
def Q3w (G : Gt) (p8 p7 p1 p0 : Value) (m : Mem) : Option Rs :=
  Q1p G G.rds p8 p7 p1 p0 m
def Q3x (G : Gt) (p0 p1 : Value) (m : Mem) : Option Rs :=
  bp (pur (lenK 1 p0 m) m) fun x5 m =>
  Q3w G (.int .i64 0) x5 p1 p0 m
def Q22 (G : Gt) (p0 p1 : Value) (m : Mem) : Option Rs :=
  Q3x G p0 p1 m
theorem Qb6 (G : Gt) (a0 a1 : Value) (m : Mem) : evFn Go.Proofs.Tryz.prog G.tab G.rds (drOf Go.Proofs.Tryz.prog G.tab) Go.Proofs.Tryz.f91 [a0, a1] m = Q22 G a0 a1 m :=
  evFn_of (r := fun ρ m => Q22 G (ρ 0) (ρ 1) m) rfl rfl (tr (seqQ (f := fun ρ m => Q3x G (ρ 0) (ρ 1) m) (tr (tr (seqQ (f := fun ρ m => Q3v G m) (fun ρ m => by kernel_rfl)) (seqQ (f := fun ρ m => Q3w G (ρ 8) (ρ 7) (ρ 1) (ρ 0) m) (tr (blockQ (loopQ (fun i ρ m => Q1p G i (ρ 8) (ρ 7) (ρ 1) (ρ 0) m) (fun _ _ => rfl) (fun i0 => fun ρ m => by kernel_rfl))) (fun ρ m => by kernel_rfl)))) (fun ρ m => by kernel_rfl))) (fun ρ m => by kernel_rfl)) m
def Qb4 : Entry Go.Proofs.Tryz.prog := ⟨Q1z, Go.Proofs.Tryz.f91, Go.Proofs.Tryz.func91, by kernel_rfl, arg2 (fun G a0 a1 m => Q22 G a0 a1 m), okarg2 Qb6⟩
end
end Go.Ab.Sh

set_option linter.unusedVariables false
set_option maxRecDepth 100000
namespace Go.Ab.Sh
open Go Go.Ab
noncomputable section
def Q9r (G : Gt) (p0 p1 : Value) (m : Mem) : Option Rs :=
  bp (some (aNew Q42 (Value.cells p0).toList m)) fun x0 m =>
  bp (pur (aFieldAddr 0 x0) m) fun x1 m =>
  bp (pur (aLoad false 1 x1 m) m) fun x2 m =>
  bp (pur (aLoad false 1 p1 m) m) fun x3 m =>
  bp (pur (bin .eql false true .str x2 x3) m) fun x4 m =>
  some (x4, m)
theorem Qww (G : Gt) (a0 a1 : Value) (m : Mem) : evFn Go.Proofs.Tryz.prog G.tab G.rds (drOf Go.Proofs.Tryz.prog G.tab) Go.Proofs.Tryz.f92 [a0, a1] m = Q9r G a0 a1 m :=
  evFn_of (r := fun ρ m => Q9r G (ρ 0) (ρ 1) m) rfl rfl (fun ρ m => by kernel_rfl) m
def Qwp : Entry Go.Proofs.Tryz.prog := ⟨Qiu, Go.Proofs.Tryz.f92, Go.Proofs.Tryz.func92, by kernel_rfl, arg2 (fun G a0 a1 m => Q9r G a0 a1 m), okarg2 Qww⟩
def Q2o (G : Gt) (p0 p6 p7 : Value) (m : Mem) : Option Rs :=
  bp (aBuildSlice Q2 [(.string ⟨#[]⟩)] 1 2 [(0, p6), (1, p7)] m) fun x0 m =>
  bp (G.tab Qf [p0, x0] m) fun x1 m =>
  some (.tuple ⟨[]⟩, m)
def Qqe (G : Gt) (p7 p5 p1 p0 p6 : Value) (m : Mem) : Option Rs :=
  bp (pur (bin .eql true true .str p7 (.string ⟨#[112, 114, 101, 102, 105, 120, 45, 108, 105, 115, 116]⟩)) m) fun x2 m =>
  brb x2
    (bp (G.tab Qh [p1] m) fun x3 m =>
  bp (pur (aNilCheck p5) m) fun x4 m =>
  bp (pur (aFieldAddr 2 x4) m) fun x5 m =>
  bp (unt (aStore 1 x5 x3 m)) fun _ m =>
  Q2o G p0 p6 p7 m)
    (bp (pur (bin .eql true true .str p7 (.string ⟨#[99, 111, 109, 109, 117, 110, 105, 116, 121, 45, 108, 105, 115, 116]⟩)) m) fun x6 m =>
  brb x6
    (bp (G.tab Qh [p1] m) fun x7 m =>
  bp (pur (aNilCheck p5) m) fun x8 m =>
  bp (pur (aFieldAddr 3 x8) m) fun x9 m =>
  bp (unt (aStore 1 x9 x7 m)) fun _ m =>
  Q2o G p0 p6 p7 m)
    (bp (pur (bin .eql true true .str p7 (.string ⟨#[116, 97, 103]⟩)) m) fun x10 m =>
  brb x10
    (bp (G.tab Q3 [p1, (.int .i64 0), (.int .i64 16777216)] m) fun x11 m =>
  bp (pur (aNilCheck p5) m) fun x12 m =>
  bp (pur (aFieldAddr 4 x12) m) fun x13 m =>
  bp (unt (aStore 1 x13 x11 m)) fun _ m =>
  Q2o G p0 p6 p7 m)
    (bp (pur (bin .eql true true .str p7 (.string ⟨#[109, 101, 116, 114, 105, 99]⟩)) m) fun x14 m =>
  brb x14
    (bp (G.tab Q3 [p1, (.int .i64 0), (.int .i64 16777216)] m) fun x15 m =>
  bp (pur (aNilCheck p5) m) fun x16 m =>
  bp (pur (aFieldAddr 5 x16) m) fun x17 m =>
  bp (unt (aStore 1 x17 x15 m)) fun _ m =>
  Q2o G p0 p6 p7 m)
    (bp (pur (bin .eql true true .str p7 (.string ⟨#[97, 115]⟩)) m) fun x18 m =>
  brb x18
    (bp (G.tab Q3 [p1, (.int .i64 1), (.int .i64 4294967295)] m) fun x19 m =>
  bp (pur (aNilCheck p5) m) fun x20 m =>
  bp (pur (aFieldAddr 6 x20) m) fun x21 m =>
  bp (unt (aStore 1 x21 x19 m)) fun _ m =>
  Q2o G p0 p6 p7 m)
    (bp (G.tab Q8 [p1, (.int .i64 130)] m) fun x22 m =>
  Q2o G p0 p6 p7 m)))))
def Qqf (G : Gt) (p30 p1 p5 p0 p6 p27 : Value) (m : Mem) : Option Rs :=
  brb p30
    (bp (G.tab Qg [p1] m) fun x23 m =>
  Qqe G x23 p5 p1 p0 p6 m)
    (bp (pur (bin .eql true true .str p27 (.string ⟨#[115, 101, 116]⟩)) m) fun x24 m =>
  brb x24
    (bp (G.tab Qsr [p0, p1, p5] m) fun x25 m =>
  bp (aBuildSlice Q2 [(.string ⟨#[]⟩)] 1 2 [(0, p6), (1, x25)] m) fun x26 m =>
  bp (G.tab Qf [p0, x26] m) fun x27 m =>
  some (.tuple ⟨[]⟩, m))
    (bp (pur (bin .eql true true .str p27 (.string ⟨#[99, 111, 110, 116, 105, 110, 117, 101]⟩)) m) fun x28 m =>
  brb x28
    (bp (pur (aNilCheck p5) m) fun x29 m =>
  bp (pur (aFieldAddr 0 x29) m) fun x30 m =>
  bp (pur (aLoad false 1 x30 m) m) fun x31 m =>
  bp (pur (bin .add true true .int x31 (.int .i64 1)) m) fun x32 m =>
  bp (G.tab Q3 [p1, x32, (.int .i64 65535)] m) fun x33 m =>
  bp (pur (aNilCheck p5) m) fun x34 m =>
  bp (pur (aFieldAddr 14 x34) m) fun x35 m =>
  bp (unt (aStore 1 x35 x33 m)) fun _ m =>
  bp (aBuildSlice Q2 [(.string ⟨#[]⟩)] 1 1 [(0, p6)] m) fun x36 m =>
  bp (G.tab Qf [p0, x36] m) fun x37 m =>
  some (.tuple ⟨[]⟩, m))
    (bp (G.tab Q8 [p1, (.int .i64 130)] m) fun x38 m =>
  some (.tuple ⟨[]⟩, m))))
def Qqg (G : Gt) (p27 p1 p5 p0 p6 : Value) (m : Mem) : Option Rs :=
  bp (pur (bin .eql true true .str p27 (.string ⟨#[109, 97, 116, 99, 104]⟩)) m) fun x39 m =>
  Qqf G x39 p1 p5 p0 p6 p27 m
def Qqh (G : Gt) (p6 p1 p5 p0 : Value) (m : Mem) : Option Rs :=
  Qqg G p6 p1 p5 p0 p6 m
def Qqi (G : Gt) (p1 p5 p0 : Value) (m : Mem) : Option Rs :=
  bp (G.tab Qg [p1] m) fun x40 m =>
  Qqh G x40 p1 p5 p0 m
def Qqj (G : Gt) (p4 p1 p0 : Value) (m : Mem) : Option Rs :=
  bp (pur (lenK 1 p4 m) m) fun x41 m =>
  bp (pur (bin .sub true true .int x41 (.int .i64 1)) m) fun x42 m =>
  bp (pur (aIndexAddrSl 15 p4 x42) m) fun x43 m =>
  Qqi G p1 x43 p0 m
def Qi3 (G : Gt) (p0 p1 : Value) (m : Mem) : Option Rs :=
  bp (pur (aNilCheck p0) m) fun x44 m =>
  bp (pur (aFieldAddr 0 x44) m) fun x45 m =>
  bp (pur (aFieldAddr 9 x45) m) fun x46 m =>
  bp (pur (aLoad false 1 x46 m) m) fun x47 m =>
  bp (pur (aNilCheck p0) m) fun x48 m =>
  bp (pur (aFieldAddr 17 x48) m) fun x49 m =>
  bp (pur (aLoad false 1 x49 m) m) fun x50 m =>
  bp (pur (aIndexAddrSl 3 x47 x50) m) fun x51 m =>
  bp (pur (aFieldAddr 1 x51) m) fun x52 m =>
  bp (pur (aLoad false 1 x52 m) m) fun x53 m =>
  Qqj G x53 p1 p0 m
theorem Q16t (G : Gt) (a0 a1 : Value) (m : Mem) : evFn Go.Proofs.Tryz.prog G.tab G.rds (drOf Go.Proofs.Tryz.prog G.tab) Go.Proofs.Tryz.f93 [a0, a1] m = Qi3 G a0 a1 m :=
  evFn_of (r := fun ρ m => Qi3 G (ρ 0) (ρ 1) m) rfl rfl (tr (seqQ (f := fun ρ m => Qqj G (ρ 4) (ρ 1) (ρ 0) m) (tr (seqQ (f := fun ρ m => Qqi G (ρ 1) (ρ 5) (ρ 0) m) (tr (seqQ (f := fun ρ m => Qqh G (ρ 6) (ρ 1) (ρ 5) (ρ 0) m) (tr (seqQ (f := fun ρ m => Qqg G (ρ 27) (ρ 1) (ρ 5) (ρ 0) (ρ 6) m) (tr (blockQ (seqQ (f := fun ρ m => Qqf G (ρ 30) (ρ 1) (ρ 5) (ρ 0) (ρ 6) (ρ 27) m) (tr (condQ (seqQ (f := fun ρ m => Qqe G (ρ 7) (ρ 5) (ρ 1) (ρ 0) (ρ 6) m) (tr (seqQ (f := fun ρ m => Q2o G (ρ 0) (ρ 6) (ρ 7) m) (fun ρ m => by kernel_rfl)) (fun ρ m => by kernel_rfl))) (refQ)) (fun ρ m => by kernel_rfl)))) (fun ρ m => by kernel_rfl))) (fun ρ m => by kernel_rfl))) (fun ρ m => by kernel_rfl))) (fun ρ m => by kernel_rfl))) (fun ρ m => by kernel_rfl)) m
def Q161 : Entry Go.Proofs.Tryz.prog := ⟨Qss, Go.Proofs.Tryz.f93, Go.Proofs.Tryz.func93, by kernel_rfl, arg2 (fun G a0 a1 m => Qi3 G a0 a1 m), okarg2 Q16t⟩
def Qet (G : Gt) (p2 : Value) (m : Mem) : Option Rs :=
  some (p2, m)
def Q13p (G : Gt) (p0 : Value) (m : Mem) : Option Rs :=
  bp (pur (bin .neq true true .str p0 (.string ⟨#[]⟩)) m) fun x0 m =>
  brb x0
    (bp (G.tab Q102 [p0, (.string ⟨#[48, 49, 50, 51, 52, 53, 54, 55, 56, 57]⟩)] m) fun x1 m =>
  bp (pur (bin .eql true true .str x1 (.string ⟨#[]⟩)) m) fun x2 m =>
  brb x2
    (bp (pur (bin .eql true true .str p0 (.string ⟨#[48]⟩)) m) fun x3 m =>
  brb x3
    (Qet G (.bool true) m)
    (bp (pur (aIndexStr p0 (.int .i64 0)) m) fun x4 m =>
  bp (pur (bin .neq true true .int x4 (.int .u8 48)) m) fun x5 m =>
  Qet G x5 m))
    (Qet G (.bool false) m))
    (Qet G (.bool false) m)
def Qz1 (G : Gt) (p0 : Value) (m : Mem) : Option Rs :=
  Q13p G p0 m
theorem Q1d2 (G : Gt) (a0 : Value) (m : Mem) : evFn Go.Proofs.Tryz.prog G.tab G.rds (drOf Go.Proofs.Tryz.prog G.tab) Go.Proofs.Tryz.f94 [a0] m = Qz1 G a0 m :=
  evFn_of (r := fun ρ m => Qz1 G (ρ 0) m) rfl rfl (tr (seqQ (f := fun ρ m => Q13p G (ρ 0) m) (tr (seqQ (f := fun ρ m => Qet G (ρ 2) m) (fun ρ m => by kernel_rfl)) (fun ρ m => by kernel_rfl))) (fun ρ m => by kernel_rfl)) m
def Q1cx : Entry Go.Proofs.Tryz.prog := ⟨Q188, Go.Proofs.Tryz.f94, Go.Proofs.Tryz.func94, by kernel_rfl, arg1 (fun G a0 m => Qz1 G a0 m), okarg1 Q1d2⟩
def Qcc (G : Gt) (p29 p6 : Value) (m : Mem) : Option Rs :=
  brb p29
    (some (.tuple ⟨[(.int .i64 0), (.bool false)]⟩, m))
    (some (.tuple ⟨[p6, (.bool true)]⟩, m))
def Q11e (G : Gt) (p7 p6 p1 p0 : Value) (m : Mem) : Option Rs :=
  bp (pur (bin .neq true false .iface p7 .nilIface) m) fun x0 m =>
  brb x0
    (Qcc G (.bool true) p6 m)
    (bp (pur (bin .lss true true .int p6 (.int .i64 0)) m) fun x1 m =>
  brb x1
    (Qcc G (.bool true) p6 m)
    (bp (pur (bin .gtr false true .int p6 p1) m) fun x2 m =>
  brb x2
    (Qcc G (.bool true) p6 m)
    (bp (G.tab Q26 [p6] m) fun x3 m =>
  bp (pur (bin .neq false true .str x3 p0) m) fun x4 m =>
  Qcc G x4 p6 m)))
def Q11f (G : Gt) (p0 p1 : Value) (m : Mem) : Option Rs :=
  bp (G.tab Qs7 [p0] m) fun x5 m =>
  bp (pur (aExtract x5 0) m) fun x6 m =>
  bp (pur (aExtract x5 1) m) fun x7 m =>
  Q11e G x7 x6 p1 p0 m
def Qwd (G : Gt) (p0 p1 : Value) (m : Mem) : Option Rs :=
  Q11f G p0 p1 m
theorem Q1bz (G : Gt) (a0 a1 : Value) (m : Mem) : evFn Go.Proofs.Tryz.prog G.tab G.rds (drOf Go.Proofs.Tryz.prog G.tab) Go.Proofs.Tryz.f95 [a0, a1] m = Qwd G a0 a1 m :=
  evFn_of (r := fun ρ m => Qwd G (ρ 0) (ρ 1) m) rfl rfl (tr (seqQ (f := fun ρ m => Q11f G (ρ 0) (ρ 1) m) (tr (seqQ (f := fun ρ m => Q11e G (ρ 7) (ρ 6) (ρ 1) (ρ 0) m) (tr (tr seqD (seqQ (f := fun ρ m => Qcc G (ρ 29) (ρ 6) m) (fun ρ m => by kernel_rfl))) (fun ρ m => by kernel_rfl))) (fun ρ m => by kernel_rfl))) (fun ρ m => by kernel_rfl)) m
def Q1br : Entry Go.Proofs.Tryz.prog := ⟨Q15e, Go.Proofs.Tryz.f95, Go.Proofs.Tryz.func95, by kernel_rfl, arg2 (fun G a0 a1 m => Qwd G a0 a1 m), okarg2 Q1bz⟩
def Qfo (G : Gt) (p0 p1 : Value) (m : Mem) : Option Rs :=
  bp (pur (aNilCheck p0) m) fun x0 m =>
  bp (pur (aFieldAddr 0 x0) m) fun x1 m =>
  bp (pur (aFieldAddr 10 x1) m) fun x2 m =>
  bp (pur (aLoad false 1 x2 m) m) fun x3 m =>
  bp (pur (aNilCheck p0) m) fun x4 m =>
  bp (pur (aFieldAddr 0 x4) m) fun x5 m =>
  bp (pur (aFieldAddr 10 x5) m) fun x6 m =>
  bp (pur (aLoad false 1 x6 m) m) fun x7 m =>
  bp (pur (lenK 1 x7 m) m) fun x8 m =>
  bp (pur (bin .sub true true .int x8 (.int .i64 1)) m) fun x9 m =>
  bp (pur (aIndexAddrSl 3 x3 x9) m) fun x10 m =>
  bp (G.tab Qg [p1] m) fun x11 m =>
  bp (pur (bin .eql true true .str x11 (.string ⟨#[114, 111, 117, 116, 101, 114, 45, 105, 100]⟩)) m) fun x12 m =>
  brb x12
    (bp (G.tab Qt [p1] m) fun x13 m =>
  bp (pur (aNilCheck x10) m) fun x14 m =>
  bp (pur (aFieldAddr 1 x14) m) fun x15 m =>
  bp (unt (aStore 1 x15 x13 m)) fun _ m =>
  bp (aBuildSlice Q2 [(.string ⟨#[]⟩)] 1 1 [(0, x11)] m) fun x16 m =>
  bp (G.tab Qf [p0, x16] m) fun x17 m =>
  some (.tuple ⟨[]⟩, m))
    (bp (pur (bin .eql true true .str x11 (.string ⟨#[114, 101, 100, 105, 115, 116, 114, 105, 98, 117, 116, 101]⟩)) m) fun x18 m =>
  brb x18
    (bp (pur (aNilCheck x10) m) fun x19 m =>
  bp (pur (aFieldAddr 2 x19) m) fun x20 m =>
  bp (pur (aLoad false 1 x20 m) m) fun x21 m =>
  bp (G.tab Qbd [p1, (.string ⟨#[98, 103, 112]⟩), (.int .u8 8), (.bool true)] m) fun x22 m =>
  ckB (again (pur (aLoad false 1 x20 m) m) x21 && true)
    (bp (aBuildSlice Q5a Q6u 4 1 [(0, x22)] m) fun x23 m =>
  bp (apS Q5a 4 40 x21 x23 m) fun x24 m =>
  bp (pur (aNilCheck x10) m) fun x25 m =>
  bp (pur (aFieldAddr 2 x25) m) fun x26 m =>
  bp (unt (aStore 1 x26 x24 m)) fun _ m =>
  some (.tuple ⟨[]⟩, m)))
    (bp (G.tab Q8 [p1, (.int .i64 130)] m) fun x27 m =>
  some (.tuple ⟨[]⟩, m)))
theorem Q14y (G : Gt) (a0 a1 : Value) (m : Mem) : evFn Go.Proofs.Tryz.prog G.tab G.rds (drOf Go.Proofs.Tryz.prog G.tab) Go.Proofs.Tryz.f96 [a0, a1] m = Qfo G a0 a1 m :=
  evFn_of (r := fun ρ m => Qfo G (ρ 0) (ρ 1) m) rfl rfl (fun ρ m => by kernel_rfl) m
def Q14c : Entry Go.Proofs.Tryz.prog := ⟨Qr1, Go.Proofs.Tryz.f96, Go.Proofs.Tryz.func96, by kernel_rfl, arg2 (fun G a0 a1 m => Qfo G a0 a1 m), okarg2 Q14y⟩
def Qi4 (G : Gt) (p0 p1 : Value) (m : Mem) : Option Rs :=
  bp (pur (aNilCheck p0) m) fun x0 m =>
  bp (pur (aFieldAddr 0 x0) m) fun x1 m =>
  bp (pur (aFieldAddr 11 x1) m) fun x2 m =>
  bp (pur (aLoad false 1 x2 m) m) fun x3 m =>
  bp (pur (aNilCheck p0) m) fun x4 m =>
  bp (pur (aFieldAddr 0 x4) m) fun x5 m =>
  bp (pur (aFieldAddr 11 x5) m) fun x6 m =>
  bp (pur (aLoad false 1 x6 m) m) fun x7 m =>
  bp (pur (lenK 1 x7 m) m) fun x8 m =>
  bp (pur (bin .sub true true .int x8 (.int .i64 1)) m) fun x9 m =>
  bp (pur (aIndexAddrSl 6 x3 x9) m) fun x10 m =>
  bp (G.tab Qg [p1] m) fun x11 m =>
  bp (pur (bin .eql true true .str x11 (.string ⟨#[114, 111, 117, 116, 101, 114, 45, 105, 100]⟩)) m) fun x12 m =>
  brb x12
    (bp (G.tab Qt [p1] m) fun x13 m =>
  bp (pur (aNilCheck x10) m) fun x14 m =>
  bp (pur (aFieldAddr 2 x14) m) fun x15 m =>
  bp (unt (aStore 1 x15 x13 m)) fun _ m =>
  bp (aBuildSlice Q2 [(.string ⟨#[]⟩)] 1 1 [(0, x11)] m) fun x16 m =>
  bp (G.tab Qf [p0, x16] m) fun x17 m =>
  some (.tuple ⟨[]⟩, m))
    (bp (pur (bin .eql true true .str x11 (.string ⟨#[110, 101, 116, 119, 111, 114, 107]⟩)) m) fun x18 m =>
  brb x18
    (bp (G.tab Qt [p1] m) fun x19 m =>
  bp (G.tab Q5v [p1, (.bool false)] m) fun x20 m =>
  bp (G.tab Q9z [p1, x19, x20] m) fun x21 m =>
  bp (some (aNew Q1d Q19 m)) fun x22 m =>
  bp (unt (aStore 2 x22 x21 m)) fun _ m =>
  bp (pur (aLoad true 2 x22 m) m) fun x23 m =>
  bp (G.tab Qjm [x23] m) fun x24 m =>
  bp (aBuildSlice Q2 [(.string ⟨#[]⟩)] 1 2 [(0, x11), (1, x24)] m) fun x25 m =>
  bp (G.tab Qf [p0, x25] m) fun x26 m =>
  bp (pur (aNilCheck x10) m) fun x27 m =>
  bp (pur (aFieldAddr 3 x27) m) fun x28 m =>
  bp (pur (aLoad false 1 x28 m) m) fun x29 m =>
  bp (pur (aLoad true 2 x22 m) m) fun x30 m =>
  bp (aBuildSlice Q1d Q19 2 1 [(0, x30)] m) fun x31 m =>
  bp (apS Q1d 2 16 x29 x31 m) fun x32 m =>
  bp (pur (aNilCheck x10) m) fun x33 m =>
  bp (pur (aFieldAddr 3 x33) m) fun x34 m =>
  bp (unt (aStore 1 x34 x32 m)) fun _ m =>
  some (.tuple ⟨[]⟩, m))
    (bp (pur (bin .eql true true .str x11 (.string ⟨#[110, 101, 105, 103, 104, 98, 111, 114]⟩)) m) fun x35 m =>
  brb x35
    (bp (G.tab Qjl [p0, p1, x10] m) fun x36 m =>
  some (.tuple ⟨[]⟩, m))
    (bp (pur (bin .eql true true .str x11 (.string ⟨#[114, 101, 100, 105, 115, 116, 114, 105, 98, 117, 116, 101]⟩)) m) fun x37 m =>
  brb x37
    (bp (pur (aNilCheck x10) m) fun x38 m =>
  bp (pur (aFieldAddr 5 x38) m) fun x39 m =>
  bp (pur (aLoad false 1 x39 m) m) fun x40 m =>
  bp (G.tab Qbd [p1, (.string ⟨#[111, 115, 112, 102]⟩), (.int .u8 4), (.bool false)] m) fun x41 m =>
  ckB (again (pur (aLoad false 1 x39 m) m) x40 && true)
    (bp (aBuildSlice Q5a Q6u 4 1 [(0, x41)] m) fun x42 m =>
  bp (apS Q5a 4 40 x40 x42 m) fun x43 m =>
  bp (pur (aNilCheck x10) m) fun x44 m =>
  bp (pur (aFieldAddr 5 x44) m) fun x45 m =>
  bp (unt (aStore 1 x45 x43 m)) fun _ m =>
  some (.tuple ⟨[]⟩, m)))
    (bp (G.tab Q8 [p1, (.int .i64 130)] m) fun x46 m =>
  some (.tuple ⟨[]⟩, m)))))
theorem Q16u (G : Gt) (a0 a1 : Value) (m : Mem) : evFn Go.Proofs.Tryz.prog G.tab G.rds (drOf Go.Proofs.Tryz.prog G.tab) Go.Proofs.Tryz.f97 [a0, a1] m = Qi4 G a0 a1 m :=
  evFn_of (r := fun ρ m => Qi4 G (ρ 0) (ρ 1) m) rfl rfl (fun ρ m => by kernel_rfl) m
def Q15x : Entry Go.Proofs.Tryz.prog := ⟨Qst, Go.Proofs.Tryz.f97, Go.Proofs.Tryz.func97, by kernel_rfl, arg2 (fun G a0 a1 m => Qi4 G a0 a1 m), okarg2 Q16u⟩
def Qfp (G : Gt) (p0 : Value) (m : Mem) : Option Rs :=
  bp (some (aNew Qr Qk m)) fun x0 m =>
  bp (pur (aNilCheck p0) m) fun x1 m =>
  bp (pur (aFieldAddr 0 x1) m) fun x2 m =>
  bp (pur (aLoad false 1 x2 m) m) fun x3 m =>
  bp (pur (aNilCheck p0) m) fun x4 m =>
  bp (pur (aFieldAddr 1 x4) m) fun x5 m =>
  bp (pur (aLoad false 1 x5 m) m) fun x6 m =>
  bp (pur (aMax x6 (.int .i64 1)) m) fun x7 m =>
  bp (pur (bin .sub true true .int x7 (.int .i64 1)) m) fun x8 m =>
  bp (pur (aIndexAddrSl 3 x3 x8) m) fun x9 m =>
  bp (pur (aFieldAddr 1 x9) m) fun x10 m =>
  bp (pur (aLoad true 2 x10 m) m) fun x11 m =>
  bp (unt (aStore 2 x0 x11 m)) fun _ m =>
  ob (ob (aLoad true 2 x0 m) fun v => ob (some []) fun l => some (v :: l)) fun l => some (resVal l, m)
theorem Q14z (G : Gt) (a0 : Value) (m : Mem) : evFn Go.Proofs.Tryz.prog G.tab G.rds (drOf Go.Proofs.Tryz.prog G.tab) Go.Proofs.Tryz.f98 [a0] m = Qfp G a0 m :=
  evFn_of (r := fun ρ m => Qfp G (ρ 0) m) rfl rfl (fun ρ m => by kernel_rfl) m
def Q14g : Entry Go.Proofs.Tryz.prog := ⟨Qr2, Go.Proofs.Tryz.f98, Go.Proofs.Tryz.func98, by kernel_rfl, arg1 (fun G a0 m => Qfp G a0 m), okarg1 Q14z⟩
def Q4e (G : Gt) (k0 : Value → Value → Value → Value → Value → Mem → Option Rs) (p8 p2 p1 p3 p0 : Value) (m : Mem) : Option Rs :=
  bp (pur (bin .add true true .int p8 (.int .i64 1)) m) fun x0 m =>
  k0 x0 p2 p1 p3 p0 m
def Q23 (G : Gt) (k1 : Value → Value → Value → Value → Value → Value → Mem → Option Rs) (k0 : Value → Value → Value → Value → Value → Mem → Option Rs) (p34 p0 p9 p1 p3 p8 p2 : Value) (m : Mem) : Option Rs :=
  brb p34
    (bp (pur (bin .sub true true .int p9 (.int .i64 1)) m) fun x1 m =>
  bp (pur (bin .sub true true .int p9 (.int .i64 1)) m) fun x2 m =>
  bp (pur (aIndexAddrSl 15 p0 x2) m) fun x3 m =>
  bp (pur (aLoad true 15 x3 m) m) fun x4 m =>
  bp (pur (aIndexAddrSl 15 p0 p9) m) fun x5 m =>
  bp (pur (aLoad true 15 x5 m) m) fun x6 m =>
  bp (pur (aIndexAddrSl 15 p0 p9) m) fun x7 m =>
  bp (unt (aStore 15 x7 x4 m)) fun _ m =>
  bp (pur (aIndexAddrSl 15 p0 x1) m) fun x8 m =>
  bp (unt (aStore 15 x8 x6 m)) fun _ m =>
  bp (pur (bin .sub true true .int p9 (.int .i64 1)) m) fun x9 m =>
  k1 x9 p1 p3 p0 p8 p2 m)
    (Q4e G k0 p8 p2 p1 p3 p0 m)
def Qo (G : Gt) (k0 : Value → Value → Value → Value → Value → Mem → Option Rs) : Nat → Value → Value → Value → Value → Value → Value → Mem → Option Rs
  | 0, _, _, _, _, _, _, _ => none
  | i + 1, p9, p1, p3, p0, p8, p2, m =>
  bp (pur (bin .gtr false true .int p9 p1) m) fun x10 m =>
  brt x10
    (bp (pur (aIndexAddrSl 15 p0 p9) m) fun x11 m =>
  bp (pur (aLoad true 15 x11 m) m) fun x12 m =>
  bp (pur (bin .sub true true .int p9 (.int .i64 1)) m) fun x13 m =>
  bp (pur (aIndexAddrSl 15 p0 x13) m) fun x14 m =>
  bp (pur (aLoad true 15 x14 m) m) fun x15 m =>
  bp (evCall G.tab p3 [x12, x15] m) fun x16 m =>
  bp (pur (bin .lss true true .int x16 (.int .i64 0)) m) fun x17 m =>
  Q23 G (Qo G k0 i) k0 x17 p0 p9 p1 p3 p8 p2 m)
    (Q23 G (Qo G k0 i) k0 (.bool false) p0 p9 p1 p3 p8 p2 m)
    (none)
def Q4f (G : Gt) (k0 : Value → Value → Value → Value → Value → Mem → Option Rs) (p9 p1 p3 p0 p8 p2 : Value) (m : Mem) : Option Rs :=
  Qo G k0 G.rds p9 p1 p3 p0 p8 p2 m
def Q4g (G : Gt) (k0 : Value → Value → Value → Value → Value → Mem → Option Rs) (p8 p1 p3 p0 p2 : Value) (m : Mem) : Option Rs :=
  Q4f G k0 p8 p1 p3 p0 p8 p2 m
def Q6 (G : Gt) : Nat → Value → Value → Value → Value → Value → Mem → Option Rs
  | 0, _, _, _, _, _, _ => none
  | i + 1, p8, p2, p1, p3, p0, m =>
  bp (pur (bin .lss false true .int p8 p2) m) fun x18 m =>
  brb x18
    (Q4g G (Q6 G i) p8 p1 p3 p0 p2 m)
    (some (.tuple ⟨[]⟩, m))
def Q4h (G : Gt) (p8 p2 p1 p3 p0 : Value) (m : Mem) : Option Rs :=
  Q6 G G.rds p8 p2 p1 p3 p0 m
def Q2i (G : Gt) (p1 p2 p3 p0 : Value) (m : Mem) : Option Rs :=
  bp (pur (bin .add true true .int p1 (.int .i64 1)) m) fun x19 m =>
  Q4h G x19 p2 p1 p3 p0 m
theorem Qcj (G : Gt) (a0 a1 a2 a3 : Value) (m : Mem) : evFn Go.Proofs.Tryz.prog G.tab G.rds (drOf Go.Proofs.Tryz.prog G.tab) Go.Proofs.Tryz.f99 [a0, a1, a2, a3] m = Q2i G a1 a2 a3 a0 m :=
  evFn_of (r := fun ρ m => Q2i G (ρ 1) (ρ 2) (ρ 3) (ρ 0) m) rfl rfl (tr (seqQ (f := fun ρ m => Q4h G (ρ 8) (ρ 2) (ρ 1) (ρ 3) (ρ 0) m) (tr (blockQ (loopQ (fun i ρ m => Q6 G i (ρ 8) (ρ 2) (ρ 1) (ρ 3) (ρ 0) m) (fun _ _ => rfl) (fun i0 => tr (seqQ (f := fun ρ m => Q4g G (Q6 G i0) (ρ 8) (ρ 1) (ρ 3) (ρ 0) (ρ 2) m) (tr (tr (seqQ (f := fun ρ m => Q4e G (Q6 G i0) (ρ 8) (ρ 2) (ρ 1) (ρ 3) (ρ 0) m) (fun ρ m => by kernel_rfl)) (blockQ (seqQ (f := fun ρ m => Q4f G (Q6 G i0) (ρ 9) (ρ 1) (ρ 3) (ρ 0) (ρ 8) (ρ 2) m) (tr (blockQ (loopQ (fun i ρ m => Qo G (Q6 G i0) i (ρ 9) (ρ 1) (ρ 3) (ρ 0) (ρ 8) (ρ 2) m) (fun _ _ => rfl) (fun i1 => tr (tr seqD (seqQ (f := fun ρ m => Q23 G (Qo G (Q6 G i0) i1) (Q6 G i0) (ρ 34) (ρ 0) (ρ 9) (ρ 1) (ρ 3) (ρ 8) (ρ 2) m) (fun ρ m => by kernel_rfl))) (fun ρ m => by kernel_rfl)))) (fun ρ m => by kernel_rfl))))) (fun ρ m => by kernel_rfl))) (fun ρ m => by kernel_rfl)))) (fun ρ m => by kernel_rfl))) (fun ρ m => by kernel_rfl)) m
def Qcg : Entry Go.Proofs.Tryz.prog := ⟨Q4y, Go.Proofs.Tryz.f99, Go.Proofs.Tryz.func99, by kernel_rfl, arg4 (fun G a0 a1 a2 a3 m => Q2i G a1 a2 a3 a0 m), okarg4 Qcj⟩
def Qfq (G : Gt) (p2 p0 : Value) (m : Mem) : Option Rs :=
  bp (conv (.int .u8) p0 m) fun x0 m =>
  bp (pur (aIndexStr (.string ⟨#[0, 1, 2, 2, 3, 3, 3, 3, 4, 4, 4, 4, 4, 4, 4, 4, 5, 5, 5, 5, 5, 5, 5, 5, 5, 5, 5, 5, 5, 5, 5, 5, 6, 6, 6, 6, 6, 6, 6, 6, 6, 6, 6, 6, 6, 6, 6, 6, 6, 6, 6, 6, 6, 6, 6, 6, 6, 6, 6, 6, 6, 6, 6, 6, 7, 7, 7, 7, 7, 7, 7, 7, 7, 7, 7, 7, 7, 7, 7, 7, 7, 7, 7, 7, 7, 7, 7, 7, 7, 7, 7, 7, 7, 7, 7, 7, 7, 7, 7, 7, 7, 7, 7, 7, 7, 7, 7, 7, 7, 7, 7, 7, 7, 7, 7, 7, 7, 7, 7, 7, 7, 7, 7, 7, 7, 7, 7, 7, 8, 8, 8, 8, 8, 8, 8, 8, 8, 8, 8, 8, 8, 8, 8, 8, 8, 8, 8, 8, 8, 8, 8, 8, 8, 8, 8, 8, 8, 8, 8, 8, 8, 8, 8, 8, 8, 8, 8, 8, 8, 8, 8, 8, 8, 8, 8, 8, 8, 8, 8, 8, 8, 8, 8, 8, 8, 8, 8, 8, 8, 8, 8, 8, 8, 8, 8, 8, 8, 8, 8, 8, 8, 8, 8, 8, 8, 8, 8, 8, 8, 8, 8, 8, 8, 8, 8, 8, 8, 8, 8, 8, 8, 8, 8, 8, 8, 8, 8, 8, 8, 8, 8, 8, 8, 8, 8, 8, 8, 8, 8, 8, 8, 8, 8, 8, 8, 8, 8, 8, 8, 8, 8, 8, 8, 8, 8, 8]⟩) x0) m) fun x1 m =>
  bp (conv (.int .i64) x1 m) fun x2 m =>
  bp (pur (bin .add false true .int p2 x2) m) fun x3 m =>
  some (x3, m)
def Qfr (G : Gt) (p0 p2 : Value) (m : Mem) : Option Rs :=
  bp (pur (bin .geq true true .int p0 (.int .u32 256)) m) fun x4 m =>
  brb x4
    (bp (pur (bin .shr true true .int p0 (.int .u64 8)) m) fun x5 m =>
  bp (pur (bin .add true true .int p2 (.int .i64 8)) m) fun x6 m =>
  Qfq G x6 x5 m)
    (Qfq G p2 p0 m)
def Qrp (G : Gt) (p0 p2 : Value) (m : Mem) : Option Rs :=
  bp (pur (bin .geq true true .int p0 (.int .u32 65536)) m) fun x7 m =>
  brb x7
    (bp (pur (bin .shr true true .int p0 (.int .u64 16)) m) fun x8 m =>
  Qfr G x8 (.int .i64 16) m)
    (Qfr G p0 p2 m)
def Qka (G : Gt) (p0 : Value) (m : Mem) : Option Rs :=
  Qrp G p0 (.int .i64 0) m
theorem Q182 (G : Gt) (a0 : Value) (m : Mem) : evFn Go.Proofs.Tryz.prog G.tab G.rds (drOf Go.Proofs.Tryz.prog G.tab) Go.Proofs.Tryz.f107 [a0] m = Qka G a0 m :=
  evFn_of (r := fun ρ m => Qka G (ρ 0) m) rfl rfl (tr (seqQ (f := fun ρ m => Qrp G (ρ 0) (ρ 2) m) (tr (seqQ (f := fun ρ m => Qfr G (ρ 0) (ρ 2) m) (tr (seqQ (f := fun ρ m => Qfq G (ρ 2) (ρ 0) m) (fun ρ m => by kernel_rfl)) (fun ρ m => by kernel_rfl))) (fun ρ m => by kernel_rfl))) (fun ρ m => by kernel_rfl)) m
def Q17b : Entry Go.Proofs.Tryz.prog := ⟨Qjp, Go.Proofs.Tryz.f107, Go.Proofs.Tryz.func107, by kernel_rfl, arg1 (fun G a0 m => Qka G a0 m), okarg1 Q182⟩
end
end Go.Ab.Sh
