/-
  Functions of the program as plain definitions, each with the theorem that it is what the evaluator makes of the code. No conditions.
-/
import Derived.Test.YtbjgjnkihdddlaaGreatDoorAb4
import Derived.Test.YtbjgjnkihdddlaaGreatDoorZ
import Derived.KernelRfl
import Derived.Test.YtbjgjnkihdddlaaGreatDoorProg
set_option linter.unusedVariables false
set_option maxRecDepth 100000
namespace Go.Ab.Sh
open Go Go.Ab
noncomputable section
def Q46 (G : Gt) (m : Mem) : Option Rs :=
  some ((.int .i64 (-1)), m)
def Q1x (G : Gt) : Nat → Value → Value → Value → Value → Mem → Option Rs
  | 0, _, _, _, _, _ => none
  | i + 1, p8, p7, p1, p0, m =>
  bp (pur (bin .lss false true .int p8 p7) m) fun x0 m =>
  brb x0
    (bp (pur (aIndexAddrSl 5 p0 p8) m) fun x1 m =>
  bp (pur (aLoad true 5 x1 m) m) fun x2 m =>
  bp (evCall G.tab p1 [x2] m) fun x3 m =>
  brb x3
    (some (p8, m))
    (bp (pur (bin .add true true .int p8 (.int .i64 1)) m) fun x4 m =>
  (Q1x G i) x4 p7 p1 p0 m))
    (Q46 G m)
def Q47 (G : Gt) (p8 p7 p1 p0 : Value) (m : Mem) : Option Rs :=
  Q1x G G.rds p8 p7 p1 p0 m
def Q48 (G : Gt) (p0 p1 : Value) (m : Mem) : Option Rs :=
  bp (pur (lenK 1 p0 m) m) fun x5 m =>
  Q47 G (.int .i64 0) x5 p1 p0 m
def Q2c (G : Gt) (p0 p1 : Value) (m : Mem) : Option Rs :=
  Q48 G p0 p1 m
theorem Qcd (G : Gt) (a0 a1 : Value) (m : Mem) : evFn Go.Proofs.Tryz.prog G.tab G.rds (drOf Go.Proofs.Tryz.prog G.tab) Go.Proofs.Tryz.f244 [a0, a1] m = Q2c G a0 a1 m :=
  evFn_of (r := fun ρ m => Q2c G (ρ 0) (ρ 1) m) rfl rfl (tr (seqQ (f := fun ρ m => Q48 G (ρ 0) (ρ 1) m) (tr (tr (seqQ (f := fun ρ m => Q46 G m) (fun ρ m => by kernel_rfl)) (seqQ (f := fun ρ m => Q47 G (ρ 8) (ρ 7) (ρ 1) (ρ 0) m) (tr (blockQ (loopQ (fun i ρ m => Q1x G i (ρ 8) (ρ 7) (ρ 1) (ρ 0) m) (fun _ _ => rfl) (fun i0 => fun ρ m => by kernel_rfl))) (fun ρ m => by kernel_rfl)))) (fun ρ m => by kernel_rfl))) (fun ρ m => by kernel_rfl)) m
def Qce : Entry Go.Proofs.Tryz.prog := ⟨Q4u, Go.Proofs.Tryz.f244, Go.Proofs.Tryz.func244, by kernel_rfl, arg2 (fun G a0 a1 m => Q2c G a0 a1 m), okarg2 Qcd⟩
def Q3p (G : Gt) (m : Mem) : Option Rs :=
  some ((.int .i64 (-1)), m)
def Q1l (G : Gt) : Nat → Value → Value → Value → Value → Mem → Option Rs
  | 0, _, _, _, _, _ => none
  | i + 1, p8, p7, p1, p0, m =>
  bp (pur (bin .lss false true .int p8 p7) m) fun x0 m =>
  brb x0
    (bp (pur (aIndexAddrSl 2 p0 p8) m) fun x1 m =>
  bp (pur (aLoad true 2 x1 m) m) fun x2 m =>
  bp (evCall G.tab p1 [x2] m) fun x3 m =>
  brb x3
    (some (p8, m))
    (bp (pur (bin .add true true .int p8 (.int .i64 1)) m) fun x4 m =>
  (Q1l G i) x4 p7 p1 p0 m))
    (Q3p G m)
def Q3q (G : Gt) (p8 p7 p1 p0 : Value) (m : Mem) : Option Rs :=
  Q1l G G.rds p8 p7 p1 p0 m
def Q3r (G : Gt) (p0 p1 : Value) (m : Mem) : Option Rs :=
  bp (pur (lenK 1 p0 m) m) fun x5 m =>
  Q3q G (.int .i64 0) x5 p1 p0 m
def Q1y (G : Gt) (p0 p1 : Value) (m : Mem) : Option Rs :=
  Q3r G p0 p1 m
theorem Qb1 (G : Gt) (a0 a1 : Value) (m : Mem) : evFn Go.Proofs.Tryz.prog G.tab G.rds (drOf Go.Proofs.Tryz.prog G.tab) Go.Proofs.Tryz.f245 [a0, a1] m = Q1y G a0 a1 m :=
  evFn_of (r := fun ρ m => Q1y G (ρ 0) (ρ 1) m) rfl rfl (tr (seqQ (f := fun ρ m => Q3r G (ρ 0) (ρ 1) m) (tr (tr (seqQ (f := fun ρ m => Q3p G m) (fun ρ m => by kernel_rfl)) (seqQ (f := fun ρ m => Q3q G (ρ 8) (ρ 7) (ρ 1) (ρ 0) m) (tr (blockQ (loopQ (fun i ρ m => Q1l G i (ρ 8) (ρ 7) (ρ 1) (ρ 0) m) (fun _ _ => rfl) (fun i0 => fun ρ m => by kernel_rfl))) (fun ρ m => by kernel_rfl)))) (fun ρ m => by kernel_rfl))) (fun ρ m => by kernel_rfl)) m
def Qb2 : Entry Go.Proofs.Tryz.prog := ⟨Q49, Go.Proofs.Tryz.f245, Go.Proofs.Tryz.func245, by kernel_rfl, arg2 (fun G a0 a1 m => Q1y G a0 a1 m), okarg2 Qb1⟩
def Q87 (G : Gt) (m : Mem) : Option Rs :=
  some ((.int .i64 (-1)), m)
def Q43 (G : Gt) : Nat → Value → Value → Value → Value → Mem → Option Rs
  | 0, _, _, _, _, _ => none
  | i + 1, p8, p7, p1, p0, m =>
  bp (pur (bin .lss false true .int p8 p7) m) fun x0 m =>
  brb x0
    (bp (pur (aIndexAddrSl 1 p0 p8) m) fun x1 m =>
  bp (pur (aLoad false 1 x1 m) m) fun x2 m =>
  bp (pur (bin .eql false true .int p1 x2) m) fun x3 m =>
  brb x3
    (some (p8, m))
    (bp (pur (bin .add true true .int p8 (.int .i64 1)) m) fun x4 m =>
  (Q43 G i) x4 p7 p1 p0 m))
    (Q87 G m)
def Q88 (G : Gt) (p8 p7 p1 p0 : Value) (m : Mem) : Option Rs :=
  Q43 G G.rds p8 p7 p1 p0 m
def Q89 (G : Gt) (p0 p1 : Value) (m : Mem) : Option Rs :=
  bp (pur (lenK 1 p0 m) m) fun x5 m =>
  Q88 G (.int .i64 0) x5 p1 p0 m
def Q4q (G : Gt) (p0 p1 : Value) (m : Mem) : Option Rs :=
  Q89 G p0 p1 m
theorem Qo4 (G : Gt) (a0 a1 : Value) (m : Mem) : evFn Go.Proofs.Tryz.prog G.tab G.rds (drOf Go.Proofs.Tryz.prog G.tab) Go.Proofs.Tryz.f246 [a0, a1] m = Q4q G a0 a1 m :=
  evFn_of (r := fun ρ m => Q4q G (ρ 0) (ρ 1) m) rfl rfl (tr (seqQ (f := fun ρ m => Q89 G (ρ 0) (ρ 1) m) (tr (tr (seqQ (f := fun ρ m => Q87 G m) (fun ρ m => by kernel_rfl)) (seqQ (f := fun ρ m => Q88 G (ρ 8) (ρ 7) (ρ 1) (ρ 0) m) (tr (blockQ (loopQ (fun i ρ m => Q43 G i (ρ 8) (ρ 7) (ρ 1) (ρ 0) m) (fun _ _ => rfl) (fun i0 => fun ρ m => by kernel_rfl))) (fun ρ m => by kernel_rfl)))) (fun ρ m => by kernel_rfl))) (fun ρ m => by kernel_rfl)) m
def Qo5 : Entry Go.Proofs.Tryz.prog := ⟨Q91, Go.Proofs.Tryz.f246, Go.Proofs.Tryz.func246, by kernel_rfl, arg2 (fun G a0 a1 m => Q4q G a0 a1 m), okarg2 Qo4⟩
def Q4v (G : Gt) (m : Mem) : Option Rs :=
  some ((.int .i64 (-1)), m)
def Q2d (G : Gt) : Nat → Value → Value → Value → Value → Mem → Option Rs
  | 0, _, _, _, _, _ => none
  | i + 1, p8, p7, p1, p0, m =>
  bp (pur (bin .lss false true .int p8 p7) m) fun x0 m =>
  brb x0
    (bp (pur (aIndexAddrSl 3 p0 p8) m) fun x1 m =>
  bp (pur (aLoad true 3 x1 m) m) fun x2 m =>
  bp (evCall G.tab p1 [x2] m) fun x3 m =>
  brb x3
    (some (p8, m))
    (bp (pur (bin .add true true .int p8 (.int .i64 1)) m) fun x4 m =>
  (Q2d G i) x4 p7 p1 p0 m))
    (Q4v G m)
def Q4w (G : Gt) (p8 p7 p1 p0 : Value) (m : Mem) : Option Rs :=
  Q2d G G.rds p8 p7 p1 p0 m
def Q4x (G : Gt) (p0 p1 : Value) (m : Mem) : Option Rs :=
  bp (pur (lenK 1 p0 m) m) fun x5 m =>
  Q4w G (.int .i64 0) x5 p1 p0 m
def Q2t (G : Gt) (p0 p1 : Value) (m : Mem) : Option Rs :=
  Q4x G p0 p1 m
theorem Qe4 (G : Gt) (a0 a1 : Value) (m : Mem) : evFn Go.Proofs.Tryz.prog G.tab G.rds (drOf Go.Proofs.Tryz.prog G.tab) Go.Proofs.Tryz.f247 [a0, a1] m = Q2t G a0 a1 m :=
  evFn_of (r := fun ρ m => Q2t G (ρ 0) (ρ 1) m) rfl rfl (tr (seqQ (f := fun ρ m => Q4x G (ρ 0) (ρ 1) m) (tr (tr (seqQ (f := fun ρ m => Q4v G m) (fun ρ m => by kernel_rfl)) (seqQ (f := fun ρ m => Q4w G (ρ 8) (ρ 7) (ρ 1) (ρ 0) m) (tr (blockQ (loopQ (fun i ρ m => Q2d G i (ρ 8) (ρ 7) (ρ 1) (ρ 0) m) (fun _ _ => rfl) (fun i0 => fun ρ m => by kernel_rfl))) (fun ρ m => by kernel_rfl)))) (fun ρ m => by kernel_rfl))) (fun ρ m => by kernel_rfl)) m
def Qe5 : Entry Go.Proofs.Tryz.prog := ⟨Q5f, Go.Proofs.Tryz.f247, Go.Proofs.Tryz.func247, by kernel_rfl, arg2 (fun G a0 a1 m => Q2t G a0 a1 m), okarg2 Qe4⟩
def Q7o (G : Gt) (p0 p1 p2 p3 : Value) (m : Mem) : Option Rs :=
  bp (some (aNew Qd9 (Value.cells p0).toList m)) fun x0 m =>
  bp (pur (aLoad false 1 p1 m) m) fun x1 m =>
  bp (pur (aLoad true 3 x0 m) m) fun x2 m =>
  bp (pur (aLoad false 1 p1 m) m) fun x3 m =>
  bp (pur (aLoad false 1 p2 m) m) fun x4 m =>
  bp (pur (aLoad false 1 p3 m) m) fun x5 m =>
  bp (pur (aIndexAddrSl 3 x4 x5) m) fun x6 m =>
  bp (pur (aLoad true 3 x6 m) m) fun x7 m =>
  bp (evCall G.tab x1 [x2] m) fun x8 m =>
  ckB (again (pur (aLoad false 1 p1 m) m) x3 && (again (pur (aLoad false 1 p2 m) m) x4 && (again (pur (aLoad false 1 p3 m) m) x5 && (again (pur (aLoad true 3 x6 m) m) x7 && true))))
    (bp (evCall G.tab x3 [x7] m) fun x9 m =>
  bp (pur (bin .eql false true .str x8 x9) m) fun x10 m =>
  some (x10, m))
theorem Qux (G : Gt) (a0 a1 a2 a3 : Value) (m : Mem) : evFn Go.Proofs.Tryz.prog G.tab G.rds (drOf Go.Proofs.Tryz.prog G.tab) Go.Proofs.Tryz.f248 [a0, a1, a2, a3] m = Q7o G a0 a1 a2 a3 m :=
  evFn_of (r := fun ρ m => Q7o G (ρ 0) (ρ 1) (ρ 2) (ρ 3) m) rfl rfl (fun ρ m => by kernel_rfl) m
def Quy : Entry Go.Proofs.Tryz.prog := ⟨Qfu, Go.Proofs.Tryz.f248, Go.Proofs.Tryz.func248, by kernel_rfl, arg4 (fun G a0 a1 a2 a3 m => Q7o G a0 a1 a2 a3 m), okarg4 Qux⟩
def Q5g (G : Gt) (m : Mem) : Option Rs :=
  some ((.int .i64 (-1)), m)
def Q2u (G : Gt) : Nat → Value → Value → Value → Value → Mem → Option Rs
  | 0, _, _, _, _, _ => none
  | i + 1, p8, p7, p1, p0, m =>
  bp (pur (bin .lss false true .int p8 p7) m) fun x0 m =>
  brb x0
    (bp (pur (aIndexAddrSl 6 p0 p8) m) fun x1 m =>
  bp (pur (aLoad true 6 x1 m) m) fun x2 m =>
  bp (evCall G.tab p1 [x2] m) fun x3 m =>
  brb x3
    (some (p8, m))
    (bp (pur (bin .add true true .int p8 (.int .i64 1)) m) fun x4 m =>
  (Q2u G i) x4 p7 p1 p0 m))
    (Q5g G m)
def Q5h (G : Gt) (p8 p7 p1 p0 : Value) (m : Mem) : Option Rs :=
  Q2u G G.rds p8 p7 p1 p0 m
def Q5i (G : Gt) (p0 p1 : Value) (m : Mem) : Option Rs :=
  bp (pur (lenK 1 p0 m) m) fun x5 m =>
  Q5h G (.int .i64 0) x5 p1 p0 m
def Q35 (G : Gt) (p0 p1 : Value) (m : Mem) : Option Rs :=
  Q5i G p0 p1 m
theorem Qgg (G : Gt) (a0 a1 : Value) (m : Mem) : evFn Go.Proofs.Tryz.prog G.tab G.rds (drOf Go.Proofs.Tryz.prog G.tab) Go.Proofs.Tryz.f249 [a0, a1] m = Q35 G a0 a1 m :=
  evFn_of (r := fun ρ m => Q35 G (ρ 0) (ρ 1) m) rfl rfl (tr (seqQ (f := fun ρ m => Q5i G (ρ 0) (ρ 1) m) (tr (tr (seqQ (f := fun ρ m => Q5g G m) (fun ρ m => by kernel_rfl)) (seqQ (f := fun ρ m => Q5h G (ρ 8) (ρ 7) (ρ 1) (ρ 0) m) (tr (blockQ (loopQ (fun i ρ m => Q2u G i (ρ 8) (ρ 7) (ρ 1) (ρ 0) m) (fun _ _ => rfl) (fun i0 => fun ρ m => by kernel_rfl))) (fun ρ m => by kernel_rfl)))) (fun ρ m => by kernel_rfl))) (fun ρ m => by kernel_rfl)) m
def Qgh : Entry Go.Proofs.Tryz.prog := ⟨Q6e, Go.Proofs.Tryz.f249, Go.Proofs.Tryz.func249, by kernel_rfl, arg2 (fun G a0 a1 m => Q35 G a0 a1 m), okarg2 Qgg⟩
def Q8j (G : Gt) (p0 p1 p2 p3 : Value) (m : Mem) : Option Rs :=
  bp (some (aNew Q9y (Value.cells p0).toList m)) fun x0 m =>
  bp (pur (aLoad false 1 p1 m) m) fun x1 m =>
  bp (pur (aLoad true 6 x0 m) m) fun x2 m =>
  bp (pur (aLoad false 1 p1 m) m) fun x3 m =>
  bp (pur (aLoad false 1 p2 m) m) fun x4 m =>
  bp (pur (aLoad false 1 p3 m) m) fun x5 m =>
  bp (pur (aIndexAddrSl 6 x4 x5) m) fun x6 m =>
  bp (pur (aLoad true 6 x6 m) m) fun x7 m =>
  bp (evCall G.tab x1 [x2] m) fun x8 m =>
  ckB (again (pur (aLoad false 1 p1 m) m) x3 && (again (pur (aLoad false 1 p2 m) m) x4 && (again (pur (aLoad false 1 p3 m) m) x5 && (again (pur (aLoad true 6 x6 m) m) x7 && true))))
    (bp (evCall G.tab x3 [x7] m) fun x9 m =>
  bp (pur (bin .eql false true .str x8 x9) m) fun x10 m =>
  some (x10, m))
theorem Qvj (G : Gt) (a0 a1 a2 a3 : Value) (m : Mem) : evFn Go.Proofs.Tryz.prog G.tab G.rds (drOf Go.Proofs.Tryz.prog G.tab) Go.Proofs.Tryz.f250 [a0, a1, a2, a3] m = Q8j G a0 a1 a2 a3 m :=
  evFn_of (r := fun ρ m => Q8j G (ρ 0) (ρ 1) (ρ 2) (ρ 3) m) rfl rfl (fun ρ m => by kernel_rfl) m
def Qvk : Entry Go.Proofs.Tryz.prog := ⟨Qgm, Go.Proofs.Tryz.f250, Go.Proofs.Tryz.func250, by kernel_rfl, arg4 (fun G a0 a1 a2 a3 m => Q8j G a0 a1 a2 a3 m), okarg4 Qvj⟩
end
end Go.Ab.Sh
