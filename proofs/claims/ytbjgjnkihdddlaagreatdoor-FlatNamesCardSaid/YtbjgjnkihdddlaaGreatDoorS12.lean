/-
  Functions of the program as plain definitions, each with the theorem that it is what the evaluator makes of the code. No conditions.
-/
import Derived.Test.YtbjgjnkihdddlaaGreatDoorAb4
import Derived.Test.YtbjgjnkihdddlaaGreatDoorZ
import Derived.KernelRfl
import Derived.Test.YtbjgjnkihdddlaaGreatDoorProg
set_option linter.unusedVariables false
set_option maxRecDepth 100000
namespace Go.Ab.Sh
open Go Go.Ab
noncomputable section
def Q93 (G : Gt) (p5 : Value) (m : Mem) : Option Rs :=
  some (p5, m)
def Q4r (G : Gt) : Nat → Value → Value → Value → Value → Value → Mem → Option Rs
  | 0, _, _, _, _, _, _ => none
  | i + 1, p11, p10, p9, p5, p1, m =>
  bp (pur (bin .lss false true .int p11 p10) m) fun x0 m =>
  brb x0
    (bp (pur (aIndexAddrSl 2 p9 p11) m) fun x1 m =>
  bp (pur (aLoad true 2 x1 m) m) fun x2 m =>
  bp (some (aNew Q2m Q62 m)) fun x3 m =>
  bp (unt (aStore 2 x3 x2 m)) fun _ m =>
  bp (pur (aLoad true 2 x3 m) m) fun x4 m =>
  bp (evCall G.tab p1 [x4] m) fun x5 m =>
  bp (pur (aLookup .str (.int .i64 0) false p5 x5 m) m) fun x6 m =>
  bp (pur (bin .add true true .int x6 (.int .i64 1)) m) fun x7 m =>
  bp (unt (aMapUpdate .str p5 x5 x7 m)) fun _ m =>
  bp (pur (bin .add true true .int p11 (.int .i64 1)) m) fun x8 m =>
  (Q4r G i) x8 p10 p9 p5 p1 m)
    (Q93 G p5 m)
def Q94 (G : Gt) (p11 p10 p9 p5 p1 : Value) (m : Mem) : Option Rs :=
  Q4r G G.rds p11 p10 p9 p5 p1 m
def Q95 (G : Gt) (p0 p5 p1 : Value) (m : Mem) : Option Rs :=
  bp (pur (lenK 1 p0 m) m) fun x9 m =>
  Q94 G (.int .i64 0) x9 p0 p5 p1 m
def Q96 (G : Gt) (p0 p1 : Value) (m : Mem) : Option Rs :=
  bp (some (aMakeMap m)) fun x10 m =>
  Q95 G p0 x10 p1 m
def Q5n (G : Gt) (p0 p1 : Value) (m : Mem) : Option Rs :=
  Q96 G p0 p1 m
theorem Qqo (G : Gt) (a0 a1 : Value) (m : Mem) : evFn Go.Proofs.Tryz.prog G.tab G.rds (drOf Go.Proofs.Tryz.prog G.tab) Go.Proofs.Tryz.f199 [a0, a1] m = Q5n G a0 a1 m :=
  evFn_of (r := fun ρ m => Q5n G (ρ 0) (ρ 1) m) rfl rfl (tr (seqQ (f := fun ρ m => Q96 G (ρ 0) (ρ 1) m) (tr (seqQ (f := fun ρ m => Q95 G (ρ 0) (ρ 5) (ρ 1) m) (tr (tr (seqQ (f := fun ρ m => Q93 G (ρ 5) m) (fun ρ m => by kernel_rfl)) (seqQ (f := fun ρ m => Q94 G (ρ 11) (ρ 10) (ρ 9) (ρ 5) (ρ 1) m) (tr (blockQ (loopQ (fun i ρ m => Q4r G i (ρ 11) (ρ 10) (ρ 9) (ρ 5) (ρ 1) m) (fun _ _ => rfl) (fun i0 => fun ρ m => by kernel_rfl))) (fun ρ m => by kernel_rfl)))) (fun ρ m => by kernel_rfl))) (fun ρ m => by kernel_rfl))) (fun ρ m => by kernel_rfl)) m
def Qqn : Entry Go.Proofs.Tryz.prog := ⟨Qaq, Go.Proofs.Tryz.f199, Go.Proofs.Tryz.func199, by kernel_rfl, arg2 (fun G a0 a1 m => Q5n G a0 a1 m), okarg2 Qqo⟩
def Q7g (G : Gt) (p5 : Value) (m : Mem) : Option Rs :=
  some (p5, m)
def Q3l (G : Gt) : Nat → Value → Value → Value → Value → Value → Mem → Option Rs
  | 0, _, _, _, _, _, _ => none
  | i + 1, p11, p10, p9, p5, p1, m =>
  bp (pur (bin .lss false true .int p11 p10) m) fun x0 m =>
  brb x0
    (bp (pur (aIndexAddrSl 2 p9 p11) m) fun x1 m =>
  bp (pur (aLoad true 2 x1 m) m) fun x2 m =>
  bp (some (aNew Q24 Q3y m)) fun x3 m =>
  bp (unt (aStore 2 x3 x2 m)) fun _ m =>
  bp (pur (aLoad true 2 x3 m) m) fun x4 m =>
  bp (evCall G.tab p1 [x4] m) fun x5 m =>
  bp (pur (aLookup .str (.int .i64 0) false p5 x5 m) m) fun x6 m =>
  bp (pur (bin .add true true .int x6 (.int .i64 1)) m) fun x7 m =>
  bp (unt (aMapUpdate .str p5 x5 x7 m)) fun _ m =>
  bp (pur (bin .add true true .int p11 (.int .i64 1)) m) fun x8 m =>
  (Q3l G i) x8 p10 p9 p5 p1 m)
    (Q7g G p5 m)
def Q7h (G : Gt) (p11 p10 p9 p5 p1 : Value) (m : Mem) : Option Rs :=
  Q3l G G.rds p11 p10 p9 p5 p1 m
def Q7i (G : Gt) (p0 p5 p1 : Value) (m : Mem) : Option Rs :=
  bp (pur (lenK 1 p0 m) m) fun x9 m =>
  Q7h G (.int .i64 0) x9 p0 p5 p1 m
def Q7j (G : Gt) (p0 p1 : Value) (m : Mem) : Option Rs :=
  bp (some (aMakeMap m)) fun x10 m =>
  Q7i G p0 x10 p1 m
def Q4i (G : Gt) (p0 p1 : Value) (m : Mem) : Option Rs :=
  Q7j G p0 p1 m
theorem Qmj (G : Gt) (a0 a1 : Value) (m : Mem) : evFn Go.Proofs.Tryz.prog G.tab G.rds (drOf Go.Proofs.Tryz.prog G.tab) Go.Proofs.Tryz.f200 [a0, a1] m = Q4i G a0 a1 m :=
  evFn_of (r := fun ρ m => Q4i G (ρ 0) (ρ 1) m) rfl rfl (tr (seqQ (f := fun ρ m => Q7j G (ρ 0) (ρ 1) m) (tr (seqQ (f := fun ρ m => Q7i G (ρ 0) (ρ 5) (ρ 1) m) (tr (tr (seqQ (f := fun ρ m => Q7g G (ρ 5) m) (fun ρ m => by kernel_rfl)) (seqQ (f := fun ρ m => Q7h G (ρ 11) (ρ 10) (ρ 9) (ρ 5) (ρ 1) m) (tr (blockQ (loopQ (fun i ρ m => Q3l G i (ρ 11) (ρ 10) (ρ 9) (ρ 5) (ρ 1) m) (fun _ _ => rfl) (fun i0 => fun ρ m => by kernel_rfl))) (fun ρ m => by kernel_rfl)))) (fun ρ m => by kernel_rfl))) (fun ρ m => by kernel_rfl))) (fun ρ m => by kernel_rfl)) m
def Qmi : Entry Go.Proofs.Tryz.prog := ⟨Q8o, Go.Proofs.Tryz.f200, Go.Proofs.Tryz.func200, by kernel_rfl, arg2 (fun G a0 a1 m => Q4i G a0 a1 m), okarg2 Qmj⟩
def Qcn (G : Gt) (p5 : Value) (m : Mem) : Option Rs :=
  some (p5, m)
def Q6x (G : Gt) : Nat → Value → Value → Value → Value → Value → Mem → Option Rs
  | 0, _, _, _, _, _, _ => none
  | i + 1, p11, p10, p9, p5, p1, m =>
  bp (pur (bin .lss false true .int p11 p10) m) fun x0 m =>
  brb x0
    (bp (pur (aIndexAddrSl 3 p9 p11) m) fun x1 m =>
  bp (pur (aLoad true 3 x1 m) m) fun x2 m =>
  bp (some (aNew Q42 Q8i m)) fun x3 m =>
  bp (unt (aStore 3 x3 x2 m)) fun _ m =>
  bp (pur (aLoad true 3 x3 m) m) fun x4 m =>
  bp (evCall G.tab p1 [x4] m) fun x5 m =>
  bp (pur (aLookup .str (.int .i64 0) false p5 x5 m) m) fun x6 m =>
  bp (pur (bin .add true true .int x6 (.int .i64 1)) m) fun x7 m =>
  bp (unt (aMapUpdate .str p5 x5 x7 m)) fun _ m =>
  bp (pur (bin .add true true .int p11 (.int .i64 1)) m) fun x8 m =>
  (Q6x G i) x8 p10 p9 p5 p1 m)
    (Qcn G p5 m)
def Qco (G : Gt) (p11 p10 p9 p5 p1 : Value) (m : Mem) : Option Rs :=
  Q6x G G.rds p11 p10 p9 p5 p1 m
def Qcp (G : Gt) (p0 p5 p1 : Value) (m : Mem) : Option Rs :=
  bp (pur (lenK 1 p0 m) m) fun x9 m =>
  Qco G (.int .i64 0) x9 p0 p5 p1 m
def Qcq (G : Gt) (p0 p1 : Value) (m : Mem) : Option Rs :=
  bp (some (aMakeMap m)) fun x10 m =>
  Qcp G p0 x10 p1 m
def Q7s (G : Gt) (p0 p1 : Value) (m : Mem) : Option Rs :=
  Qcq G p0 p1 m
theorem Qv6 (G : Gt) (a0 a1 : Value) (m : Mem) : evFn Go.Proofs.Tryz.prog G.tab G.rds (drOf Go.Proofs.Tryz.prog G.tab) Go.Proofs.Tryz.f201 [a0, a1] m = Q7s G a0 a1 m :=
  evFn_of (r := fun ρ m => Q7s G (ρ 0) (ρ 1) m) rfl rfl (tr (seqQ (f := fun ρ m => Qcq G (ρ 0) (ρ 1) m) (tr (seqQ (f := fun ρ m => Qcp G (ρ 0) (ρ 5) (ρ 1) m) (tr (tr (seqQ (f := fun ρ m => Qcn G (ρ 5) m) (fun ρ m => by kernel_rfl)) (seqQ (f := fun ρ m => Qco G (ρ 11) (ρ 10) (ρ 9) (ρ 5) (ρ 1) m) (tr (blockQ (loopQ (fun i ρ m => Q6x G i (ρ 11) (ρ 10) (ρ 9) (ρ 5) (ρ 1) m) (fun _ _ => rfl) (fun i0 => fun ρ m => by kernel_rfl))) (fun ρ m => by kernel_rfl)))) (fun ρ m => by kernel_rfl))) (fun ρ m => by kernel_rfl))) (fun ρ m => by kernel_rfl)) m
def Qv2 : Entry Go.Proofs.Tryz.prog := ⟨Qfy, Go.Proofs.Tryz.f201, Go.Proofs.Tryz.func201, by kernel_rfl, arg2 (fun G a0 a1 m => Q7s G a0 a1 m), okarg2 Qv6⟩
def Q6l (G : Gt) (m : Mem) : Option Rs :=
  some ((.int .i64 (-1)), m)
def Q39 (G : Gt) : Nat → Value → Value → Value → Value → Mem → Option Rs
  | 0, _, _, _, _, _ => none
  | i + 1, p8, p7, p1, p0, m =>
  bp (pur (bin .lss false true .int p8 p7) m) fun x0 m =>
  brb x0
    (bp (pur (aIndexAddrSl 1 p0 p8) m) fun x1 m =>
  bp (pur (aLoad false 1 x1 m) m) fun x2 m =>
  bp (evCall G.tab p1 [x2] m) fun x3 m =>
  brb x3
    (some (p8, m))
    (bp (pur (bin .add true true .int p8 (.int .i64 1)) m) fun x4 m =>
  (Q39 G i) x4 p7 p1 p0 m))
    (Q6l G m)
def Q6m (G : Gt) (p8 p7 p1 p0 : Value) (m : Mem) : Option Rs :=
  Q39 G G.rds p8 p7 p1 p0 m
def Q6n (G : Gt) (p0 p1 : Value) (m : Mem) : Option Rs :=
  bp (pur (lenK 1 p0 m) m) fun x5 m =>
  Q6m G (.int .i64 0) x5 p1 p0 m
def Q3h (G : Gt) (p0 p1 : Value) (m : Mem) : Option Rs :=
  Q6n G p0 p1 m
theorem Qi8 (G : Gt) (a0 a1 : Value) (m : Mem) : evFn Go.Proofs.Tryz.prog G.tab G.rds (drOf Go.Proofs.Tryz.prog G.tab) Go.Proofs.Tryz.f202 [a0, a1] m = Q3h G a0 a1 m :=
  evFn_of (r := fun ρ m => Q3h G (ρ 0) (ρ 1) m) rfl rfl (tr (seqQ (f := fun ρ m => Q6n G (ρ 0) (ρ 1) m) (tr (tr (seqQ (f := fun ρ m => Q6l G m) (fun ρ m => by kernel_rfl)) (seqQ (f := fun ρ m => Q6m G (ρ 8) (ρ 7) (ρ 1) (ρ 0) m) (tr (blockQ (loopQ (fun i ρ m => Q39 G i (ρ 8) (ρ 7) (ρ 1) (ρ 0) m) (fun _ _ => rfl) (fun i0 => fun ρ m => by kernel_rfl))) (fun ρ m => by kernel_rfl)))) (fun ρ m => by kernel_rfl))) (fun ρ m => by kernel_rfl)) m
def Qi7 : Entry Go.Proofs.Tryz.prog := ⟨Q74, Go.Proofs.Tryz.f202, Go.Proofs.Tryz.func202, by kernel_rfl, arg2 (fun G a0 a1 m => Q3h G a0 a1 m), okarg2 Qi8⟩
def Q9i (G : Gt) (p1 p0 p2 p3 : Value) (m : Mem) : Option Rs :=
  bp (pur (aLoad false 1 p1 m) m) fun x0 m =>
  bp (pur (aLoad false 1 p1 m) m) fun x1 m =>
  bp (pur (aLoad false 1 p2 m) m) fun x2 m =>
  bp (pur (aLoad false 1 p3 m) m) fun x3 m =>
  bp (pur (aIndexAddrSl 1 x2 x3) m) fun x4 m =>
  bp (pur (aLoad false 1 x4 m) m) fun x5 m =>
  bp (evCall G.tab x0 [p0] m) fun x6 m =>
  ckB (again (pur (aLoad false 1 p1 m) m) x1 && (again (pur (aLoad false 1 p2 m) m) x2 && (again (pur (aLoad false 1 p3 m) m) x3 && (again (pur (aLoad false 1 x4 m) m) x5 && true))))
    (bp (evCall G.tab x1 [x5] m) fun x7 m =>
  bp (pur (bin .eql false true .str x6 x7) m) fun x8 m =>
  some (x8, m))
theorem Qwq (G : Gt) (a0 a1 a2 a3 : Value) (m : Mem) : evFn Go.Proofs.Tryz.prog G.tab G.rds (drOf Go.Proofs.Tryz.prog G.tab) Go.Proofs.Tryz.f203 [a0, a1, a2, a3] m = Q9i G a1 a0 a2 a3 m :=
  evFn_of (r := fun ρ m => Q9i G (ρ 1) (ρ 0) (ρ 2) (ρ 3) m) rfl rfl (fun ρ m => by kernel_rfl) m
def Qwl : Entry Go.Proofs.Tryz.prog := ⟨Qj0, Go.Proofs.Tryz.f203, Go.Proofs.Tryz.func203, by kernel_rfl, arg4 (fun G a0 a1 a2 a3 m => Q9i G a1 a0 a2 a3 m), okarg4 Qwq⟩
def Qmk (G : Gt) (p6 : Value) (m : Mem) : Option Rs :=
  some (p6, m)
def Qw2 (G : Gt) (p1 p0 p2 : Value) (m : Mem) : Option Rs :=
  bp (pur (bin .leq false true .int p1 p0) m) fun x0 m =>
  brb x0
    (bp (pur (bin .leq false true .int p0 p2) m) fun x1 m =>
  Qmk G x1 m)
    (Qmk G (.bool false) m)
def Qs4 (G : Gt) (p1 p0 p2 : Value) (m : Mem) : Option Rs :=
  Qw2 G p1 p0 p2 m
theorem Q19t (G : Gt) (a0 a1 a2 : Value) (m : Mem) : evFn Go.Proofs.Tryz.prog G.tab G.rds (drOf Go.Proofs.Tryz.prog G.tab) Go.Proofs.Tryz.f204 [a0, a1, a2] m = Qs4 G a1 a0 a2 m :=
  evFn_of (r := fun ρ m => Qs4 G (ρ 1) (ρ 0) (ρ 2) m) rfl rfl (tr (seqQ (f := fun ρ m => Qw2 G (ρ 1) (ρ 0) (ρ 2) m) (tr (seqQ (f := fun ρ m => Qmk G (ρ 6) m) (fun ρ m => by kernel_rfl)) (fun ρ m => by kernel_rfl))) (fun ρ m => by kernel_rfl)) m
def Q19s : Entry Go.Proofs.Tryz.prog := ⟨Q1i, Go.Proofs.Tryz.f204, Go.Proofs.Tryz.func204, by kernel_rfl, arg3 (fun G a0 a1 a2 m => Qs4 G a1 a0 a2 m), okarg3 Q19t⟩
def Q8p (G : Gt) (p0 p1 p2 : Value) (m : Mem) : Option Rs :=
  bp (some (aNew Q1at (Value.cells p0).toList m)) fun x0 m =>
  bp (some (aNew Q25 (Value.cells p1).toList m)) fun x1 m =>
  bp (some (aNew Qyw (Value.cells p2).toList m)) fun x2 m =>
  bp (pur (aLoad false 1 x0 m) m) fun x3 m =>
  let x4 : Value := (.func (.func Qee) ⟨[]⟩ ⟨[x2, x0, x1]⟩)
  bp (pur (aLoad false 1 x1 m) m) fun x5 m =>
  bp (G.tab Q4z [x3, x4] m) fun x6 m =>
  ckB (again (pur (aLoad false 1 x1 m) m) x5 && true)
    (bp (pur (bin .eql false true .int x6 x5) m) fun x7 m =>
  some (x7, m))
theorem Qw3 (G : Gt) (a0 a1 a2 : Value) (m : Mem) : evFn Go.Proofs.Tryz.prog G.tab G.rds (drOf Go.Proofs.Tryz.prog G.tab) Go.Proofs.Tryz.f205 [a0, a1, a2] m = Q8p G a0 a1 a2 m :=
  evFn_of (r := fun ρ m => Q8p G (ρ 0) (ρ 1) (ρ 2) m) rfl rfl (fun ρ m => by kernel_rfl) m
def Qw0 : Entry Go.Proofs.Tryz.prog := ⟨Qha, Go.Proofs.Tryz.f205, Go.Proofs.Tryz.func205, by kernel_rfl, arg3 (fun G a0 a1 a2 m => Q8p G a0 a1 a2 m), okarg3 Qw3⟩
def Qpl (G : Gt) (p0 : Value) (m : Mem) : Option Rs :=
  bp (some (aNew Q85 (Value.cells p0).toList m)) fun x0 m =>
  bp (pur (aFieldAddr 0 x0) m) fun x1 m =>
  bp (pur (aLoad false 1 x1 m) m) fun x2 m =>
  some (x2, m)
theorem Q195 (G : Gt) (a0 : Value) (m : Mem) : evFn Go.Proofs.Tryz.prog G.tab G.rds (drOf Go.Proofs.Tryz.prog G.tab) Go.Proofs.Tryz.f206 [a0] m = Qpl G a0 m :=
  evFn_of (r := fun ρ m => Qpl G (ρ 0) m) rfl rfl (fun ρ m => by kernel_rfl) m
def Q194 : Entry Go.Proofs.Tryz.prog := ⟨Qxm, Go.Proofs.Tryz.f206, Go.Proofs.Tryz.func206, by kernel_rfl, arg1 (fun G a0 m => Qpl G a0 m), okarg1 Q195⟩
def Q3s (G : Gt) (m : Mem) : Option Rs :=
  some ((.int .i64 (-1)), m)
def Q1n (G : Gt) : Nat → Value → Value → Value → Value → Mem → Option Rs
  | 0, _, _, _, _, _ => none
  | i + 1, p8, p7, p1, p0, m =>
  bp (pur (bin .lss false true .int p8 p7) m) fun x0 m =>
  brb x0
    (bp (pur (aIndexAddrSl 2 p0 p8) m) fun x1 m =>
  bp (pur (aLoad true 2 x1 m) m) fun x2 m =>
  bp (evCall G.tab p1 [x2] m) fun x3 m =>
  brb x3
    (some (p8, m))
    (bp (pur (bin .add true true .int p8 (.int .i64 1)) m) fun x4 m =>
  (Q1n G i) x4 p7 p1 p0 m))
    (Q3s G m)
def Q3t (G : Gt) (p8 p7 p1 p0 : Value) (m : Mem) : Option Rs :=
  Q1n G G.rds p8 p7 p1 p0 m
def Q3u (G : Gt) (p0 p1 : Value) (m : Mem) : Option Rs :=
  bp (pur (lenK 1 p0 m) m) fun x5 m =>
  Q3t G (.int .i64 0) x5 p1 p0 m
def Q20 (G : Gt) (p0 p1 : Value) (m : Mem) : Option Rs :=
  Q3u G p0 p1 m
theorem Qb5 (G : Gt) (a0 a1 : Value) (m : Mem) : evFn Go.Proofs.Tryz.prog G.tab G.rds (drOf Go.Proofs.Tryz.prog G.tab) Go.Proofs.Tryz.f207 [a0, a1] m = Q20 G a0 a1 m :=
  evFn_of (r := fun ρ m => Q20 G (ρ 0) (ρ 1) m) rfl rfl (tr (seqQ (f := fun ρ m => Q3u G (ρ 0) (ρ 1) m) (tr (tr (seqQ (f := fun ρ m => Q3s G m) (fun ρ m => by kernel_rfl)) (seqQ (f := fun ρ m => Q3t G (ρ 8) (ρ 7) (ρ 1) (ρ 0) m) (tr (blockQ (loopQ (fun i ρ m => Q1n G i (ρ 8) (ρ 7) (ρ 1) (ρ 0) m) (fun _ _ => rfl) (fun i0 => fun ρ m => by kernel_rfl))) (fun ρ m => by kernel_rfl)))) (fun ρ m => by kernel_rfl))) (fun ρ m => by kernel_rfl)) m
def Qb3 : Entry Go.Proofs.Tryz.prog := ⟨Q4a, Go.Proofs.Tryz.f207, Go.Proofs.Tryz.func207, by kernel_rfl, arg2 (fun G a0 a1 m => Q20 G a0 a1 m), okarg2 Qb5⟩
def Q6y (G : Gt) (p0 p1 p2 p3 : Value) (m : Mem) : Option Rs :=
  bp (some (aNew Q5b (Value.cells p0).toList m)) fun x0 m =>
  bp (pur (aLoad false 1 p1 m) m) fun x1 m =>
  bp (pur (aLoad true 2 x0 m) m) fun x2 m =>
  bp (pur (aLoad false 1 p1 m) m) fun x3 m =>
  bp (pur (aLoad false 1 p2 m) m) fun x4 m =>
  bp (pur (aLoad false 1 p3 m) m) fun x5 m =>
  bp (pur (aIndexAddrSl 2 x4 x5) m) fun x6 m =>
  bp (pur (aLoad true 2 x6 m) m) fun x7 m =>
  bp (evCall G.tab x1 [x2] m) fun x8 m =>
  ckB (again (pur (aLoad false 1 p1 m) m) x3 && (again (pur (aLoad false 1 p2 m) m) x4 && (again (pur (aLoad false 1 p3 m) m) x5 && (again (pur (aLoad true 2 x6 m) m) x7 && true))))
    (bp (evCall G.tab x3 [x7] m) fun x9 m =>
  bp (pur (bin .eql false true .str x8 x9) m) fun x10 m =>
  some (x10, m))
theorem Qsy (G : Gt) (a0 a1 a2 a3 : Value) (m : Mem) : evFn Go.Proofs.Tryz.prog G.tab G.rds (drOf Go.Proofs.Tryz.prog G.tab) Go.Proofs.Tryz.f208 [a0, a1, a2, a3] m = Q6y G a0 a1 a2 a3 m :=
  evFn_of (r := fun ρ m => Q6y G (ρ 0) (ρ 1) (ρ 2) (ρ 3) m) rfl rfl (fun ρ m => by kernel_rfl) m
def Qsx : Entry Go.Proofs.Tryz.prog := ⟨Qcr, Go.Proofs.Tryz.f208, Go.Proofs.Tryz.func208, by kernel_rfl, arg4 (fun G a0 a1 a2 a3 m => Q6y G a0 a1 a2 a3 m), okarg4 Qsy⟩
def Q27 (G : Gt) (p0 p1 : Value) (m : Mem) : Option Rs :=
  bp (G.tab Q5k [p0, p1] m) fun x0 m =>
  bp (pur (bin .geq true true .int x0 (.int .i64 0)) m) fun x1 m =>
  some (x1, m)
theorem Qby (G : Gt) (a0 a1 : Value) (m : Mem) : evFn Go.Proofs.Tryz.prog G.tab G.rds (drOf Go.Proofs.Tryz.prog G.tab) Go.Proofs.Tryz.f209 [a0, a1] m = Q27 G a0 a1 m :=
  evFn_of (r := fun ρ m => Q27 G (ρ 0) (ρ 1) m) rfl rfl (fun ρ m => by kernel_rfl) m
def Qbw : Entry Go.Proofs.Tryz.prog := ⟨Q4n, Go.Proofs.Tryz.f209, Go.Proofs.Tryz.func209, by kernel_rfl, arg2 (fun G a0 a1 m => Q27 G a0 a1 m), okarg2 Qby⟩
def Qml (G : Gt) (p0 : Value) (m : Mem) : Option Rs :=
  bp (some (aNew Q7n (Value.cells p0).toList m)) fun x0 m =>
  bp (pur (aLoad true 10 x0 m) m) fun x1 m =>
  bp (G.tab Q167 [x1] m) fun x2 m =>
  bp (pur (un .not x2) m) fun x3 m =>
  some (x3, m)
theorem Q18j (G : Gt) (a0 : Value) (m : Mem) : evFn Go.Proofs.Tryz.prog G.tab G.rds (drOf Go.Proofs.Tryz.prog G.tab) Go.Proofs.Tryz.f210 [a0] m = Qml G a0 m :=
  evFn_of (r := fun ρ m => Qml G (ρ 0) m) rfl rfl (fun ρ m => by kernel_rfl) m
def Q18i : Entry Go.Proofs.Tryz.prog := ⟨Qw4, Go.Proofs.Tryz.f210, Go.Proofs.Tryz.func210, by kernel_rfl, arg1 (fun G a0 m => Qml G a0 m), okarg1 Q18j⟩
def Q6d (G : Gt) (p2 : Value) (m : Mem) : Option Rs :=
  some (p2, m)
def Q10r (G : Gt) (p1 : Value) (m : Mem) : Option Rs :=
  bp (pur (aFieldAddr 1 p1) m) fun x0 m =>
  bp (pur (aLoad false 1 x0 m) m) fun x1 m =>
  bp (pur (bin .geq true true .int x1 (.int .i64 (-1))) m) fun x2 m =>
  brb x2
    (bp (pur (aFieldAddr 1 p1) m) fun x3 m =>
  bp (pur (aLoad false 1 x3 m) m) fun x4 m =>
  bp (pur (bin .leq true true .int x4 (.int .i64 255)) m) fun x5 m =>
  brb x5
    (bp (pur (aFieldAddr 2 p1) m) fun x6 m =>
  bp (pur (aLoad true 2 x6 m) m) fun x7 m =>
  bp (G.tab Q6t [x7] m) fun x8 m =>
  bp (pur (bin .eql true true .int x8 (.int .i64 0)) m) fun x9 m =>
  brb x9
    (bp (pur (aFieldAddr 4 p1) m) fun x10 m =>
  bp (pur (aLoad true 2 x10 m) m) fun x11 m =>
  bp (G.tab Q6t [x11] m) fun x12 m =>
  bp (pur (bin .eql true true .int x12 (.int .i64 0)) m) fun x13 m =>
  brb x13
    (bp (pur (aFieldAddr 6 p1) m) fun x14 m =>
  bp (pur (aLoad true 2 x14 m) m) fun x15 m =>
  bp (G.tab Qs5 [x15] m) fun x16 m =>
  brb x16
    (bp (pur (aFieldAddr 8 p1) m) fun x17 m =>
  bp (pur (aLoad true 2 x17 m) m) fun x18 m =>
  bp (G.tab Qs5 [x18] m) fun x19 m =>
  Q6d G x19 m)
    (Q6d G (.bool false) m))
    (Q6d G (.bool false) m))
    (Q6d G (.bool false) m))
    (Q6d G (.bool false) m))
    (Q6d G (.bool false) m)
def Qw5 (G : Gt) (p0 : Value) (m : Mem) : Option Rs :=
  bp (some (aNew Q7n (Value.cells p0).toList m)) fun x20 m =>
  Q10r G x20 m
theorem Q1bv (G : Gt) (a0 : Value) (m : Mem) : evFn Go.Proofs.Tryz.prog G.tab G.rds (drOf Go.Proofs.Tryz.prog G.tab) Go.Proofs.Tryz.f211 [a0] m = Qw5 G a0 m :=
  evFn_of (r := fun ρ m => Qw5 G (ρ 0) m) rfl rfl (tr (seqQ (f := fun ρ m => Q10r G (ρ 1) m) (tr (seqQ (f := fun ρ m => Q6d G (ρ 2) m) (fun ρ m => by kernel_rfl)) (fun ρ m => by kernel_rfl))) (fun ρ m => by kernel_rfl)) m
def Q1bs : Entry Go.Proofs.Tryz.prog := ⟨Q167, Go.Proofs.Tryz.f211, Go.Proofs.Tryz.func211, by kernel_rfl, arg1 (fun G a0 m => Qw5 G a0 m), okarg1 Q1bv⟩
def Q4s (G : Gt) (p0 p1 p2 p3 : Value) (m : Mem) : Option Rs :=
  bp (some (aNew Q2m (Value.cells p0).toList m)) fun x0 m =>
  bp (pur (aLoad false 1 p1 m) m) fun x1 m =>
  bp (pur (aLoad true 2 x0 m) m) fun x2 m =>
  bp (pur (aLoad false 1 p1 m) m) fun x3 m =>
  bp (pur (aLoad false 1 p2 m) m) fun x4 m =>
  bp (pur (aLoad false 1 p3 m) m) fun x5 m =>
  bp (pur (aIndexAddrSl 2 x4 x5) m) fun x6 m =>
  bp (pur (aLoad true 2 x6 m) m) fun x7 m =>
  bp (evCall G.tab x1 [x2] m) fun x8 m =>
  ckB (again (pur (aLoad false 1 p1 m) m) x3 && (again (pur (aLoad false 1 p2 m) m) x4 && (again (pur (aLoad false 1 p3 m) m) x5 && (again (pur (aLoad true 2 x6 m) m) x7 && true))))
    (bp (evCall G.tab x3 [x7] m) fun x9 m =>
  bp (pur (bin .eql false true .str x8 x9) m) fun x10 m =>
  some (x10, m))
theorem Qo8 (G : Gt) (a0 a1 a2 a3 : Value) (m : Mem) : evFn Go.Proofs.Tryz.prog G.tab G.rds (drOf Go.Proofs.Tryz.prog G.tab) Go.Proofs.Tryz.f212 [a0, a1, a2, a3] m = Q4s G a0 a1 a2 a3 m :=
  evFn_of (r := fun ρ m => Q4s G (ρ 0) (ρ 1) (ρ 2) (ρ 3) m) rfl rfl (fun ρ m => by kernel_rfl) m
def Qo6 : Entry Go.Proofs.Tryz.prog := ⟨Q97, Go.Proofs.Tryz.f212, Go.Proofs.Tryz.func212, by kernel_rfl, arg4 (fun G a0 a1 a2 a3 m => Q4s G a0 a1 a2 a3 m), okarg4 Qo8⟩
def Q1u (G : Gt) (p0 p1 : Value) (m : Mem) : Option Rs :=
  bp (G.tab Q4u [p0, p1] m) fun x0 m =>
  bp (pur (bin .geq true true .int x0 (.int .i64 0)) m) fun x1 m =>
  some (x1, m)
theorem Qaf (G : Gt) (a0 a1 : Value) (m : Mem) : evFn Go.Proofs.Tryz.prog G.tab G.rds (drOf Go.Proofs.Tryz.prog G.tab) Go.Proofs.Tryz.f213 [a0, a1] m = Q1u G a0 a1 m :=
  evFn_of (r := fun ρ m => Q1u G (ρ 0) (ρ 1) m) rfl rfl (fun ρ m => by kernel_rfl) m
def Qae : Entry Go.Proofs.Tryz.prog := ⟨Q44, Go.Proofs.Tryz.f213, Go.Proofs.Tryz.func213, by kernel_rfl, arg2 (fun G a0 a1 m => Q1u G a0 a1 m), okarg2 Qaf⟩
def Q5x (G : Gt) (p2 : Value) (m : Mem) : Option Rs :=
  some (p2, m)
def Qr4 (G : Gt) (p1 : Value) (m : Mem) : Option Rs :=
  bp (pur (aFieldAddr 1 p1) m) fun x0 m =>
  bp (pur (aLoad true 2 x0 m) m) fun x1 m =>
  bp (G.tab Q6t [x1] m) fun x2 m =>
  bp (pur (bin .neq true true .int x2 (.int .i64 0)) m) fun x3 m =>
  brb x3
    (Q5x G (.bool true) m)
    (bp (pur (aFieldAddr 1 p1) m) fun x4 m =>
  bp (pur (aFieldAddr 1 x4) m) fun x5 m =>
  bp (pur (aLoad false 1 x5 m) m) fun x6 m =>
  bp (pur (aFieldAddr 3 p1) m) fun x7 m =>
  bp (pur (aLoad false 1 x7 m) m) fun x8 m =>
  bp (pur (bin .gtr false true .int x6 x8) m) fun x9 m =>
  brb x9
    (Q5x G (.bool true) m)
    (bp (pur (aFieldAddr 3 p1) m) fun x10 m =>
  bp (pur (aLoad false 1 x10 m) m) fun x11 m =>
  bp (pur (aFieldAddr 4 p1) m) fun x12 m =>
  bp (pur (aLoad false 1 x12 m) m) fun x13 m =>
  bp (pur (bin .gtr false true .int x11 x13) m) fun x14 m =>
  brb x14
    (Q5x G (.bool true) m)
    (bp (pur (aFieldAddr 4 p1) m) fun x15 m =>
  bp (pur (aLoad false 1 x15 m) m) fun x16 m =>
  bp (pur (bin .gtr true true .int x16 (.int .i64 32)) m) fun x17 m =>
  Q5x G x17 m)))
def Qjt (G : Gt) (p0 : Value) (m : Mem) : Option Rs :=
  bp (some (aNew Q86 (Value.cells p0).toList m)) fun x18 m =>
  Qr4 G x18 m
theorem Q17p (G : Gt) (a0 : Value) (m : Mem) : evFn Go.Proofs.Tryz.prog G.tab G.rds (drOf Go.Proofs.Tryz.prog G.tab) Go.Proofs.Tryz.f214 [a0] m = Qjt G a0 m :=
  evFn_of (r := fun ρ m => Qjt G (ρ 0) m) rfl rfl (tr (seqQ (f := fun ρ m => Qr4 G (ρ 1) m) (tr (seqQ (f := fun ρ m => Q5x G (ρ 2) m) (fun ρ m => by kernel_rfl)) (fun ρ m => by kernel_rfl))) (fun ρ m => by kernel_rfl)) m
def Q17n : Entry Go.Proofs.Tryz.prog := ⟨Qun, Go.Proofs.Tryz.f214, Go.Proofs.Tryz.func214, by kernel_rfl, arg1 (fun G a0 m => Qjt G a0 m), okarg1 Q17p⟩
end
end Go.Ab.Sh

set_option linter.unusedVariables false
set_option maxRecDepth 100000
namespace Go.Ab.Sh
open Go Go.Ab
noncomputable section
def Q3m (G : Gt) (p0 p1 p2 p3 : Value) (m : Mem) : Option Rs :=
  bp (some (aNew Q24 (Value.cells p0).toList m)) fun x0 m =>
  bp (pur (aLoad false 1 p1 m) m) fun x1 m =>
  bp (pur (aLoad true 2 x0 m) m) fun x2 m =>
  bp (pur (aLoad false 1 p1 m) m) fun x3 m =>
  bp (pur (aLoad false 1 p2 m) m) fun x4 m =>
  bp (pur (aLoad false 1 p3 m) m) fun x5 m =>
  bp (pur (aIndexAddrSl 2 x4 x5) m) fun x6 m =>
  bp (pur (aLoad true 2 x6 m) m) fun x7 m =>
  bp (evCall G.tab x1 [x2] m) fun x8 m =>
  ckB (again (pur (aLoad false 1 p1 m) m) x3 && (again (pur (aLoad false 1 p2 m) m) x4 && (again (pur (aLoad false 1 p3 m) m) x5 && (again (pur (aLoad true 2 x6 m) m) x7 && true))))
    (bp (evCall G.tab x3 [x7] m) fun x9 m =>
  bp (pur (bin .eql false true .str x8 x9) m) fun x10 m =>
  some (x10, m))
theorem Qju (G : Gt) (a0 a1 a2 a3 : Value) (m : Mem) : evFn Go.Proofs.Tryz.prog G.tab G.rds (drOf Go.Proofs.Tryz.prog G.tab) Go.Proofs.Tryz.f215 [a0, a1, a2, a3] m = Q3m G a0 a1 a2 a3 m :=
  evFn_of (r := fun ρ m => Q3m G (ρ 0) (ρ 1) (ρ 2) (ρ 3) m) rfl rfl (fun ρ m => by kernel_rfl) m
def Qjr : Entry Go.Proofs.Tryz.prog := ⟨Q7k, Go.Proofs.Tryz.f215, Go.Proofs.Tryz.func215, by kernel_rfl, arg4 (fun G a0 a1 a2 a3 m => Q3m G a0 a1 a2 a3 m), okarg4 Qju⟩
def Q1g (G : Gt) (p0 p1 : Value) (m : Mem) : Option Rs :=
  bp (G.tab Q49 [p0, p1] m) fun x0 m =>
  bp (pur (bin .geq true true .int x0 (.int .i64 0)) m) fun x1 m =>
  some (x1, m)
theorem Q9j (G : Gt) (a0 a1 : Value) (m : Mem) : evFn Go.Proofs.Tryz.prog G.tab G.rds (drOf Go.Proofs.Tryz.prog G.tab) Go.Proofs.Tryz.f216 [a0, a1] m = Q1g G a0 a1 m :=
  evFn_of (r := fun ρ m => Q1g G (ρ 0) (ρ 1) m) rfl rfl (fun ρ m => by kernel_rfl) m
def Q9h : Entry Go.Proofs.Tryz.prog := ⟨Q3j, Go.Proofs.Tryz.f216, Go.Proofs.Tryz.func216, by kernel_rfl, arg2 (fun G a0 a1 m => Q1g G a0 a1 m), okarg2 Q9j⟩
def Qjv (G : Gt) (p0 : Value) (m : Mem) : Option Rs :=
  bp (some (aNew Qb8 (Value.cells p0).toList m)) fun x0 m =>
  bp (pur (aFieldAddr 1 x0) m) fun x1 m =>
  bp (pur (aLoad false 1 x1 m) m) fun x2 m =>
  bp (pur (lenK 1 x2 m) m) fun x3 m =>
  bp (pur (bin .gtr true true .int x3 (.int .i64 64)) m) fun x4 m =>
  some (x4, m)
theorem Q17q (G : Gt) (a0 : Value) (m : Mem) : evFn Go.Proofs.Tryz.prog G.tab G.rds (drOf Go.Proofs.Tryz.prog G.tab) Go.Proofs.Tryz.f217 [a0] m = Qjv G a0 m :=
  evFn_of (r := fun ρ m => Qjv G (ρ 0) m) rfl rfl (fun ρ m => by kernel_rfl) m
def Q17d : Entry Go.Proofs.Tryz.prog := ⟨Quo, Go.Proofs.Tryz.f217, Go.Proofs.Tryz.func217, by kernel_rfl, arg1 (fun G a0 m => Qjv G a0 m), okarg1 Q17q⟩
def Q3n (G : Gt) (p0 p1 : Value) (m : Mem) : Option Rs :=
  bp (G.tab Q91 [p0, p1] m) fun x0 m =>
  bp (pur (bin .geq true true .int x0 (.int .i64 0)) m) fun x1 m =>
  some (x1, m)
theorem Qjw (G : Gt) (a0 a1 : Value) (m : Mem) : evFn Go.Proofs.Tryz.prog G.tab G.rds (drOf Go.Proofs.Tryz.prog G.tab) Go.Proofs.Tryz.f218 [a0, a1] m = Q3n G a0 a1 m :=
  evFn_of (r := fun ρ m => Q3n G (ρ 0) (ρ 1) m) rfl rfl (fun ρ m => by kernel_rfl) m
def Qjs : Entry Go.Proofs.Tryz.prog := ⟨Q7l, Go.Proofs.Tryz.f218, Go.Proofs.Tryz.func218, by kernel_rfl, arg2 (fun G a0 a1 m => Q3n G a0 a1 m), okarg2 Qjw⟩
def Q6z (G : Gt) (p0 p1 p2 p3 : Value) (m : Mem) : Option Rs :=
  bp (some (aNew Q42 (Value.cells p0).toList m)) fun x0 m =>
  bp (pur (aLoad false 1 p1 m) m) fun x1 m =>
  bp (pur (aLoad true 3 x0 m) m) fun x2 m =>
  bp (pur (aLoad false 1 p1 m) m) fun x3 m =>
  bp (pur (aLoad false 1 p2 m) m) fun x4 m =>
  bp (pur (aLoad false 1 p3 m) m) fun x5 m =>
  bp (pur (aIndexAddrSl 3 x4 x5) m) fun x6 m =>
  bp (pur (aLoad true 3 x6 m) m) fun x7 m =>
  bp (evCall G.tab x1 [x2] m) fun x8 m =>
  ckB (again (pur (aLoad false 1 p1 m) m) x3 && (again (pur (aLoad false 1 p2 m) m) x4 && (again (pur (aLoad false 1 p3 m) m) x5 && (again (pur (aLoad true 3 x6 m) m) x7 && true))))
    (bp (evCall G.tab x3 [x7] m) fun x9 m =>
  bp (pur (bin .eql false true .str x8 x9) m) fun x10 m =>
  some (x10, m))
theorem Qsz (G : Gt) (a0 a1 a2 a3 : Value) (m : Mem) : evFn Go.Proofs.Tryz.prog G.tab G.rds (drOf Go.Proofs.Tryz.prog G.tab) Go.Proofs.Tryz.f219 [a0, a1, a2, a3] m = Q6z G a0 a1 a2 a3 m :=
  evFn_of (r := fun ρ m => Q6z G (ρ 0) (ρ 1) (ρ 2) (ρ 3) m) rfl rfl (fun ρ m => by kernel_rfl) m
def Qsv : Entry Go.Proofs.Tryz.prog := ⟨Qcs, Go.Proofs.Tryz.f219, Go.Proofs.Tryz.func219, by kernel_rfl, arg4 (fun G a0 a1 a2 a3 m => Q6z G a0 a1 a2 a3 m), okarg4 Qsz⟩
def Ql6 (G : Gt) (p1 p9 : Value) (m : Mem) : Option Rs :=
  bp (pur (lenK 1 p1 m) m) fun x0 m =>
  bp (pur (bin .leq true true .int x0 (.int .i64 256)) m) fun x1 m =>
  some (.tuple ⟨[x1, p9]⟩, m)
def Qag (G : Gt) (k0 : Value → Value → Value → Value → Value → Value → Value → Value → Mem → Option Rs) (p15 p14 p13 p3 p2 p9 p4 p1 : Value) (m : Mem) : Option Rs :=
  bp (pur (bin .add true true .int p15 (.int .i64 1)) m) fun x2 m =>
  k0 x2 p14 p13 p3 p2 p9 p4 p1 m
def Q3k (G : Gt) (k0 : Value → Value → Value → Value → Value → Value → Value → Value → Mem → Option Rs) (p50 p9 p4 p11 p15 p14 p13 p3 p2 p1 : Value) (m : Mem) : Option Rs :=
  brb p50
    (some (.tuple ⟨[(.bool false), (.bool true)]⟩, m))
    (brb p9
    (bp (pur (aFieldAddr 4 p4) m) fun x3 m =>
  bp (pur (aLoad false 1 x3 m) m) fun x4 m =>
  bp (pur (aFieldAddr 3 p11) m) fun x5 m =>
  bp (pur (aLoad false 1 x5 m) m) fun x6 m =>
  bp (G.tab Q1e [x4, x6] m) fun x7 m =>
  Qag G k0 p15 p14 p13 p3 p2 x7 p4 p1 m)
    (Qag G k0 p15 p14 p13 p3 p2 (.bool false) p4 p1 m))
def Q5r (G : Gt) (k0 : Value → Value → Value → Value → Value → Value → Value → Value → Mem → Option Rs) (p12 p11 p2 p9 p4 p15 p14 p13 p3 p1 : Value) (m : Mem) : Option Rs :=
  bp (pur (un .not p12) m) fun x8 m =>
  brb x8
    (Q3k G k0 (.bool true) p9 p4 p11 p15 p14 p13 p3 p2 p1 m)
    (bp (pur (aFieldAddr 0 p11) m) fun x9 m =>
  bp (pur (aLoad false 1 x9 m) m) fun x10 m =>
  bp (pur (bin .eql true true .int x10 (.int .u8 0)) m) fun x11 m =>
  brb x11
    (Q3k G k0 (.bool true) p9 p4 p11 p15 p14 p13 p3 p2 p1 m)
    (bp (pur (aFieldAddr 0 p11) m) fun x12 m =>
  bp (pur (aLoad false 1 x12 m) m) fun x13 m =>
  bp (pur (bin .andNot false true .int x13 p2) m) fun x14 m =>
  bp (pur (bin .neq true true .int x14 (.int .u8 0)) m) fun x15 m =>
  brb x15
    (Q3k G k0 (.bool true) p9 p4 p11 p15 p14 p13 p3 p2 p1 m)
    (bp (pur (aFieldAddr 1 p11) m) fun x16 m =>
  bp (pur (aLoad false 1 x16 m) m) fun x17 m =>
  bp (G.tab Q1i [x17, (.int .i64 (-1)), (.int .i64 16777216)] m) fun x18 m =>
  bp (pur (un .not x18) m) fun x19 m =>
  Q3k G k0 x19 p9 p4 p11 p15 p14 p13 p3 p2 p1 m)))
def Ql7 (G : Gt) (k0 : Value → Value → Value → Value → Value → Value → Value → Value → Mem → Option Rs) (p3 p11 p2 p9 p4 p15 p14 p13 p1 p12 : Value) (m : Mem) : Option Rs :=
  brb p3
    (bp (pur (aFieldAddr 2 p11) m) fun x20 m =>
  bp (pur (aLoad false 1 x20 m) m) fun x21 m =>
  bp (pur (bin .eql true true .int x21 (.int .u8 1)) m) fun x22 m =>
  brb x22
    (Q5r G k0 (.bool true) p11 p2 p9 p4 p15 p14 p13 p3 p1 m)
    (bp (pur (aFieldAddr 2 p11) m) fun x23 m =>
  bp (pur (aLoad false 1 x23 m) m) fun x24 m =>
  bp (pur (bin .eql true true .int x24 (.int .u8 2)) m) fun x25 m =>
  Q5r G k0 x25 p11 p2 p9 p4 p15 p14 p13 p3 p1 m))
    (Q5r G k0 p12 p11 p2 p9 p4 p15 p14 p13 p3 p1 m)
def Ql8 (G : Gt) (k0 : Value → Value → Value → Value → Value → Value → Value → Value → Mem → Option Rs) (p11 p3 p2 p9 p4 p15 p14 p13 p1 : Value) (m : Mem) : Option Rs :=
  bp (pur (aFieldAddr 2 p11) m) fun x26 m =>
  bp (pur (aLoad false 1 x26 m) m) fun x27 m =>
  bp (pur (bin .eql true true .int x27 (.int .u8 0)) m) fun x28 m =>
  Ql7 G k0 p3 p11 p2 p9 p4 p15 p14 p13 p1 x28 m
def Ql9 (G : Gt) (k0 : Value → Value → Value → Value → Value → Value → Value → Value → Mem → Option Rs) (p13 p15 p3 p2 p9 p4 p14 p1 : Value) (m : Mem) : Option Rs :=
  bp (pur (aIndexAddrSl 4 p13 p15) m) fun x29 m =>
  bp (pur (aLoad true 4 x29 m) m) fun x30 m =>
  bp (some (aNew Q5a Q6u m)) fun x31 m =>
  bp (unt (aStore 4 x31 x30 m)) fun _ m =>
  Ql8 G k0 x31 p3 p2 p9 p4 p15 p14 p13 p1 m
def Qla (G : Gt) (k0 : Value → Value → Value → Value → Value → Value → Value → Value → Mem → Option Rs) (p16 p13 p15 p3 p2 p9 p4 p14 p1 : Value) (m : Mem) : Option Rs :=
  brb p16
    (Ql9 G k0 p13 p15 p3 p2 p9 p4 p14 p1 m)
    (Ql6 G p1 p9 m)
def Qv (G : Gt) : Nat → Value → Value → Value → Value → Value → Value → Value → Value → Mem → Option Rs
  | 0, _, _, _, _, _, _, _, _, _ => none
  | i + 1, p15, p14, p13, p3, p2, p9, p4, p1, m =>
  bp (pur (bin .lss false true .int p15 p14) m) fun x32 m =>
  Qla G (Qv G i) x32 p13 p15 p3 p2 p9 p4 p14 p1 m
def Qlb (G : Gt) (p15 p14 p13 p3 p2 p9 p4 p1 : Value) (m : Mem) : Option Rs :=
  Qv G G.rds p15 p14 p13 p3 p2 p9 p4 p1 m
def Qlc (G : Gt) (p1 p3 p2 p9 p4 : Value) (m : Mem) : Option Rs :=
  bp (pur (lenK 1 p1 m) m) fun x33 m =>
  Qlb G (.int .i64 0) x33 p1 p3 p2 p9 p4 p1 m
def Qld (G : Gt) (p1 p3 p2 p4 : Value) (m : Mem) : Option Rs :=
  Qlc G p1 p3 p2 (.bool true) p4 m
def Qdm (G : Gt) (p0 p1 p3 p2 : Value) (m : Mem) : Option Rs :=
  bp (some (aNew Q6s (Value.cells p0).toList m)) fun x34 m =>
  Qld G p1 p3 p2 x34 m
theorem Q126 (G : Gt) (a0 a1 a2 a3 : Value) (m : Mem) : evFn Go.Proofs.Tryz.prog G.tab G.rds (drOf Go.Proofs.Tryz.prog G.tab) Go.Proofs.Tryz.f220 [a0, a1, a2, a3] m = Qdm G a0 a1 a3 a2 m :=
  evFn_of (r := fun ρ m => Qdm G (ρ 0) (ρ 1) (ρ 3) (ρ 2) m) rfl rfl (tr (seqQ (f := fun ρ m => Qld G (ρ 1) (ρ 3) (ρ 2) (ρ 4) m) (tr (seqQ (f := fun ρ m => Qlc G (ρ 1) (ρ 3) (ρ 2) (ρ 9) (ρ 4) m) (tr (tr (seqQ (f := fun ρ m => Ql6 G (ρ 1) (ρ 9) m) (fun ρ m => by kernel_rfl)) (seqQ (f := fun ρ m => Qlb G (ρ 15) (ρ 14) (ρ 13) (ρ 3) (ρ 2) (ρ 9) (ρ 4) (ρ 1) m) (tr (blockQ (loopQ (fun i ρ m => Qv G i (ρ 15) (ρ 14) (ρ 13) (ρ 3) (ρ 2) (ρ 9) (ρ 4) (ρ 1) m) (fun _ _ => rfl) (fun i0 => tr (seqQ (f := fun ρ m => Qla G (Qv G i0) (ρ 16) (ρ 13) (ρ 15) (ρ 3) (ρ 2) (ρ 9) (ρ 4) (ρ 14) (ρ 1) m) (tr (seqQ (f := fun ρ m => Ql9 G (Qv G i0) (ρ 13) (ρ 15) (ρ 3) (ρ 2) (ρ 9) (ρ 4) (ρ 14) (ρ 1) m) (tr (tr (seqQ (f := fun ρ m => Qag G (Qv G i0) (ρ 15) (ρ 14) (ρ 13) (ρ 3) (ρ 2) (ρ 9) (ρ 4) (ρ 1) m) (fun ρ m => by kernel_rfl)) (blockQ (seqQ (f := fun ρ m => Ql8 G (Qv G i0) (ρ 11) (ρ 3) (ρ 2) (ρ 9) (ρ 4) (ρ 15) (ρ 14) (ρ 13) (ρ 1) m) (tr (seqQ (f := fun ρ m => Ql7 G (Qv G i0) (ρ 3) (ρ 11) (ρ 2) (ρ 9) (ρ 4) (ρ 15) (ρ 14) (ρ 13) (ρ 1) (ρ 12) m) (tr (seqQ (f := fun ρ m => Q5r G (Qv G i0) (ρ 12) (ρ 11) (ρ 2) (ρ 9) (ρ 4) (ρ 15) (ρ 14) (ρ 13) (ρ 3) (ρ 1) m) (tr (tr seqD (seqQ (f := fun ρ m => Q3k G (Qv G i0) (ρ 50) (ρ 9) (ρ 4) (ρ 11) (ρ 15) (ρ 14) (ρ 13) (ρ 3) (ρ 2) (ρ 1) m) (fun ρ m => by kernel_rfl))) (fun ρ m => by kernel_rfl))) (fun ρ m => by kernel_rfl))) (fun ρ m => by kernel_rfl))))) (fun ρ m => by kernel_rfl))) (fun ρ m => by kernel_rfl))) (fun ρ m => by kernel_rfl)))) (fun ρ m => by kernel_rfl)))) (fun ρ m => by kernel_rfl))) (fun ρ m => by kernel_rfl))) (fun ρ m => by kernel_rfl)) m
def Q124 : Entry Go.Proofs.Tryz.prog := ⟨Qdn, Go.Proofs.Tryz.f220, Go.Proofs.Tryz.func220, by kernel_rfl, arg4 (fun G a0 a1 a2 a3 m => Qdm G a0 a1 a3 a2 m), okarg4 Q126⟩
def Q9k (G : Gt) (p0 p1 p2 : Value) (m : Mem) : Option Rs :=
  bp (some (aNew Q1bw (Value.cells p0).toList m)) fun x0 m =>
  bp (some (aNew Q25 (Value.cells p1).toList m)) fun x1 m =>
  bp (some (aNew Q10s (Value.cells p2).toList m)) fun x2 m =>
  bp (pur (aLoad false 1 x0 m) m) fun x3 m =>
  let x4 : Value := (.func (.func Qfu) ⟨[]⟩ ⟨[x2, x0, x1]⟩)
  bp (pur (aLoad false 1 x1 m) m) fun x5 m =>
  bp (G.tab Q5f [x3, x4] m) fun x6 m =>
  ckB (again (pur (aLoad false 1 x1 m) m) x5 && true)
    (bp (pur (bin .eql false true .int x6 x5) m) fun x7 m =>
  some (x7, m))
theorem Qwr (G : Gt) (a0 a1 a2 : Value) (m : Mem) : evFn Go.Proofs.Tryz.prog G.tab G.rds (drOf Go.Proofs.Tryz.prog G.tab) Go.Proofs.Tryz.f221 [a0, a1, a2] m = Q9k G a0 a1 a2 m :=
  evFn_of (r := fun ρ m => Q9k G (ρ 0) (ρ 1) (ρ 2) m) rfl rfl (fun ρ m => by kernel_rfl) m
def Qwn : Entry Go.Proofs.Tryz.prog := ⟨Qj1, Go.Proofs.Tryz.f221, Go.Proofs.Tryz.func221, by kernel_rfl, arg3 (fun G a0 a1 a2 m => Q9k G a0 a1 a2 m), okarg3 Qwr⟩
def Qf8 (G : Gt) (p0 : Value) (m : Mem) : Option Rs :=
  bp (some (aNew Qd9 (Value.cells p0).toList m)) fun x0 m =>
  bp (pur (aFieldAddr 0 x0) m) fun x1 m =>
  bp (pur (aLoad false 1 x1 m) m) fun x2 m =>
  some (x2, m)
theorem Q14k (G : Gt) (a0 : Value) (m : Mem) : evFn Go.Proofs.Tryz.prog G.tab G.rds (drOf Go.Proofs.Tryz.prog G.tab) Go.Proofs.Tryz.f222 [a0] m = Qf8 G a0 m :=
  evFn_of (r := fun ρ m => Qf8 G (ρ 0) m) rfl rfl (fun ρ m => by kernel_rfl) m
def Q14j : Entry Go.Proofs.Tryz.prog := ⟨Qr5, Go.Proofs.Tryz.f222, Go.Proofs.Tryz.func222, by kernel_rfl, arg1 (fun G a0 m => Qf8 G a0 m), okarg1 Q14k⟩
def Qah (G : Gt) (p0 p1 p2 : Value) (m : Mem) : Option Rs :=
  bp (some (aNew Q1cy (Value.cells p0).toList m)) fun x0 m =>
  bp (some (aNew Q25 (Value.cells p1).toList m)) fun x1 m =>
  bp (some (aNew Q127 (Value.cells p2).toList m)) fun x2 m =>
  bp (pur (aLoad false 1 x0 m) m) fun x3 m =>
  let x4 : Value := (.func (.func Qgm) ⟨[]⟩ ⟨[x2, x0, x1]⟩)
  bp (pur (aLoad false 1 x1 m) m) fun x5 m =>
  bp (G.tab Q6e [x3, x4] m) fun x6 m =>
  ckB (again (pur (aLoad false 1 x1 m) m) x5 && true)
    (bp (pur (bin .eql false true .int x6 x5) m) fun x7 m =>
  some (x7, m))
theorem Qyx (G : Gt) (a0 a1 a2 : Value) (m : Mem) : evFn Go.Proofs.Tryz.prog G.tab G.rds (drOf Go.Proofs.Tryz.prog G.tab) Go.Proofs.Tryz.f223 [a0, a1, a2] m = Qah G a0 a1 a2 m :=
  evFn_of (r := fun ρ m => Qah G (ρ 0) (ρ 1) (ρ 2) m) rfl rfl (fun ρ m => by kernel_rfl) m
def Qyt : Entry Go.Proofs.Tryz.prog := ⟨Qle, Go.Proofs.Tryz.f223, Go.Proofs.Tryz.func223, by kernel_rfl, arg3 (fun G a0 a1 a2 m => Qah G a0 a1 a2 m), okarg3 Qyx⟩
def Qhb (G : Gt) (p0 : Value) (m : Mem) : Option Rs :=
  bp (some (aNew Q9y (Value.cells p0).toList m)) fun x0 m =>
  bp (pur (aFieldAddr 0 x0) m) fun x1 m =>
  bp (pur (aLoad false 1 x1 m) m) fun x2 m =>
  some (x2, m)
theorem Q168 (G : Gt) (a0 : Value) (m : Mem) : evFn Go.Proofs.Tryz.prog G.tab G.rds (drOf Go.Proofs.Tryz.prog G.tab) Go.Proofs.Tryz.f224 [a0] m = Qhb G a0 m :=
  evFn_of (r := fun ρ m => Qhb G (ρ 0) m) rfl rfl (fun ρ m => by kernel_rfl) m
def Q163 : Entry Go.Proofs.Tryz.prog := ⟨Qt0, Go.Proofs.Tryz.f224, Go.Proofs.Tryz.func224, by kernel_rfl, arg1 (fun G a0 m => Qhb G a0 m), okarg1 Q168⟩
def Q50 (G : Gt) (m : Mem) : Option Rs :=
  some ((.int .i64 (-1)), m)
def Q2e (G : Gt) : Nat → Value → Value → Value → Value → Mem → Option Rs
  | 0, _, _, _, _, _ => none
  | i + 1, p8, p7, p3, p0, m =>
  bp (pur (bin .lss false true .int p8 p7) m) fun x0 m =>
  brb x0
    (bp (pur (aLoad true 2 p3 m) m) fun x1 m =>
  bp (pur (aIndexAddrSl 2 p0 p8) m) fun x2 m =>
  bp (pur (aLoad true 2 x2 m) m) fun x3 m =>
  bp (pur (bin .eql false true (.struct [(0, 1, false, .int), (1, 1, false, .int)]) x1 x3) m) fun x4 m =>
  brb x4
    (some (p8, m))
    (bp (pur (bin .add true true .int p8 (.int .i64 1)) m) fun x5 m =>
  (Q2e G i) x5 p7 p3 p0 m))
    (Q50 G m)
def Q51 (G : Gt) (p8 p7 p3 p0 : Value) (m : Mem) : Option Rs :=
  Q2e G G.rds p8 p7 p3 p0 m
def Q52 (G : Gt) (p0 p3 : Value) (m : Mem) : Option Rs :=
  bp (pur (lenK 1 p0 m) m) fun x6 m =>
  Q51 G (.int .i64 0) x6 p3 p0 m
def Q2w (G : Gt) (p1 p0 : Value) (m : Mem) : Option Rs :=
  bp (some (aNew Q1d (Value.cells p1).toList m)) fun x7 m =>
  Q52 G p0 x7 m
theorem Qef (G : Gt) (a0 a1 : Value) (m : Mem) : evFn Go.Proofs.Tryz.prog G.tab G.rds (drOf Go.Proofs.Tryz.prog G.tab) Go.Proofs.Tryz.f225 [a0, a1] m = Q2w G a1 a0 m :=
  evFn_of (r := fun ρ m => Q2w G (ρ 1) (ρ 0) m) rfl rfl (tr (seqQ (f := fun ρ m => Q52 G (ρ 0) (ρ 3) m) (tr (tr (seqQ (f := fun ρ m => Q50 G m) (fun ρ m => by kernel_rfl)) (seqQ (f := fun ρ m => Q51 G (ρ 8) (ρ 7) (ρ 3) (ρ 0) m) (tr (blockQ (loopQ (fun i ρ m => Q2e G i (ρ 8) (ρ 7) (ρ 3) (ρ 0) m) (fun _ _ => rfl) (fun i0 => fun ρ m => by kernel_rfl))) (fun ρ m => by kernel_rfl)))) (fun ρ m => by kernel_rfl))) (fun ρ m => by kernel_rfl)) m
def Qeb : Entry Go.Proofs.Tryz.prog := ⟨Q5l, Go.Proofs.Tryz.f225, Go.Proofs.Tryz.func225, by kernel_rfl, arg2 (fun G a0 a1 m => Q2w G a1 a0 m), okarg2 Qef⟩
def Q4b (G : Gt) (m : Mem) : Option Rs :=
  some ((.int .i64 (-1)), m)
def Q21 (G : Gt) : Nat → Value → Value → Value → Value → Mem → Option Rs
  | 0, _, _, _, _, _ => none
  | i + 1, p8, p7, p1, p0, m =>
  bp (pur (bin .lss false true .int p8 p7) m) fun x0 m =>
  brb x0
    (bp (pur (aIndexAddrSl 11 p0 p8) m) fun x1 m =>
  bp (pur (aLoad true 11 x1 m) m) fun x2 m =>
  bp (evCall G.tab p1 [x2] m) fun x3 m =>
  brb x3
    (some (p8, m))
    (bp (pur (bin .add true true .int p8 (.int .i64 1)) m) fun x4 m =>
  (Q21 G i) x4 p7 p1 p0 m))
    (Q4b G m)
def Q4c (G : Gt) (p8 p7 p1 p0 : Value) (m : Mem) : Option Rs :=
  Q21 G G.rds p8 p7 p1 p0 m
def Q4d (G : Gt) (p0 p1 : Value) (m : Mem) : Option Rs :=
  bp (pur (lenK 1 p0 m) m) fun x5 m =>
  Q4c G (.int .i64 0) x5 p1 p0 m
def Q2f (G : Gt) (p0 p1 : Value) (m : Mem) : Option Rs :=
  Q4d G p0 p1 m
theorem Qci (G : Gt) (a0 a1 : Value) (m : Mem) : evFn Go.Proofs.Tryz.prog G.tab G.rds (drOf Go.Proofs.Tryz.prog G.tab) Go.Proofs.Tryz.f240 [a0, a1] m = Q2f G a0 a1 m :=
  evFn_of (r := fun ρ m => Q2f G (ρ 0) (ρ 1) m) rfl rfl (tr (seqQ (f := fun ρ m => Q4d G (ρ 0) (ρ 1) m) (tr (tr (seqQ (f := fun ρ m => Q4b G m) (fun ρ m => by kernel_rfl)) (seqQ (f := fun ρ m => Q4c G (ρ 8) (ρ 7) (ρ 1) (ρ 0) m) (tr (blockQ (loopQ (fun i ρ m => Q21 G i (ρ 8) (ρ 7) (ρ 1) (ρ 0) m) (fun _ _ => rfl) (fun i0 => fun ρ m => by kernel_rfl))) (fun ρ m => by kernel_rfl)))) (fun ρ m => by kernel_rfl))) (fun ρ m => by kernel_rfl)) m
def Qch : Entry Go.Proofs.Tryz.prog := ⟨Q4z, Go.Proofs.Tryz.f240, Go.Proofs.Tryz.func240, by kernel_rfl, arg2 (fun G a0 a1 m => Q2f G a0 a1 m), okarg2 Qci⟩
def Q7b (G : Gt) (p0 p1 p2 p3 : Value) (m : Mem) : Option Rs :=
  bp (some (aNew Q85 (Value.cells p0).toList m)) fun x0 m =>
  bp (pur (aLoad false 1 p1 m) m) fun x1 m =>
  bp (pur (aLoad true 11 x0 m) m) fun x2 m =>
  bp (pur (aLoad false 1 p1 m) m) fun x3 m =>
  bp (pur (aLoad false 1 p2 m) m) fun x4 m =>
  bp (pur (aLoad false 1 p3 m) m) fun x5 m =>
  bp (pur (aIndexAddrSl 11 x4 x5) m) fun x6 m =>
  bp (pur (aLoad true 11 x6 m) m) fun x7 m =>
  bp (evCall G.tab x1 [x2] m) fun x8 m =>
  ckB (again (pur (aLoad false 1 p1 m) m) x3 && (again (pur (aLoad false 1 p2 m) m) x4 && (again (pur (aLoad false 1 p3 m) m) x5 && (again (pur (aLoad true 11 x6 m) m) x7 && true))))
    (bp (evCall G.tab x3 [x7] m) fun x9 m =>
  bp (pur (bin .eql false true .str x8 x9) m) fun x10 m =>
  some (x10, m))
theorem Qtz (G : Gt) (a0 a1 a2 a3 : Value) (m : Mem) : evFn Go.Proofs.Tryz.prog G.tab G.rds (drOf Go.Proofs.Tryz.prog G.tab) Go.Proofs.Tryz.f241 [a0, a1, a2, a3] m = Q7b G a0 a1 a2 a3 m :=
  evFn_of (r := fun ρ m => Q7b G (ρ 0) (ρ 1) (ρ 2) (ρ 3) m) rfl rfl (fun ρ m => by kernel_rfl) m
def Qtt : Entry Go.Proofs.Tryz.prog := ⟨Qee, Go.Proofs.Tryz.f241, Go.Proofs.Tryz.func241, by kernel_rfl, arg4 (fun G a0 a1 a2 a3 m => Q7b G a0 a1 a2 a3 m), okarg4 Qtz⟩
def Q53 (G : Gt) (m : Mem) : Option Rs :=
  some ((.int .i64 (-1)), m)
def Q2g (G : Gt) : Nat → Value → Value → Value → Value → Mem → Option Rs
  | 0, _, _, _, _, _ => none
  | i + 1, p8, p7, p1, p0, m =>
  bp (pur (bin .lss false true .int p8 p7) m) fun x0 m =>
  brb x0
    (bp (pur (aIndexAddrSl 10 p0 p8) m) fun x1 m =>
  bp (pur (aLoad true 10 x1 m) m) fun x2 m =>
  bp (evCall G.tab p1 [x2] m) fun x3 m =>
  brb x3
    (some (p8, m))
    (bp (pur (bin .add true true .int p8 (.int .i64 1)) m) fun x4 m =>
  (Q2g G i) x4 p7 p1 p0 m))
    (Q53 G m)
def Q54 (G : Gt) (p8 p7 p1 p0 : Value) (m : Mem) : Option Rs :=
  Q2g G G.rds p8 p7 p1 p0 m
def Q55 (G : Gt) (p0 p1 : Value) (m : Mem) : Option Rs :=
  bp (pur (lenK 1 p0 m) m) fun x5 m =>
  Q54 G (.int .i64 0) x5 p1 p0 m
def Q2x (G : Gt) (p0 p1 : Value) (m : Mem) : Option Rs :=
  Q55 G p0 p1 m
theorem Qeg (G : Gt) (a0 a1 : Value) (m : Mem) : evFn Go.Proofs.Tryz.prog G.tab G.rds (drOf Go.Proofs.Tryz.prog G.tab) Go.Proofs.Tryz.f242 [a0, a1] m = Q2x G a0 a1 m :=
  evFn_of (r := fun ρ m => Q2x G (ρ 0) (ρ 1) m) rfl rfl (tr (seqQ (f := fun ρ m => Q55 G (ρ 0) (ρ 1) m) (tr (tr (seqQ (f := fun ρ m => Q53 G m) (fun ρ m => by kernel_rfl)) (seqQ (f := fun ρ m => Q54 G (ρ 8) (ρ 7) (ρ 1) (ρ 0) m) (tr (blockQ (loopQ (fun i ρ m => Q2g G i (ρ 8) (ρ 7) (ρ 1) (ρ 0) m) (fun _ _ => rfl) (fun i0 => fun ρ m => by kernel_rfl))) (fun ρ m => by kernel_rfl)))) (fun ρ m => by kernel_rfl))) (fun ρ m => by kernel_rfl)) m
def Qed : Entry Go.Proofs.Tryz.prog := ⟨Q5k, Go.Proofs.Tryz.f242, Go.Proofs.Tryz.func242, by kernel_rfl, arg2 (fun G a0 a1 m => Q2x G a0 a1 m), okarg2 Qeg⟩
def Qmm (G : Gt) (p2 : Value) (m : Mem) : Option Rs :=
  some (p2, m)
def Qw6 (G : Gt) (p1 : Value) (m : Mem) : Option Rs :=
  bp (pur (aFieldAddr 0 p1) m) fun x0 m =>
  bp (pur (aLoad false 1 x0 m) m) fun x1 m =>
  bp (pur (aFieldAddr 1 p1) m) fun x2 m =>
  bp (pur (aLoad false 1 x2 m) m) fun x3 m =>
  bp (pur (bin .leq false true .int x1 x3) m) fun x4 m =>
  brb x4
    (bp (pur (aFieldAddr 1 p1) m) fun x5 m =>
  bp (pur (aLoad false 1 x5 m) m) fun x6 m =>
  bp (pur (bin .leq true true .int x6 (.int .u32 65535)) m) fun x7 m =>
  Qmm G x7 m)
    (Qmm G (.bool false) m)
def Qs6 (G : Gt) (p0 : Value) (m : Mem) : Option Rs :=
  bp (some (aNew Quz (Value.cells p0).toList m)) fun x8 m =>
  Qw6 G x8 m
theorem Q19u (G : Gt) (a0 : Value) (m : Mem) : evFn Go.Proofs.Tryz.prog G.tab G.rds (drOf Go.Proofs.Tryz.prog G.tab) Go.Proofs.Tryz.f243 [a0] m = Qs6 G a0 m :=
  evFn_of (r := fun ρ m => Qs6 G (ρ 0) m) rfl rfl (tr (seqQ (f := fun ρ m => Qw6 G (ρ 1) m) (tr (seqQ (f := fun ρ m => Qmm G (ρ 2) m) (fun ρ m => by kernel_rfl)) (fun ρ m => by kernel_rfl))) (fun ρ m => by kernel_rfl)) m
def Q19p : Entry Go.Proofs.Tryz.prog := ⟨Qs5, Go.Proofs.Tryz.f243, Go.Proofs.Tryz.func243, by kernel_rfl, arg1 (fun G a0 m => Qs6 G a0 m), okarg1 Q19u⟩
end
end Go.Ab.Sh
