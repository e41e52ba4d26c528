/-
  Functions of the program as plain definitions, each with the theorem that it is what the evaluator makes of the code. No conditions.
-/
import Derived.Test.YtchdjkidnjfcjaaGreatDoorAb5
import Derived.Test.YtchdjkidnjfcjaaGreatDoorZ
import Derived.KernelRfl
import Derived.Test.YtchdjkidnjfcjaaGreatDoorProg
set_option linter.unusedVariables false
set_option maxRecDepth 100000
namespace Go.Ab.Sh
open Go Go.Ab Go.Proofs
noncomputable section
def Qxh (G : Gt) (p4 : V) (m : M) : R :=
  some (p4, m)
def Q1ad (G : Gt) (p1 p0 : V) (m : M) : R :=
  bp (pur (bin .eql true true .str p1 (.string ⟨#[]⟩)) m) fun x0 m =>
  brb x0
  (Qxh G (.bool true) m)
  (bp (pur (aLookup .str (.int .i64 0) false p0 p1 m) m) fun x1 m =>
  bp (pur (bin .gtr true true .int x1 (.int .i64 0)) m) fun x2 m =>
  Qxh G x2 m)
def Q13h (G : Gt) (p1 p0 : V) (m : M) : R :=
  Q1ad G p1 p0 m
theorem Q1n3 (G : Gt) (a0 a1 : V) (m : M) : evFn Tryz.prog G.tab G.rds (drOf Tryz.prog G.tab) Tryz.f144 [a0, a1] m = Q13h G a1 a0 m :=
  evFn_of (r := fun ρ m => Q13h G (ρ 1) (ρ 0) m) rfl rfl (tr (seqQ (f := fun ρ m => Q1ad G (ρ 1) (ρ 0) m) (tr (seqQ (f := fun ρ m => Qxh G (ρ 4) m) (fun ρ m => by kernel_rfl)) (fun ρ m => by kernel_rfl))) (fun ρ m => by kernel_rfl)) m
def Q1n4 : Entry Tryz.prog := ⟨Q1k, Tryz.f144, Tryz.func144, by kernel_rfl, arg2 (fun G a0 a1 m => Q13h G a1 a0 m), okarg2 Q1n3⟩
def Qo2 (G : Gt) (p1 p2 p0 : V) (m : M) : R :=
  bp (pur (aLoad true 5 p1 m) m) fun x0 m =>
  bp (pur (aFieldAddr 6 p2) m) fun x1 m =>
  bp (pur (aLoad false 1 x1 m) m) fun x2 m =>
  bp (pur (aIndexAddrSl 7 x2 p0) m) fun x3 m =>
  bp (pur (aLoad true 7 x3 m) m) fun x4 m =>
  bp (G.tab Qvu [x0, x4] m) fun x5 m =>
  some (x5, m)
theorem Q1gx (G : Gt) (a0 a1 a2 : V) (m : M) : evFn Tryz.prog G.tab G.rds (drOf Tryz.prog G.tab) Tryz.f145 [a0, a1, a2] m = Qo2 G a1 a2 a0 m :=
  evFn_of (r := fun ρ m => Qo2 G (ρ 1) (ρ 2) (ρ 0) m) rfl rfl (fun ρ m => by kernel_rfl) m
def Q1gy : Entry Tryz.prog := ⟨Q10w, Tryz.f145, Tryz.func145, by kernel_rfl, arg3 (fun G a0 a1 a2 m => Qo2 G a1 a2 a0 m), okarg3 Q1gx⟩
def Q5a (G : Gt) (p5 p2 p3 : V) (m : M) : R :=
  bp (pur (aFieldAddr 0 p2) m) fun x0 m =>
  bp (pur (aLoad false 1 x0 m) m) fun x1 m =>
  bp (pur (aFieldAddr 0 p3) m) fun x2 m =>
  bp (pur (aLoad false 1 x2 m) m) fun x3 m =>
  bp (G.tab Q1k [x1, x3] m) fun x4 m =>
  bp (G.tab Qf [p5, x4] m) fun x5 m =>
  some (x5, m)
def Qs9 (G : Gt) (p3 p2 : V) (m : M) : R :=
  bp (pur (aFieldAddr 1 p3) m) fun x6 m =>
  bp (pur (aLoad true 2 x6 m) m) fun x7 m =>
  bp (G.tab Qah [x7] m) fun x8 m =>
  bp (pur (bin .eql true true .int x8 (.int .i64 0)) m) fun x9 m =>
  brb x9
  (bp (pur (aFieldAddr 4 p3) m) fun x10 m =>
  bp (pur (aLoad false 1 x10 m) m) fun x11 m =>
  bp (pur (aFieldAddr 3 p3) m) fun x12 m =>
  bp (pur (aLoad false 1 x12 m) m) fun x13 m =>
  bp (pur (bin .eql true true .int x13 (.int .u32 0)) m) fun x14 m =>
  bp (pur (bin .eql false true .bool x11 x14) m) fun x15 m =>
  brb x15
  (bp (pur (aFieldAddr 5 p3) m) fun x16 m =>
  bp (pur (aLoad false 1 x16 m) m) fun x17 m =>
  bp (G.tab Q1q [x17, (.int .i64 1), (.int .i64 255)] m) fun x18 m =>
  brb x18
  (bp (pur (aFieldAddr 6 p3) m) fun x19 m =>
  bp (pur (aLoad false 1 x19 m) m) fun x20 m =>
  bp (G.tab Q1q [x20, (.int .i64 0), (.int .i64 16777216)] m) fun x21 m =>
  Q5a G x21 p2 p3 m)
  (Q5a G (.bool false) p2 p3 m))
  (Q5a G (.bool false) p2 p3 m))
  (Q5a G (.bool false) p2 p3 m)
def Qix (G : Gt) (p0 p1 : V) (m : M) : R :=
  bp (some (aNew Q7m (Value.cells p0).toList m)) fun x22 m =>
  bp (some (aNew Qab (Value.cells p1).toList m)) fun x23 m =>
  Qs9 G x23 x22 m
theorem Q1en (G : Gt) (a0 a1 : V) (m : M) : evFn Tryz.prog G.tab G.rds (drOf Tryz.prog G.tab) Tryz.f146 [a0, a1] m = Qix G a0 a1 m :=
  evFn_of (r := fun ρ m => Qix G (ρ 0) (ρ 1) m) rfl rfl (tr (seqQ (f := fun ρ m => Qs9 G (ρ 3) (ρ 2) m) (tr (seqQ (f := fun ρ m => Q5a G (ρ 5) (ρ 2) (ρ 3) m) (fun ρ m => by kernel_rfl)) (fun ρ m => by kernel_rfl))) (fun ρ m => by kernel_rfl)) m
def Q1eo : Entry Tryz.prog := ⟨Qvu, Tryz.f146, Tryz.func146, by kernel_rfl, arg2 (fun G a0 a1 m => Qix G a0 a1 m), okarg2 Q1en⟩
def Qb4 (G : Gt) (p3 : V) (m : M) : R :=
  some (p3, m)
def Qw7 (G : Gt) (p1 p0 : V) (m : M) : R :=
  bp (pur (aFieldAddr 7 p1) m) fun x0 m =>
  bp (pur (aLoad false 1 x0 m) m) fun x1 m =>
  bp (pur (aIndexAddrSl 2 x1 p0) m) fun x2 m =>
  bp (pur (aFieldAddr 0 x2) m) fun x3 m =>
  bp (pur (aLoad false 1 x3 m) m) fun x4 m =>
  bp (G.tab Q7k [x4] m) fun x5 m =>
  brb x5
  (bp (pur (aFieldAddr 7 p1) m) fun x6 m =>
  bp (pur (aLoad false 1 x6 m) m) fun x7 m =>
  bp (G.tab Qd8 [x7, p0, (.func (.func Qki) #[] #[])] m) fun x8 m =>
  brb x8
  (bp (pur (aFieldAddr 7 p1) m) fun x9 m =>
  bp (pur (aLoad false 1 x9 m) m) fun x10 m =>
  bp (pur (aIndexAddrSl 2 x10 p0) m) fun x11 m =>
  bp (pur (aFieldAddr 1 x11) m) fun x12 m =>
  bp (pur (aLoad false 1 x12 m) m) fun x13 m =>
  bp (G.tab Q15p [x13] m) fun x14 m =>
  bp (G.tab Qf [x14, (.bool true)] m) fun x15 m =>
  Qb4 G x15 m)
  (bp (G.tab Qf [(.bool false), (.bool true)] m) fun x16 m =>
  Qb4 G x16 m))
  (bp (G.tab Qf [(.bool false), (.bool true)] m) fun x17 m =>
  Qb4 G x17 m)
def Qo3 (G : Gt) (p1 p0 : V) (m : M) : R :=
  Qw7 G p1 p0 m
theorem Q1gz (G : Gt) (a0 a1 : V) (m : M) : evFn Tryz.prog G.tab G.rds (drOf Tryz.prog G.tab) Tryz.f147 [a0, a1] m = Qo3 G a1 a0 m :=
  evFn_of (r := fun ρ m => Qo3 G (ρ 1) (ρ 0) m) rfl rfl (tr (seqQ (f := fun ρ m => Qw7 G (ρ 1) (ρ 0) m) (tr (seqQ (f := fun ρ m => Qb4 G (ρ 3) m) (fun ρ m => by kernel_rfl)) (fun ρ m => by kernel_rfl))) (fun ρ m => by kernel_rfl)) m
def Q1h0 : Entry Tryz.prog := ⟨Q10x, Tryz.f147, Tryz.func147, by kernel_rfl, arg2 (fun G a0 a1 m => Qo3 G a1 a0 m), okarg2 Q1gz⟩
def Q6f (G : Gt) (p0 p1 p2 : V) (m : M) : R :=
  bp (some (aNew Q1ff (Value.cells p0).toList m)) fun x0 m =>
  bp (some (aNew Q2h (Value.cells p1).toList m)) fun x1 m =>
  bp (some (aNew Qye (Value.cells p2).toList m)) fun x2 m =>
  bp (pur (aLoad false 1 x0 m) m) fun x3 m =>
  let x4 : V := (.func (.func Qba) ⟨[]⟩ ⟨[x2, x0, x1]⟩)
  bp (pur (aLoad false 1 x1 m) m) fun x5 m =>
  bp (G.tab Q3e [x3, x4] m) fun x6 m =>
  ckB (again (pur (aLoad false 1 x1 m) m) x5 && true)
  (bp (pur (bin .eql false true .int x6 x5) m) fun x7 m =>
  some (x7, m))
theorem Qvn (G : Gt) (a0 a1 a2 : V) (m : M) : evFn Tryz.prog G.tab G.rds (drOf Tryz.prog G.tab) Tryz.f148 [a0, a1, a2] m = Q6f G a0 a1 a2 m :=
  evFn_of (r := fun ρ m => Q6f G (ρ 0) (ρ 1) (ρ 2) m) rfl rfl (fun ρ m => by kernel_rfl) m
def Qvo : Entry Tryz.prog := ⟨Qd8, Tryz.f148, Tryz.func148, by kernel_rfl, arg3 (fun G a0 a1 a2 m => Q6f G a0 a1 a2 m), okarg3 Qvn⟩
def Ql1 (G : Gt) (p0 : V) (m : M) : R :=
  bp (some (aNew Q3p (Value.cells p0).toList m)) fun x0 m =>
  bp (pur (aFieldAddr 0 x0) m) fun x1 m =>
  bp (pur (aLoad false 1 x1 m) m) fun x2 m =>
  some (x2, m)
theorem Q1fr (G : Gt) (a0 : V) (m : M) : evFn Tryz.prog G.tab G.rds (drOf Tryz.prog G.tab) Tryz.f149 [a0] m = Ql1 G a0 m :=
  evFn_of (r := fun ρ m => Ql1 G (ρ 0) m) rfl rfl (fun ρ m => by kernel_rfl) m
def Q1fs : Entry Tryz.prog := ⟨Qki, Tryz.f149, Tryz.func149, by kernel_rfl, arg1 (fun G a0 m => Ql1 G a0 m), okarg1 Q1fr⟩
def Qo4 (G : Gt) (p2 : V) (m : M) : R :=
  some (p2, m)
def Q11a (G : Gt) (p0 : V) (m : M) : R :=
  bp (pur (lenK 1 p0 m) m) fun x0 m =>
  bp (pur (bin .leq true true .int x0 (.int .i64 256)) m) fun x1 m =>
  brb x1
  (bp (G.tab Q4l [p0, (.func (.func Q112) #[] #[])] m) fun x2 m =>
  bp (pur (un .not x2) m) fun x3 m =>
  Qo4 G x3 m)
  (Qo4 G (.bool false) m)
def Qu8 (G : Gt) (p0 : V) (m : M) : R :=
  Q11a G p0 m
theorem Q1it (G : Gt) (a0 : V) (m : M) : evFn Tryz.prog G.tab G.rds (drOf Tryz.prog G.tab) Tryz.f150 [a0] m = Qu8 G a0 m :=
  evFn_of (r := fun ρ m => Qu8 G (ρ 0) m) rfl rfl (tr (seqQ (f := fun ρ m => Q11a G (ρ 0) m) (tr (seqQ (f := fun ρ m => Qo4 G (ρ 2) m) (fun ρ m => by kernel_rfl)) (fun ρ m => by kernel_rfl))) (fun ρ m => by kernel_rfl)) m
def Q1iu : Entry Tryz.prog := ⟨Q15p, Tryz.f150, Tryz.func150, by kernel_rfl, arg1 (fun G a0 m => Qu8 G a0 m), okarg1 Q1it⟩
def Qb5 (G : Gt) (p3 : V) (m : M) : R :=
  some (p3, m)
def Qw8 (G : Gt) (p1 p0 : V) (m : M) : R :=
  bp (pur (aFieldAddr 8 p1) m) fun x0 m =>
  bp (pur (aLoad false 1 x0 m) m) fun x1 m =>
  bp (pur (aIndexAddrSl 2 x1 p0) m) fun x2 m =>
  bp (pur (aFieldAddr 0 x2) m) fun x3 m =>
  bp (pur (aLoad false 1 x3 m) m) fun x4 m =>
  bp (G.tab Q7k [x4] m) fun x5 m =>
  brb x5
  (bp (pur (aFieldAddr 8 p1) m) fun x6 m =>
  bp (pur (aLoad false 1 x6 m) m) fun x7 m =>
  bp (G.tab Qae [x7, p0, (.func (.func Qit) #[] #[])] m) fun x8 m =>
  brb x8
  (bp (pur (aFieldAddr 8 p1) m) fun x9 m =>
  bp (pur (aLoad false 1 x9 m) m) fun x10 m =>
  bp (pur (aIndexAddrSl 2 x10 p0) m) fun x11 m =>
  bp (pur (aFieldAddr 1 x11) m) fun x12 m =>
  bp (pur (aLoad false 1 x12 m) m) fun x13 m =>
  bp (G.tab Q15q [x13] m) fun x14 m =>
  bp (G.tab Qf [x14, (.bool true)] m) fun x15 m =>
  Qb5 G x15 m)
  (bp (G.tab Qf [(.bool false), (.bool true)] m) fun x16 m =>
  Qb5 G x16 m))
  (bp (G.tab Qf [(.bool false), (.bool true)] m) fun x17 m =>
  Qb5 G x17 m)
def Qo5 (G : Gt) (p1 p0 : V) (m : M) : R :=
  Qw8 G p1 p0 m
theorem Q1h1 (G : Gt) (a0 a1 : V) (m : M) : evFn Tryz.prog G.tab G.rds (drOf Tryz.prog G.tab) Tryz.f151 [a0, a1] m = Qo5 G a1 a0 m :=
  evFn_of (r := fun ρ m => Qo5 G (ρ 1) (ρ 0) m) rfl rfl (tr (seqQ (f := fun ρ m => Qw8 G (ρ 1) (ρ 0) m) (tr (seqQ (f := fun ρ m => Qb5 G (ρ 3) m) (fun ρ m => by kernel_rfl)) (fun ρ m => by kernel_rfl))) (fun ρ m => by kernel_rfl)) m
def Q1h2 : Entry Tryz.prog := ⟨Q10y, Tryz.f151, Tryz.func151, by kernel_rfl, arg2 (fun G a0 a1 m => Qo5 G a1 a0 m), okarg2 Q1h1⟩
def Q56 (G : Gt) (p0 p1 p2 : V) (m : M) : R :=
  bp (some (aNew Q19s (Value.cells p0).toList m)) fun x0 m =>
  bp (some (aNew Q2h (Value.cells p1).toList m)) fun x1 m =>
  bp (some (aNew Qt7 (Value.cells p2).toList m)) fun x2 m =>
  bp (pur (aLoad false 1 x0 m) m) fun x3 m =>
  let x4 : V := (.func (.func Q8t) ⟨[]⟩ ⟨[x2, x0, x1]⟩)
  bp (pur (aLoad false 1 x1 m) m) fun x5 m =>
  bp (G.tab Q2e [x3, x4] m) fun x6 m =>
  ckB (again (pur (aLoad false 1 x1 m) m) x5 && true)
  (bp (pur (bin .eql false true .int x6 x5) m) fun x7 m =>
  some (x7, m))
theorem Qqh (G : Gt) (a0 a1 a2 : V) (m : M) : evFn Tryz.prog G.tab G.rds (drOf Tryz.prog G.tab) Tryz.f152 [a0, a1, a2] m = Q56 G a0 a1 a2 m :=
  evFn_of (r := fun ρ m => Q56 G (ρ 0) (ρ 1) (ρ 2) m) rfl rfl (fun ρ m => by kernel_rfl) m
def Qqi : Entry Tryz.prog := ⟨Qae, Tryz.f152, Tryz.func152, by kernel_rfl, arg3 (fun G a0 a1 a2 m => Q56 G a0 a1 a2 m), okarg3 Qqh⟩
def Qiy (G : Gt) (p0 : V) (m : M) : R :=
  bp (some (aNew Q2f (Value.cells p0).toList m)) fun x0 m =>
  bp (pur (aFieldAddr 0 x0) m) fun x1 m =>
  bp (pur (aLoad false 1 x1 m) m) fun x2 m =>
  some (x2, m)
theorem Q1ep (G : Gt) (a0 : V) (m : M) : evFn Tryz.prog G.tab G.rds (drOf Tryz.prog G.tab) Tryz.f153 [a0] m = Qiy G a0 m :=
  evFn_of (r := fun ρ m => Qiy G (ρ 0) m) rfl rfl (fun ρ m => by kernel_rfl) m
def Q1eq : Entry Tryz.prog := ⟨Qit, Tryz.f153, Tryz.func153, by kernel_rfl, arg1 (fun G a0 m => Qiy G a0 m), okarg1 Q1ep⟩
def Qo6 (G : Gt) (p2 : V) (m : M) : R :=
  some (p2, m)
def Q11b (G : Gt) (p0 : V) (m : M) : R :=
  bp (pur (lenK 1 p0 m) m) fun x0 m =>
  bp (pur (bin .leq true true .int x0 (.int .i64 256)) m) fun x1 m =>
  brb x1
  (bp (G.tab Q3v [p0, (.func (.func Q113) #[] #[])] m) fun x2 m =>
  bp (pur (un .not x2) m) fun x3 m =>
  Qo6 G x3 m)
  (Qo6 G (.bool false) m)
def Qu9 (G : Gt) (p0 : V) (m : M) : R :=
  Q11b G p0 m
theorem Q1iv (G : Gt) (a0 : V) (m : M) : evFn Tryz.prog G.tab G.rds (drOf Tryz.prog G.tab) Tryz.f154 [a0] m = Qu9 G a0 m :=
  evFn_of (r := fun ρ m => Qu9 G (ρ 0) m) rfl rfl (tr (seqQ (f := fun ρ m => Q11b G (ρ 0) m) (tr (seqQ (f := fun ρ m => Qo6 G (ρ 2) m) (fun ρ m => by kernel_rfl)) (fun ρ m => by kernel_rfl))) (fun ρ m => by kernel_rfl)) m
def Q1iw : Entry Tryz.prog := ⟨Q15q, Tryz.f154, Tryz.func154, by kernel_rfl, arg1 (fun G a0 m => Qu9 G a0 m), okarg1 Q1iv⟩
def Qb6 (G : Gt) (p4 : V) (m : M) : R :=
  some (p4, m)
def Qw9 (G : Gt) (p2 p0 p5 p6 : V) (m : M) : R :=
  bp (pur (aFieldAddr 9 p2) m) fun x0 m =>
  bp (pur (aLoad false 1 x0 m) m) fun x1 m =>
  bp (pur (aIndexAddrSl 3 x1 p0) m) fun x2 m =>
  bp (pur (aFieldAddr 0 x2) m) fun x3 m =>
  bp (pur (aLoad false 1 x3 m) m) fun x4 m =>
  bp (G.tab Q7k [x4] m) fun x5 m =>
  brb x5
  (bp (pur (aFieldAddr 9 p2) m) fun x6 m =>
  bp (pur (aLoad false 1 x6 m) m) fun x7 m =>
  bp (G.tab Qjk [x7, p0, (.func (.func Qqe) #[] #[])] m) fun x8 m =>
  brb x8
  (bp (G.tab Qf [p5, p6] m) fun x9 m =>
  Qb6 G x9 m)
  (bp (G.tab Qf [(.bool false), p6] m) fun x10 m =>
  Qb6 G x10 m))
  (bp (G.tab Qf [(.bool false), p6] m) fun x11 m =>
  Qb6 G x11 m)
def Qwa (G : Gt) (p1 p2 p0 : V) (m : M) : R :=
  bp (pur (aLoad true 5 p1 m) m) fun x12 m =>
  bp (pur (aFieldAddr 9 p2) m) fun x13 m =>
  bp (pur (aLoad false 1 x13 m) m) fun x14 m =>
  bp (pur (aIndexAddrSl 3 x14 p0) m) fun x15 m =>
  bp (pur (aFieldAddr 1 x15) m) fun x16 m =>
  bp (pur (aLoad false 1 x16 m) m) fun x17 m =>
  bp (G.tab Qt2 [x12, x17] m) fun x18 m =>
  bp (pur (aExtract x18 0) m) fun x19 m =>
  bp (pur (aExtract x18 1) m) fun x20 m =>
  Qw9 G p2 p0 x19 x20 m
def Qo7 (G : Gt) (p1 p2 p0 : V) (m : M) : R :=
  Qwa G p1 p2 p0 m
theorem Q1h3 (G : Gt) (a0 a1 a2 : V) (m : M) : evFn Tryz.prog G.tab G.rds (drOf Tryz.prog G.tab) Tryz.f155 [a0, a1, a2] m = Qo7 G a1 a2 a0 m :=
  evFn_of (r := fun ρ m => Qo7 G (ρ 1) (ρ 2) (ρ 0) m) rfl rfl (tr (seqQ (f := fun ρ m => Qwa G (ρ 1) (ρ 2) (ρ 0) m) (tr (seqQ (f := fun ρ m => Qw9 G (ρ 2) (ρ 0) (ρ 5) (ρ 6) m) (tr (seqQ (f := fun ρ m => Qb6 G (ρ 4) m) (fun ρ m => by kernel_rfl)) (fun ρ m => by kernel_rfl))) (fun ρ m => by kernel_rfl))) (fun ρ m => by kernel_rfl)) m
def Q1h4 : Entry Tryz.prog := ⟨Q10z, Tryz.f155, Tryz.func155, by kernel_rfl, arg3 (fun G a0 a1 a2 m => Qo7 G a1 a2 a0 m), okarg3 Q1h3⟩
end
end Go.Ab.Sh

set_option linter.unusedVariables false
set_option maxRecDepth 100000
namespace Go.Ab.Sh
open Go Go.Ab Go.Proofs
noncomputable section
def Qp9 (G : Gt) (p4 p5 : V) (m : M) : R :=
  some (.tuple ⟨[p4, p5]⟩, m)
def Q6j (G : Gt) (k0 : V → V → V → V → V → V → V → M → R) (p8 p16 p15 p14 p4 p5 p2 : V) (m : M) : R :=
  bp (pur (aFieldAddr 0 p8) m) fun x0 m =>
  bp (pur (aLoad false 1 x0 m) m) fun x1 m =>
  bp (pur (bin .add true true .int p16 (.int .i64 1)) m) fun x2 m =>
  k0 x2 p15 p14 p4 x1 p5 p2 m
def Qn0 (G : Gt) (k0 : V → V → V → V → V → V → V → M → R) (p5 p2 p8 p16 p15 p14 p4 : V) (m : M) : R :=
  brb p5
  (bp (pur (aFieldAddr 2 p2) m) fun x3 m =>
  bp (pur (aLoad false 1 x3 m) m) fun x4 m =>
  bp (pur (aFieldAddr 2 p8) m) fun x5 m =>
  bp (pur (aLoad false 1 x5 m) m) fun x6 m =>
  bp (G.tab Q1k [x4, x6] m) fun x7 m =>
  brb x7
  (bp (pur (aFieldAddr 3 p2) m) fun x8 m =>
  bp (pur (aLoad false 1 x8 m) m) fun x9 m =>
  bp (pur (aFieldAddr 3 p8) m) fun x10 m =>
  bp (pur (aLoad false 1 x10 m) m) fun x11 m =>
  bp (G.tab Q1k [x9, x11] m) fun x12 m =>
  Q6j G k0 p8 p16 p15 p14 p4 x12 p2 m)
  (Q6j G k0 p8 p16 p15 p14 p4 (.bool false) p2 m))
  (Q6j G k0 p8 p16 p15 p14 p4 (.bool false) p2 m)
def Qv (G : Gt) (k0 : V → V → V → V → V → V → V → M → R) (p4 p5 p2 p8 p16 p15 p14 : V) (m : M) : R :=
  bp (pur (un .not p4) m) fun x13 m =>
  brb x13
  (some (.tuple ⟨[(.bool false), (.bool true)]⟩, m))
  (Qn0 G k0 p5 p2 p8 p16 p15 p14 p4 m)
def Qn1 (G : Gt) (k0 : V → V → V → V → V → V → V → M → R) (p4 p8 p5 p2 p16 p15 p14 : V) (m : M) : R :=
  brb p4
  (bp (pur (aFieldAddr 10 p8) m) fun x14 m =>
  bp (pur (aLoad false 1 x14 m) m) fun x15 m =>
  bp (pur (lenK 1 x15 m) m) fun x16 m =>
  bp (pur (bin .leq true true .int x16 (.int .i64 64)) m) fun x17 m =>
  brb x17
  (bp (pur (aFieldAddr 12 p8) m) fun x18 m =>
  bp (pur (aLoad false 1 x18 m) m) fun x19 m =>
  bp (pur (lenK 1 x19 m) m) fun x20 m =>
  bp (pur (bin .leq true true .int x20 (.int .i64 64)) m) fun x21 m =>
  brb x21
  (bp (pur (aFieldAddr 12 p8) m) fun x22 m =>
  bp (pur (aLoad false 1 x22 m) m) fun x23 m =>
  bp (G.tab Q8u [x23, (.int .u32 0)] m) fun x24 m =>
  bp (pur (un .not x24) m) fun x25 m =>
  brb x25
  (bp (pur (aFieldAddr 14 p8) m) fun x26 m =>
  bp (pur (aLoad false 1 x26 m) m) fun x27 m =>
  bp (pur (bin .eql true true .int x27 (.int .i64 0)) m) fun x28 m =>
  brb x28
  (bp (pur (aFieldAddr 11 p8) m) fun x29 m =>
  bp (pur (aLoad false 1 x29 m) m) fun x30 m =>
  bp (pur (un .not x30) m) fun x31 m =>
  brb x31
  (Qv G k0 (.bool true) p5 p2 p8 p16 p15 p14 m)
  (bp (pur (aFieldAddr 10 p8) m) fun x32 m =>
  bp (pur (aLoad false 1 x32 m) m) fun x33 m =>
  bp (pur (lenK 1 x33 m) m) fun x34 m =>
  bp (pur (bin .gtr true true .int x34 (.int .i64 0)) m) fun x35 m =>
  Qv G k0 x35 p5 p2 p8 p16 p15 p14 m))
  (bp (pur (aFieldAddr 14 p8) m) fun x36 m =>
  bp (pur (aLoad false 1 x36 m) m) fun x37 m =>
  bp (pur (aFieldAddr 0 p8) m) fun x38 m =>
  bp (pur (aLoad false 1 x38 m) m) fun x39 m =>
  bp (pur (bin .add true true .int x39 (.int .i64 1)) m) fun x40 m =>
  bp (G.tab Q1q [x37, x40, (.int .i64 65535)] m) fun x41 m =>
  brb x41
  (bp (pur (aFieldAddr 11 p8) m) fun x42 m =>
  bp (pur (aLoad false 1 x42 m) m) fun x43 m =>
  bp (pur (un .not x43) m) fun x44 m =>
  brb x44
  (Qv G k0 (.bool true) p5 p2 p8 p16 p15 p14 m)
  (bp (pur (aFieldAddr 10 p8) m) fun x45 m =>
  bp (pur (aLoad false 1 x45 m) m) fun x46 m =>
  bp (pur (lenK 1 x46 m) m) fun x47 m =>
  bp (pur (bin .gtr true true .int x47 (.int .i64 0)) m) fun x48 m =>
  Qv G k0 x48 p5 p2 p8 p16 p15 p14 m))
  (Qv G k0 (.bool false) p5 p2 p8 p16 p15 p14 m)))
  (Qv G k0 (.bool false) p5 p2 p8 p16 p15 p14 m))
  (Qv G k0 (.bool false) p5 p2 p8 p16 p15 p14 m))
  (Qv G k0 (.bool false) p5 p2 p8 p16 p15 p14 m))
  (Qv G k0 (.bool false) p5 p2 p8 p16 p15 p14 m)
def Qbn (G : Gt) (k1 : V → V → V → V → V → V → V → V → V → V → M → R) (p55 p54 p53 p4 p8 p5 p2 p16 p15 p14 : V) (m : M) : R :=
  bp (pur (bin .add true true .int p55 (.int .i64 1)) m) fun x49 m =>
  k1 x49 p54 p53 p4 p8 p5 p2 p16 p15 p14 m
def Qn2 (G : Gt) (k1 : V → V → V → V → V → V → V → V → V → V → M → R) (p53 p55 p4 p54 p8 p5 p2 p16 p15 p14 : V) (m : M) : R :=
  bp (pur (aIndexAddrSl 1 p53 p55) m) fun x50 m =>
  bp (pur (aLoad false 1 x50 m) m) fun x51 m =>
  brb p4
  (bp (G.tab Q1q [x51, (.int .i64 (-1)), (.int .i64 16777216)] m) fun x52 m =>
  Qbn G k1 p55 p54 p53 x52 p8 p5 p2 p16 p15 p14 m)
  (Qbn G k1 p55 p54 p53 (.bool false) p8 p5 p2 p16 p15 p14 m)
def Qn3 (G : Gt) (k1 : V → V → V → V → V → V → V → V → V → V → M → R) (k0 : V → V → V → V → V → V → V → M → R) (p56 p53 p55 p4 p54 p8 p5 p2 p16 p15 p14 : V) (m : M) : R :=
  brb p56
  (Qn2 G k1 p53 p55 p4 p54 p8 p5 p2 p16 p15 p14 m)
  (Qn1 G k0 p4 p8 p5 p2 p16 p15 p14 m)
def Q2v (G : Gt) (k0 : V → V → V → V → V → V → V → M → R) : Nat → V → V → V → V → V → V → V → V → V → V → M → R
 | 0, _, _, _, _, _, _, _, _, _, _, _ => none
 | i + 1, p55, p54, p53, p4, p8, p5, p2, p16, p15, p14, m =>
  bp (pur (bin .lss false true .int p55 p54) m) fun x53 m =>
  Qn3 G (Q2v G k0 i) k0 x53 p53 p55 p4 p54 p8 p5 p2 p16 p15 p14 m
def Qn4 (G : Gt) (k0 : V → V → V → V → V → V → V → M → R) (p55 p54 p53 p4 p8 p5 p2 p16 p15 p14 : V) (m : M) : R :=
  Q2v G k0 G.rds p55 p54 p53 p4 p8 p5 p2 p16 p15 p14 m
def Q2w (G : Gt) (k0 : V → V → V → V → V → V → V → M → R) (p8 p4 p5 p2 p16 p15 p14 : V) (m : M) : R :=
  bp (pur (aFieldAddr 4 p8) m) fun x54 m =>
  bp (pur (aLoad false 1 x54 m) m) fun x55 m =>
  bp (pur (aFieldAddr 5 p8) m) fun x56 m =>
  bp (pur (aLoad false 1 x56 m) m) fun x57 m =>
  bp (pur (aFieldAddr 7 p8) m) fun x58 m =>
  bp (pur (aLoad false 1 x58 m) m) fun x59 m =>
  bp (pur (aFieldAddr 8 p8) m) fun x60 m =>
  bp (pur (aLoad false 1 x60 m) m) fun x61 m =>
  bp (pur (aFieldAddr 9 p8) m) fun x62 m =>
  bp (pur (aLoad false 1 x62 m) m) fun x63 m =>
  bp (aBuildSlice Q2h [(.int .i64 0)] 1 5 [(0, x55), (1, x57), (2, x59), (3, x61), (4, x63)] m) fun x64 m =>
  bp (pur (lenK 1 x64 m) m) fun x65 m =>
  Qn4 G k0 (.int .i64 0) x65 x64 p4 p8 p5 p2 p16 p15 p14 m
def Qpa (G : Gt) (k0 : V → V → V → V → V → V → V → M → R) (p4 p8 p6 p5 p2 p16 p15 p14 : V) (m : M) : R :=
  brb p4
  (bp (pur (aFieldAddr 0 p8) m) fun x66 m =>
  bp (pur (aLoad false 1 x66 m) m) fun x67 m =>
  bp (pur (bin .add true true .int p6 (.int .i64 1)) m) fun x68 m =>
  bp (G.tab Q1q [x67, x68, (.int .i64 65535)] m) fun x69 m =>
  brb x69
  (bp (pur (aFieldAddr 1 p8) m) fun x70 m =>
  bp (pur (aLoad false 1 x70 m) m) fun x71 m =>
  bp (pur (bin .leq true true .int x71 (.int .u8 2)) m) fun x72 m =>
  brb x72
  (bp (pur (aFieldAddr 6 p8) m) fun x73 m =>
  bp (pur (aLoad false 1 x73 m) m) fun x74 m =>
  bp (pur (bin .eql true true .int x74 (.int .i64 (-1))) m) fun x75 m =>
  brb x75
  (Q2w G k0 p8 (.bool true) p5 p2 p16 p15 p14 m)
  (bp (pur (aFieldAddr 6 p8) m) fun x76 m =>
  bp (pur (aLoad false 1 x76 m) m) fun x77 m =>
  bp (G.tab Q1q [x77, (.int .i64 1), (.int .i64 4294967295)] m) fun x78 m =>
  Q2w G k0 p8 x78 p5 p2 p16 p15 p14 m))
  (Q2w G k0 p8 (.bool false) p5 p2 p16 p15 p14 m))
  (Q2w G k0 p8 (.bool false) p5 p2 p16 p15 p14 m))
  (Q2w G k0 p8 (.bool false) p5 p2 p16 p15 p14 m)
def Qpb (G : Gt) (k0 : V → V → V → V → V → V → V → M → R) (p14 p16 p4 p6 p5 p2 p15 : V) (m : M) : R :=
  bp (pur (aIndexAddrSl 15 p14 p16) m) fun x79 m =>
  bp (pur (aLoad true 15 x79 m) m) fun x80 m =>
  bp (some (aNew Qai Qe9 m)) fun x81 m =>
  bp (unt (aStore 15 x81 x80 m)) fun _ m =>
  Qpa G k0 p4 x81 p6 p5 p2 p16 p15 p14 m
def Qpc (G : Gt) (k0 : V → V → V → V → V → V → V → M → R) (p17 p14 p16 p4 p6 p5 p2 p15 : V) (m : M) : R :=
  brb p17
  (Qpb G k0 p14 p16 p4 p6 p5 p2 p15 m)
  (Qp9 G p4 p5 m)
def Qb (G : Gt) : Nat → V → V → V → V → V → V → V → M → R
 | 0, _, _, _, _, _, _, _, _ => none
 | i + 1, p16, p15, p14, p4, p6, p5, p2, m =>
  bp (pur (bin .lss false true .int p16 p15) m) fun x82 m =>
  Qpc G (Qb G i) x82 p14 p16 p4 p6 p5 p2 p15 m
def Qpd (G : Gt) (p16 p15 p14 p4 p6 p5 p2 : V) (m : M) : R :=
  Qb G G.rds p16 p15 p14 p4 p6 p5 p2 m
def Qpe (G : Gt) (p1 p4 p6 p5 p2 : V) (m : M) : R :=
  bp (pur (lenK 1 p1 m) m) fun x83 m =>
  Qpd G (.int .i64 0) x83 p1 p4 p6 p5 p2 m
def Qpf (G : Gt) (p1 p4 p5 p2 : V) (m : M) : R :=
  Qpe G p1 p4 (.int .i64 0) p5 p2 m
def Qpg (G : Gt) (p1 p2 : V) (m : M) : R :=
  Qpf G p1 (.bool true) (.bool true) p2 m
def Qph (G : Gt) (p1 p2 : V) (m : M) : R :=
  bp (pur (lenK 1 p1 m) m) fun x84 m =>
  bp (pur (bin .gtr true true .int x84 (.int .i64 256)) m) fun x85 m =>
  brb x85
  (some (.tuple ⟨[(.bool false), (.bool true)]⟩, m))
  (Qpg G p1 p2 m)
def Qhb (G : Gt) (p0 p1 : V) (m : M) : R :=
  bp (some (aNew Q7m (Value.cells p0).toList m)) fun x86 m =>
  Qph G p1 x86 m
theorem Q1cm (G : Gt) (a0 a1 : V) (m : M) : evFn Tryz.prog G.tab G.rds (drOf Tryz.prog G.tab) Tryz.f156 [a0, a1] m = Qhb G a0 a1 m :=
  evFn_of (r := fun ρ m => Qhb G (ρ 0) (ρ 1) m) rfl rfl (tr (seqQ (f := fun ρ m => Qph G (ρ 1) (ρ 2) m) (tr (seqQ (f := fun ρ m => Qpg G (ρ 1) (ρ 2) m) (tr (seqQ (f := fun ρ m => Qpf G (ρ 1) (ρ 4) (ρ 5) (ρ 2) m) (tr (seqQ (f := fun ρ m => Qpe G (ρ 1) (ρ 4) (ρ 6) (ρ 5) (ρ 2) m) (tr (tr (seqQ (f := fun ρ m => Qp9 G (ρ 4) (ρ 5) m) (fun ρ m => by kernel_rfl)) (seqQ (f := fun ρ m => Qpd G (ρ 16) (ρ 15) (ρ 14) (ρ 4) (ρ 6) (ρ 5) (ρ 2) m) (tr (blockQ (loopQ (fun i ρ m => Qb G i (ρ 16) (ρ 15) (ρ 14) (ρ 4) (ρ 6) (ρ 5) (ρ 2) m) (fun _ _ => rfl) (fun i0 => tr (seqQ (f := fun ρ m => Qpc G (Qb G i0) (ρ 17) (ρ 14) (ρ 16) (ρ 4) (ρ 6) (ρ 5) (ρ 2) (ρ 15) m) (tr (seqQ (f := fun ρ m => Qpb G (Qb G i0) (ρ 14) (ρ 16) (ρ 4) (ρ 6) (ρ 5) (ρ 2) (ρ 15) m) (tr (tr seqD (blockQ (seqQ (f := fun ρ m => Qpa G (Qb G i0) (ρ 4) (ρ 8) (ρ 6) (ρ 5) (ρ 2) (ρ 16) (ρ 15) (ρ 14) m) (tr (seqQ (f := fun ρ m => Q2w G (Qb G i0) (ρ 8) (ρ 4) (ρ 5) (ρ 2) (ρ 16) (ρ 15) (ρ 14) m) (tr (tr (seqQ (f := fun ρ m => Qn1 G (Qb G i0) (ρ 4) (ρ 8) (ρ 5) (ρ 2) (ρ 16) (ρ 15) (ρ 14) m) (tr (seqQ (f := fun ρ m => Qv G (Qb G i0) (ρ 4) (ρ 5) (ρ 2) (ρ 8) (ρ 16) (ρ 15) (ρ 14) m) (tr (seqQ (f := fun ρ m => Qn0 G (Qb G i0) (ρ 5) (ρ 2) (ρ 8) (ρ 16) (ρ 15) (ρ 14) (ρ 4) m) (tr (seqQ (f := fun ρ m => Q6j G (Qb G i0) (ρ 8) (ρ 16) (ρ 15) (ρ 14) (ρ 4) (ρ 5) (ρ 2) m) (fun ρ m => by kernel_rfl)) (fun ρ m => by kernel_rfl))) (fun ρ m => by kernel_rfl))) (fun ρ m => by kernel_rfl))) (seqQ (f := fun ρ m => Qn4 G (Qb G i0) (ρ 55) (ρ 54) (ρ 53) (ρ 4) (ρ 8) (ρ 5) (ρ 2) (ρ 16) (ρ 15) (ρ 14) m) (tr (blockQ (loopQ (fun i ρ m => Q2v G (Qb G i0) i (ρ 55) (ρ 54) (ρ 53) (ρ 4) (ρ 8) (ρ 5) (ρ 2) (ρ 16) (ρ 15) (ρ 14) m) (fun _ _ => rfl) (fun i1 => tr (seqQ (f := fun ρ m => Qn3 G (Q2v G (Qb G i0) i1) (Qb G i0) (ρ 56) (ρ 53) (ρ 55) (ρ 4) (ρ 54) (ρ 8) (ρ 5) (ρ 2) (ρ 16) (ρ 15) (ρ 14) m) (tr (seqQ (f := fun ρ m => Qn2 G (Q2v G (Qb G i0) i1) (ρ 53) (ρ 55) (ρ 4) (ρ 54) (ρ 8) (ρ 5) (ρ 2) (ρ 16) (ρ 15) (ρ 14) m) (tr (seqQ (f := fun ρ m => Qbn G (Q2v G (Qb G i0) i1) (ρ 55) (ρ 54) (ρ 53) (ρ 4) (ρ 8) (ρ 5) (ρ 2) (ρ 16) (ρ 15) (ρ 14) m) (fun ρ m => by kernel_rfl)) (fun ρ m => by kernel_rfl))) (fun ρ m => by kernel_rfl))) (fun ρ m => by kernel_rfl)))) (fun ρ m => by kernel_rfl)))) (fun ρ m => by kernel_rfl))) (fun ρ m => by kernel_rfl))))) (fun ρ m => by kernel_rfl))) (fun ρ m => by kernel_rfl))) (fun ρ m => by kernel_rfl)))) (fun ρ m => by kernel_rfl)))) (fun ρ m => by kernel_rfl))) (fun ρ m => by kernel_rfl))) (fun ρ m => by kernel_rfl))) (fun ρ m => by kernel_rfl))) (fun ρ m => by kernel_rfl)) m
def Q1cn : Entry Tryz.prog := ⟨Qt2, Tryz.f156, Tryz.func156, by kernel_rfl, arg2 (fun G a0 a1 m => Qhb G a0 a1 m), okarg2 Q1cm⟩
def Q99 (G : Gt) (p0 p1 p2 : V) (m : M) : R :=
  bp (some (aNew Q1ju (Value.cells p0).toList m)) fun x0 m =>
  bp (some (aNew Q2h (Value.cells p1).toList m)) fun x1 m =>
  bp (some (aNew Q14t (Value.cells p2).toList m)) fun x2 m =>
  bp (pur (aLoad false 1 x0 m) m) fun x3 m =>
  let x4 : V := (.func (.func Qgc) ⟨[]⟩ ⟨[x2, x0, x1]⟩)
  bp (pur (aLoad false 1 x1 m) m) fun x5 m =>
  bp (G.tab Q4y [x3, x4] m) fun x6 m =>
  ckB (again (pur (aLoad false 1 x1 m) m) x5 && true)
  (bp (pur (bin .eql false true .int x6 x5) m) fun x7 m =>
  some (x7, m))
theorem Q11r (G : Gt) (a0 a1 a2 : V) (m : M) : evFn Tryz.prog G.tab G.rds (drOf Tryz.prog G.tab) Tryz.f157 [a0, a1, a2] m = Q99 G a0 a1 a2 m :=
  evFn_of (r := fun ρ m => Q99 G (ρ 0) (ρ 1) (ρ 2) m) rfl rfl (fun ρ m => by kernel_rfl) m
def Q11s : Entry Tryz.prog := ⟨Qjk, Tryz.f157, Tryz.func157, by kernel_rfl, arg3 (fun G a0 a1 a2 m => Q99 G a0 a1 a2 m), okarg3 Q11r⟩
def Qqj (G : Gt) (p0 : V) (m : M) : R :=
  bp (some (aNew Q7l (Value.cells p0).toList m)) fun x0 m =>
  bp (pur (aFieldAddr 0 x0) m) fun x1 m =>
  bp (pur (aLoad false 1 x1 m) m) fun x2 m =>
  some (x2, m)
theorem Q1i1 (G : Gt) (a0 : V) (m : M) : evFn Tryz.prog G.tab G.rds (drOf Tryz.prog G.tab) Tryz.f158 [a0] m = Qqj G a0 m :=
  evFn_of (r := fun ρ m => Qqj G (ρ 0) m) rfl rfl (fun ρ m => by kernel_rfl) m
def Q1i2 : Entry Tryz.prog := ⟨Qqe, Tryz.f158, Tryz.func158, by kernel_rfl, arg1 (fun G a0 m => Qqj G a0 m), okarg1 Q1i1⟩
def Qo8 (G : Gt) (p1 p2 p0 : V) (m : M) : R :=
  bp (pur (aLoad true 5 p1 m) m) fun x0 m =>
  bp (pur (aLoad true 12 p2 m) m) fun x1 m =>
  bp (G.tab Q111 [x0, x1, p0] m) fun x2 m =>
  some (x2, m)
theorem Q1h5 (G : Gt) (a0 a1 a2 : V) (m : M) : evFn Tryz.prog G.tab G.rds (drOf Tryz.prog G.tab) Tryz.f159 [a0, a1, a2] m = Qo8 G a1 a2 a0 m :=
  evFn_of (r := fun ρ m => Qo8 G (ρ 1) (ρ 2) (ρ 0) m) rfl rfl (fun ρ m => by kernel_rfl) m
def Q1h6 : Entry Tryz.prog := ⟨Q110, Tryz.f159, Tryz.func159, by kernel_rfl, arg3 (fun G a0 a1 a2 m => Qo8 G a1 a2 a0 m), okarg3 Q1h5⟩
def Q3f (G : Gt) (p6 : V) (m : M) : R :=
  some (p6, m)
def Qwb (G : Gt) (p8 p7 p4 p2 p9 p3 : V) (m : M) : R :=
  brb p8
  (bp (pur (aFieldAddr 1 p7) m) fun x0 m =>
  bp (pur (aLoad false 1 x0 m) m) fun x1 m =>
  bp (pur (bin .neq true true .int x1 (.int .u32 0)) m) fun x2 m =>
  brb x2
  (bp (pur (aFieldAddr 10 p4) m) fun x3 m =>
  bp (pur (aLoad false 1 x3 m) m) fun x4 m =>
  bp (G.tab Qmx [x4, p2, (.func (.func Qvv) #[] #[])] m) fun x5 m =>
  brb p9
  (bp (pur (aFieldAddr 0 p3) m) fun x6 m =>
  bp (pur (aLoad false 1 x6 m) m) fun x7 m =>
  bp (pur (aFieldAddr 0 p7) m) fun x8 m =>
  bp (pur (aLoad false 1 x8 m) m) fun x9 m =>
  bp (G.tab Q1k [x7, x9] m) fun x10 m =>
  bp (G.tab Qf [x5, x10] m) fun x11 m =>
  Q3f G x11 m)
  (bp (G.tab Qf [x5, (.bool false)] m) fun x12 m =>
  Q3f G x12 m))
  (brb p9
  (bp (pur (aFieldAddr 0 p3) m) fun x13 m =>
  bp (pur (aLoad false 1 x13 m) m) fun x14 m =>
  bp (pur (aFieldAddr 0 p7) m) fun x15 m =>
  bp (pur (aLoad false 1 x15 m) m) fun x16 m =>
  bp (G.tab Q1k [x14, x16] m) fun x17 m =>
  bp (G.tab Qf [(.bool false), x17] m) fun x18 m =>
  Q3f G x18 m)
  (bp (G.tab Qf [(.bool false), (.bool false)] m) fun x19 m =>
  Q3f G x19 m)))
  (brb p9
  (bp (pur (aFieldAddr 0 p3) m) fun x20 m =>
  bp (pur (aLoad false 1 x20 m) m) fun x21 m =>
  bp (pur (aFieldAddr 0 p7) m) fun x22 m =>
  bp (pur (aLoad false 1 x22 m) m) fun x23 m =>
  bp (G.tab Q1k [x21, x23] m) fun x24 m =>
  bp (G.tab Qf [(.bool false), x24] m) fun x25 m =>
  Q3f G x25 m)
  (bp (G.tab Qf [(.bool false), (.bool false)] m) fun x26 m =>
  Q3f G x26 m))
def Qwc (G : Gt) (p3 p7 p4 p2 : V) (m : M) : R :=
  bp (pur (aLoad true 5 p3 m) m) fun x27 m =>
  bp (pur (aFieldAddr 2 p7) m) fun x28 m =>
  bp (pur (aLoad false 1 x28 m) m) fun x29 m =>
  bp (G.tab Qh3 [x27, x29, (.int .u8 11), (.bool true)] m) fun x30 m =>
  bp (pur (aExtract x30 0) m) fun x31 m =>
  bp (pur (aExtract x30 1) m) fun x32 m =>
  Qwb G x31 p7 p4 p2 x32 p3 m
def Qwd (G : Gt) (p4 p2 p3 : V) (m : M) : R :=
  bp (pur (aFieldAddr 10 p4) m) fun x33 m =>
  bp (pur (aLoad false 1 x33 m) m) fun x34 m =>
  bp (pur (aIndexAddrSl 3 x34 p2) m) fun x35 m =>
  bp (pur (aLoad true 3 x35 m) m) fun x36 m =>
  bp (some (aNew Qh4 Qt8 m)) fun x37 m =>
  bp (unt (aStore 3 x37 x36 m)) fun _ m =>
  Qwc G p3 x37 p4 p2 m
def Qo9 (G : Gt) (p0 p1 p2 : V) (m : M) : R :=
  bp (some (aNew Q7m (Value.cells p0).toList m)) fun x38 m =>
  bp (some (aNew Ql (Value.cells p1).toList m)) fun x39 m =>
  Qwd G x39 p2 x38 m
theorem Q1h7 (G : Gt) (a0 a1 a2 : V) (m : M) : evFn Tryz.prog G.tab G.rds (drOf Tryz.prog G.tab) Tryz.f160 [a0, a1, a2] m = Qo9 G a0 a1 a2 m :=
  evFn_of (r := fun ρ m => Qo9 G (ρ 0) (ρ 1) (ρ 2) m) rfl rfl (tr (seqQ (f := fun ρ m => Qwd G (ρ 4) (ρ 2) (ρ 3) m) (tr (seqQ (f := fun ρ m => Qwc G (ρ 3) (ρ 7) (ρ 4) (ρ 2) m) (tr (seqQ (f := fun ρ m => Qwb G (ρ 8) (ρ 7) (ρ 4) (ρ 2) (ρ 9) (ρ 3) m) (tr (seqQ (f := fun ρ m => Q3f G (ρ 6) m) (fun ρ m => by kernel_rfl)) (fun ρ m => by kernel_rfl))) (fun ρ m => by kernel_rfl))) (fun ρ m => by kernel_rfl))) (fun ρ m => by kernel_rfl)) m
def Q1h8 : Entry Tryz.prog := ⟨Q111, Tryz.f160, Tryz.func160, by kernel_rfl, arg3 (fun G a0 a1 a2 m => Qo9 G a0 a1 a2 m), okarg3 Q1h7⟩
def Ql2 (G : Gt) (p1 p2 p0 : V) (m : M) : R :=
  bp (pur (aLoad true 5 p1 m) m) fun x0 m =>
  bp (pur (aLoad true 12 p2 m) m) fun x1 m =>
  bp (G.tab Q12x [x0, x1, p0] m) fun x2 m =>
  some (x2, m)
theorem Q1ft (G : Gt) (a0 a1 a2 : V) (m : M) : evFn Tryz.prog G.tab G.rds (drOf Tryz.prog G.tab) Tryz.f161 [a0, a1, a2] m = Ql2 G a1 a2 a0 m :=
  evFn_of (r := fun ρ m => Ql2 G (ρ 1) (ρ 2) (ρ 0) m) rfl rfl (fun ρ m => by kernel_rfl) m
def Q1fu : Entry Tryz.prog := ⟨Qya, Tryz.f161, Tryz.func161, by kernel_rfl, arg3 (fun G a0 a1 a2 m => Ql2 G a1 a2 a0 m), okarg3 Q1ft⟩
end
end Go.Ab.Sh
