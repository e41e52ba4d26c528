/-
  Functions of the program as plain definitions, each with the theorem that it is what the evaluator makes of the code. No conditions.
-/
import Derived.Test.YtchdjkidnjfcjaaGreatDoorAb5
import Derived.Test.YtchdjkidnjfcjaaGreatDoorZ
import Derived.KernelRfl
import Derived.Test.YtchdjkidnjfcjaaGreatDoorProg
set_option linter.unusedVariables false
set_option maxRecDepth 100000
namespace Go.Ab.Sh
open Go Go.Ab Go.Proofs
noncomputable section
def Qbt (G : Gt) (p0 p1 : V) (m : M) : R :=
  bp (some (aNew Q131 (Value.cells p0).toList m)) fun x0 m =>
  bp (aBuildSlice Q1 [(.string ⟨#[]⟩)] 1 1 [(0, (.string ⟨#[116,101,114,109]⟩))] m) fun x1 m =>
  bp (G.tab Q8 [p1, x1] m) fun x2 m =>
  bp (G.tab Q7 [p1] m) fun x3 m =>
  bp (pur (aLoad false 1 x0 m) m) fun x4 m =>
  bp (pur (aNilCheck x4) m) fun x5 m =>
  bp (pur (aFieldAddr 0 x5) m) fun x6 m =>
  bp (pur (aFieldAddr 4 x6) m) fun x7 m =>
  bp (pur (aLoad false 1 x7 m) m) fun x8 m =>
  bp (pur (aLoad false 1 x0 m) m) fun x9 m =>
  bp (pur (aNilCheck x9) m) fun x10 m =>
  bp (pur (aFieldAddr 0 x10) m) fun x11 m =>
  bp (pur (aFieldAddr 4 x11) m) fun x12 m =>
  bp (pur (aLoad false 1 x12 m) m) fun x13 m =>
  bp (pur (lenK 1 x13 m) m) fun x14 m =>
  bp (pur (bin .sub true true .int x14 (.int .i64 1)) m) fun x15 m =>
  bp (pur (aIndexAddrSl 2 x8 x15) m) fun x16 m =>
  bp (some (aNew Q1lc [(.pointer none)] m)) fun x17 m =>
  bp (unt (aStore 1 x17 x16 m)) fun _ m =>
  bp (pur (aLoad false 1 x17 m) m) fun x18 m =>
  bp (pur (aLoad false 1 x17 m) m) fun x19 m =>
  bp (pur (aNilCheck x19) m) fun x20 m =>
  bp (pur (aFieldAddr 1 x20) m) fun x21 m =>
  bp (pur (aLoad false 1 x21 m) m) fun x22 m =>
  bp (pur (aBuild Q11o [(0, 1), (1, 1)] [(1, (.int .u32 65535))]) m) fun x23 m =>
  bp (pur (aBuild Q11o [(0, 1), (1, 1)] [(1, (.int .u32 65535))]) m) fun x24 m =>
  bp (pur (aBuild Q11k [(0, 1), (1, 1), (2, 2), (4, 2), (6, 2), (8, 2)] [(1, (.int .i64 (-1))), (4, x23), (5, x24)]) m) fun x25 m =>
  bp (aBuildSlice Qmi Q11k 10 1 [(0, x25)] m) fun x26 m =>
  bp (apS Qmi 10 64 x22 x26 m) fun x27 m =>
  ckB (again (pur (aLoad false 1 x17 m) m) x18 && true)
  (bp (pur (aNilCheck x18) m) fun x28 m =>
  bp (pur (aFieldAddr 1 x28) m) fun x29 m =>
  bp (unt (aStore 1 x29 x27 m)) fun _ m =>
  bp (G.tab Q4j [p1] m) fun x30 m =>
  bp (some (aNew Q9 Q5 m)) fun x31 m =>
  bp (unt (aStore 2 x31 x30 m)) fun _ m =>
  let x32 : V := (.func (.func Qjl) ⟨[]⟩ ⟨[x0, x17, x31]⟩)
  some (.tuple ⟨[(.bool true), (.string ⟨#[]⟩), x32]⟩, m))
theorem Q154 (G : Gt) (a0 a1 : V) (m : M) : evFn Tryz.prog G.tab G.rds (drOf Tryz.prog G.tab) Tryz.f118 [a0, a1] m = Qbt G a0 a1 m :=
  evFn_of (r := fun ρ m => Qbt G (ρ 0) (ρ 1) m) rfl rfl (fun ρ m => by kernel_rfl) m
def Q155 : Entry Tryz.prog := ⟨Qmt, Tryz.f118, Tryz.func118, by kernel_rfl, arg2 (fun G a0 a1 m => Qbt G a0 a1 m), okarg2 Q154⟩
def Qbu (G : Gt) (p3 : V) (m : M) : R :=
  some (p3, m)
def Qni (G : Gt) (p4 p0 p3 : V) (m : M) : R :=
  bp (pur (bin .neq true true .int p4 (.int .i64 0)) m) fun x0 m =>
  brb x0
  (bp (G.tab Qe [p0, (.int .i64 130)] m) fun x1 m =>
  Qbu G p3 m)
  (Qbu G p3 m)
def Qnj (G : Gt) (p0 : V) (m : M) : R :=
  bp (G.tab Qi [p0] m) fun x2 m =>
  bp (G.tab Qt3 [x2] m) fun x3 m =>
  bp (pur (aExtract x3 0) m) fun x4 m =>
  bp (pur (aExtract x3 1) m) fun x5 m =>
  Qni G x5 p0 x4 m
def Qf4 (G : Gt) (p0 : V) (m : M) : R :=
  Qnj G p0 m
theorem Q1aq (G : Gt) (a0 : V) (m : M) : evFn Tryz.prog G.tab G.rds (drOf Tryz.prog G.tab) Tryz.f119 [a0] m = Qf4 G a0 m :=
  evFn_of (r := fun ρ m => Qf4 G (ρ 0) m) rfl rfl (tr (seqQ (f := fun ρ m => Qnj G (ρ 0) m) (tr (seqQ (f := fun ρ m => Qni G (ρ 4) (ρ 0) (ρ 3) m) (tr (seqQ (f := fun ρ m => Qbu G (ρ 3) m) (fun ρ m => by kernel_rfl)) (fun ρ m => by kernel_rfl))) (fun ρ m => by kernel_rfl))) (fun ρ m => by kernel_rfl)) m
def Q1ar : Entry Tryz.prog := ⟨Q3i, Tryz.f119, Tryz.func119, by kernel_rfl, arg1 (fun G a0 m => Qf4 G a0 m), okarg1 Q1aq⟩
def Q5f (G : Gt) (p3 p2 : V) (m : M) : R :=
  bp (pur (aLoad true 2 p3 m) m) fun x0 m =>
  bp (unt (aStore 2 p2 x0 m)) fun _ m =>
  ob (ob (aLoad true 2 p2 m) fun v => ob (some []) fun l => some (v :: l)) fun l => some (resVal l, m)
def Qjz (G : Gt) (p4 p3 p2 p0 : V) (m : M) : R :=
  bp (pur (bin .eql true true .int p4 (.int .i64 0)) m) fun x1 m =>
  brb x1
  (Q5f G p3 p2 m)
  (bp (pur (bin .eql true true .int p4 (.int .i64 10)) m) fun x2 m =>
  brb x2
  (bp (G.tab Qe [p0, (.int .i64 10)] m) fun x3 m =>
  Q5f G p3 p2 m)
  (bp (G.tab Qe [p0, (.int .i64 130)] m) fun x4 m =>
  Q5f G p3 p2 m))
def Qk0 (G : Gt) (p0 p2 : V) (m : M) : R :=
  bp (G.tab Qi [p0] m) fun x5 m =>
  bp (G.tab Qyb [x5] m) fun x6 m =>
  bp (pur (aExtract x6 0) m) fun x7 m =>
  bp (pur (aExtract x6 1) m) fun x8 m =>
  bp (some (aNew Q3o Q4n m)) fun x9 m =>
  bp (unt (aStore 2 x9 x7 m)) fun _ m =>
  Qjz G x8 x9 p2 p0 m
def Qbv (G : Gt) (p0 : V) (m : M) : R :=
  bp (some (aNew Q3o Q4n m)) fun x10 m =>
  Qk0 G p0 x10 m
theorem Q156 (G : Gt) (a0 : V) (m : M) : evFn Tryz.prog G.tab G.rds (drOf Tryz.prog G.tab) Tryz.f120 [a0] m = Qbv G a0 m :=
  evFn_of (r := fun ρ m => Qbv G (ρ 0) m) rfl rfl (tr (seqQ (f := fun ρ m => Qk0 G (ρ 0) (ρ 2) m) (tr (seqQ (f := fun ρ m => Qjz G (ρ 4) (ρ 3) (ρ 2) (ρ 0) m) (tr (seqQ (f := fun ρ m => Q5f G (ρ 3) (ρ 2) m) (fun ρ m => by kernel_rfl)) (fun ρ m => by kernel_rfl))) (fun ρ m => by kernel_rfl))) (fun ρ m => by kernel_rfl)) m
def Q157 : Entry Tryz.prog := ⟨Q2u, Tryz.f120, Tryz.func120, by kernel_rfl, arg1 (fun G a0 m => Qbv G a0 m), okarg1 Q156⟩
def Qcw (G : Gt) (p3 : V) (m : M) : R :=
  some (p3, m)
def Qpq (G : Gt) (p3 p0 : V) (m : M) : R :=
  bp (pur (bin .eql true true .int p3 (.int .u32 0)) m) fun x0 m =>
  brb x0
  (bp (G.tab Qe [p0, (.int .i64 131)] m) fun x1 m =>
  Qcw G p3 m)
  (Qcw G p3 m)
def Qpr (G : Gt) (p0 : V) (m : M) : R :=
  bp (G.tab Q3i [p0] m) fun x2 m =>
  Qpq G x2 p0 m
def Qhi (G : Gt) (p0 : V) (m : M) : R :=
  Qpr G p0 m
theorem Q1cs (G : Gt) (a0 : V) (m : M) : evFn Tryz.prog G.tab G.rds (drOf Tryz.prog G.tab) Tryz.f121 [a0] m = Qhi G a0 m :=
  evFn_of (r := fun ρ m => Qhi G (ρ 0) m) rfl rfl (tr (seqQ (f := fun ρ m => Qpr G (ρ 0) m) (tr (seqQ (f := fun ρ m => Qpq G (ρ 3) (ρ 0) m) (tr (seqQ (f := fun ρ m => Qcw G (ρ 3) m) (fun ρ m => by kernel_rfl)) (fun ρ m => by kernel_rfl))) (fun ρ m => by kernel_rfl))) (fun ρ m => by kernel_rfl)) m
def Q1ct : Entry Tryz.prog := ⟨Qh2, Tryz.f121, Tryz.func121, by kernel_rfl, arg1 (fun G a0 m => Qhi G a0 m), okarg1 Q1cs⟩
def Qf5 (G : Gt) (p21 p0 : V) (m : M) : R :=
  brb p21
  (bp (pur (aNilCheck p0) m) fun x0 m =>
  bp (pur (aFieldAddr 4 x0) m) fun x1 m =>
  bp (pur (aLoad false 1 x1 m) m) fun x2 m =>
  bp (pur (bin .add true true .int x2 (.int .i64 1)) m) fun x3 m =>
  bp (pur (aNilCheck p0) m) fun x4 m =>
  bp (pur (aFieldAddr 4 x4) m) fun x5 m =>
  bp (unt (aStore 1 x5 x3 m)) fun _ m =>
  some ((.bool true), m))
  (some ((.bool false), m))
def Qsh (G : Gt) (p0 p1 : V) (m : M) : R :=
  bp (G.tab Q2i [p0] m) fun x6 m =>
  brt x6
  (bp (pur (aNilCheck p0) m) fun x7 m =>
  bp (pur (aFieldAddr 0 x7) m) fun x8 m =>
  bp (pur (aFieldAddr 0 x8) m) fun x9 m =>
  bp (pur (aLoad false 1 x9 m) m) fun x10 m =>
  bp (pur (aNilCheck p0) m) fun x11 m =>
  bp (pur (aFieldAddr 4 x11) m) fun x12 m =>
  bp (pur (aLoad false 1 x12 m) m) fun x13 m =>
  bp (pur (aIndexAddrSl 1 x10 x13) m) fun x14 m =>
  bp (pur (aLoad false 1 x14 m) m) fun x15 m =>
  bp (pur (bin .eql false true .str x15 p1) m) fun x16 m =>
  Qf5 G x16 p0 m)
  (Qf5 G (.bool false) p0 m)
  (none)
def Qja (G : Gt) (p0 p1 : V) (m : M) : R :=
  Qsh G p0 p1 m
theorem Q1ez (G : Gt) (a0 a1 : V) (m : M) : evFn Tryz.prog G.tab G.rds (drOf Tryz.prog G.tab) Tryz.f122 [a0, a1] m = Qja G a0 a1 m :=
  evFn_of (r := fun ρ m => Qja G (ρ 0) (ρ 1) m) rfl rfl (tr (seqQ (f := fun ρ m => Qsh G (ρ 0) (ρ 1) m) (tr (tr seqD (seqQ (f := fun ρ m => Qf5 G (ρ 21) (ρ 0) m) (fun ρ m => by kernel_rfl))) (fun ρ m => by kernel_rfl))) (fun ρ m => by kernel_rfl)) m
def Q1f0 : Entry Tryz.prog := ⟨Qq, Tryz.f122, Tryz.func122, by kernel_rfl, arg2 (fun G a0 a1 m => Qja G a0 a1 m), okarg2 Q1ez⟩
def Qbw (G : Gt) (p0 p1 p2 : V) (m : M) : R :=
  bp (G.tab Qi [p0] m) fun x0 m =>
  bp (G.tab Q4k [p0, x0, p1, p2] m) fun x1 m =>
  some (x1, m)
theorem Q158 (G : Gt) (a0 a1 a2 : V) (m : M) : evFn Tryz.prog G.tab G.rds (drOf Tryz.prog G.tab) Tryz.f123 [a0, a1, a2] m = Qbw G a0 a1 a2 m :=
  evFn_of (r := fun ρ m => Qbw G (ρ 0) (ρ 1) (ρ 2) m) rfl rfl (fun ρ m => by kernel_rfl) m
def Q159 : Entry Tryz.prog := ⟨Qc, Tryz.f123, Tryz.func123, by kernel_rfl, arg3 (fun G a0 a1 a2 m => Qbw G a0 a1 a2 m), okarg3 Q158⟩
def Qaq (G : Gt) (p1 p7 p0 : V) (m : M) : R :=
  bp (G.tab Qq [p1, (.string ⟨#[114,101,106,101,99,116]⟩)] m) fun x0 m =>
  bp (pur (un .not x0) m) fun x1 m =>
  bp (pur (aFieldAddr 0 p7) m) fun x2 m =>
  bp (unt (aStore 1 x2 x1 m)) fun _ m =>
  bp (pur (aNilCheck p0) m) fun x3 m =>
  bp (pur (aFieldAddr 0 x3) m) fun x4 m =>
  bp (pur (aFieldAddr 7 x4) m) fun x5 m =>
  bp (pur (aLoad false 1 x5 m) m) fun x6 m =>
  bp (pur (aNilCheck p0) m) fun x7 m =>
  bp (pur (aFieldAddr 0 x7) m) fun x8 m =>
  bp (pur (aFieldAddr 7 x8) m) fun x9 m =>
  bp (pur (aLoad false 1 x9 m) m) fun x10 m =>
  bp (pur (lenK 1 x10 m) m) fun x11 m =>
  bp (pur (bin .sub true true .int x11 (.int .i64 1)) m) fun x12 m =>
  bp (pur (aIndexAddrSl 2 x6 x12) m) fun x13 m =>
  bp (pur (aNilCheck x13) m) fun x14 m =>
  bp (pur (aFieldAddr 1 x14) m) fun x15 m =>
  bp (pur (aLoad false 1 x15 m) m) fun x16 m =>
  bp (pur (aLoad true 5 p7 m) m) fun x17 m =>
  bp (aBuildSlice Qcm Qil 5 1 [(0, x17)] m) fun x18 m =>
  bp (apS Qcm 5 40 x16 x18 m) fun x19 m =>
  bp (pur (aNilCheck x13) m) fun x20 m =>
  bp (pur (aFieldAddr 1 x20) m) fun x21 m =>
  bp (unt (aStore 1 x21 x19 m)) fun _ m =>
  some (.tuple ⟨[(.bool false), (.string ⟨#[]⟩), .nilFunc]⟩, m)
def Qar (G : Gt) (p1 p7 p0 : V) (m : M) : R :=
  bp (pur (aFieldAddr 1 p7) m) fun x22 m =>
  bp (pur (aFieldAddr 1 x22) m) fun x23 m =>
  bp (pur (aLoad false 1 x23 m) m) fun x24 m =>
  bp (pur (aFieldAddr 4 p7) m) fun x25 m =>
  bp (pur (aLoad false 1 x25 m) m) fun x26 m =>
  bp (G.tab Qc [p1, x24, x26] m) fun x27 m =>
  bp (pur (aFieldAddr 3 p7) m) fun x28 m =>
  bp (unt (aStore 1 x28 x27 m)) fun _ m =>
  Qaq G p1 p7 p0 m
def Qlh (G : Gt) (p31 p8 p7 p1 p0 : V) (m : M) : R :=
  brb p31
  (bp (pur (un .not p8) m) fun x29 m =>
  brb x29
  (bp (pur (aFieldAddr 4 p7) m) fun x30 m =>
  bp (unt (aStore 1 x30 (.int .i64 32) m)) fun _ m =>
  Qar G p1 p7 p0 m)
  (Qar G p1 p7 p0 m))
  (Qaq G p1 p7 p0 m)
def Qas (G : Gt) (p1 p8 p7 p0 : V) (m : M) : R :=
  bp (G.tab Qq [p1, (.string ⟨#[102,114,111,109]⟩)] m) fun x31 m =>
  Qlh G x31 p8 p7 p1 p0 m
def Qli (G : Gt) (p8 p1 p7 p0 : V) (m : M) : R :=
  brb p8
  (bp (pur (aFieldAddr 1 p7) m) fun x32 m =>
  bp (pur (aFieldAddr 1 x32) m) fun x33 m =>
  bp (pur (aLoad false 1 x33 m) m) fun x34 m =>
  bp (G.tab Qc [p1, x34, (.int .i64 32)] m) fun x35 m =>
  bp (pur (aFieldAddr 4 p7) m) fun x36 m =>
  bp (unt (aStore 1 x36 x35 m)) fun _ m =>
  Qas G p1 p8 p7 p0 m)
  (Qas G p1 p8 p7 p0 m)
def Qlj (G : Gt) (p1 p7 p0 : V) (m : M) : R :=
  bp (G.tab Qq [p1, (.string ⟨#[117,112,116,111]⟩)] m) fun x37 m =>
  Qli G x37 p1 p7 p0 m
def Qlk (G : Gt) (p7 p1 p0 : V) (m : M) : R :=
  bp (pur (aFieldAddr 1 p7) m) fun x38 m =>
  bp (pur (aFieldAddr 1 x38) m) fun x39 m =>
  bp (pur (aLoad false 1 x39 m) m) fun x40 m =>
  bp (pur (aFieldAddr 1 p7) m) fun x41 m =>
  bp (pur (aFieldAddr 1 x41) m) fun x42 m =>
  bp (pur (aLoad false 1 x42 m) m) fun x43 m =>
  bp (pur (aFieldAddr 3 p7) m) fun x44 m =>
  bp (unt (aStore 1 x44 x40 m)) fun _ m =>
  bp (pur (aFieldAddr 4 p7) m) fun x45 m =>
  bp (unt (aStore 1 x45 x43 m)) fun _ m =>
  Qlj G p1 p7 p0 m
def Qll (G : Gt) (p1 p0 : V) (m : M) : R :=
  bp (G.tab Q2u [p1] m) fun x46 m =>
  bp (pur (aBuild Qil [(0, 1), (1, 2), (3, 1), (4, 1)] [(1, x46)]) m) fun x47 m =>
  bp (some (aNew Qcm Qil m)) fun x48 m =>
  bp (unt (aStore 5 x48 x47 m)) fun _ m =>
  Qlk G x48 p1 p0 m
def Qcx (G : Gt) (p1 p0 : V) (m : M) : R :=
  Qll G p1 p0 m
theorem Q18g (G : Gt) (a0 a1 : V) (m : M) : evFn Tryz.prog G.tab G.rds (drOf Tryz.prog G.tab) Tryz.f124 [a0, a1] m = Qcx G a1 a0 m :=
  evFn_of (r := fun ρ m => Qcx G (ρ 1) (ρ 0) m) rfl rfl (tr (seqQ (f := fun ρ m => Qll G (ρ 1) (ρ 0) m) (tr (seqQ (f := fun ρ m => Qlk G (ρ 7) (ρ 1) (ρ 0) m) (tr (seqQ (f := fun ρ m => Qlj G (ρ 1) (ρ 7) (ρ 0) m) (tr (seqQ (f := fun ρ m => Qli G (ρ 8) (ρ 1) (ρ 7) (ρ 0) m) (tr (seqQ (f := fun ρ m => Qas G (ρ 1) (ρ 8) (ρ 7) (ρ 0) m) (tr (tr (seqQ (f := fun ρ m => Qaq G (ρ 1) (ρ 7) (ρ 0) m) (fun ρ m => by kernel_rfl)) (seqQ (f := fun ρ m => Qlh G (ρ 31) (ρ 8) (ρ 7) (ρ 1) (ρ 0) m) (tr (condQ (seqQ (f := fun ρ m => Qar G (ρ 1) (ρ 7) (ρ 0) m) (fun ρ m => by kernel_rfl)) (refQ)) (fun ρ m => by kernel_rfl)))) (fun ρ m => by kernel_rfl))) (fun ρ m => by kernel_rfl))) (fun ρ m => by kernel_rfl))) (fun ρ m => by kernel_rfl))) (fun ρ m => by kernel_rfl))) (fun ρ m => by kernel_rfl)) m
def Q18h : Entry Tryz.prog := ⟨Qp7, Tryz.f124, Tryz.func124, by kernel_rfl, arg2 (fun G a0 a1 m => Qcx G a1 a0 m), okarg2 Q18g⟩
def Qbx (G : Gt) (p0 p1 : V) (m : M) : R :=
  bp (pur (aNilCheck p0) m) fun x0 m =>
  bp (pur (aFieldAddr 0 x0) m) fun x1 m =>
  bp (pur (aFieldAddr 8 x1) m) fun x2 m =>
  bp (pur (aLoad false 1 x2 m) m) fun x3 m =>
  bp (pur (aNilCheck p0) m) fun x4 m =>
  bp (pur (aFieldAddr 0 x4) m) fun x5 m =>
  bp (pur (aFieldAddr 8 x5) m) fun x6 m =>
  bp (pur (aLoad false 1 x6 m) m) fun x7 m =>
  bp (pur (lenK 1 x7 m) m) fun x8 m =>
  bp (pur (bin .sub true true .int x8 (.int .i64 1)) m) fun x9 m =>
  bp (pur (aIndexAddrSl 2 x3 x9) m) fun x10 m =>
  bp (pur (aNilCheck x10) m) fun x11 m =>
  bp (pur (aFieldAddr 1 x11) m) fun x12 m =>
  bp (pur (aLoad false 1 x12 m) m) fun x13 m =>
  bp (aBuildSlice Q1 [(.string ⟨#[]⟩)] 1 2 [(0, (.string ⟨#[109,101,109,98,101,114,115]⟩)), (1, (.string ⟨#[114,101,106,101,99,116]⟩))] m) fun x14 m =>
  bp (G.tab Q8 [p1, x14] m) fun x15 m =>
  ckB (again (pur (aLoad false 1 x12 m) m) x13 && true)
  (bp (pur (bin .eql true true .int x15 (.int .i64 0)) m) fun x16 m =>
  bp (G.tab Qck [p1] m) fun x17 m =>
  ckB (again (pur (aLoad false 1 x12 m) m) x13 && true)
  (bp (pur (aBuild Qt9 [(0, 1), (1, 1)] [(0, x16), (1, x17)]) m) fun x18 m =>
  bp (aBuildSlice Qe8 Qt9 2 1 [(0, x18)] m) fun x19 m =>
  bp (apS Qe8 2 32 x13 x19 m) fun x20 m =>
  bp (pur (aNilCheck x10) m) fun x21 m =>
  bp (pur (aFieldAddr 1 x21) m) fun x22 m =>
  bp (unt (aStore 1 x22 x20 m)) fun _ m =>
  some (.tuple ⟨[(.bool false), (.string ⟨#[]⟩), .nilFunc]⟩, m)))
theorem Q15a (G : Gt) (a0 a1 : V) (m : M) : evFn Tryz.prog G.tab G.rds (drOf Tryz.prog G.tab) Tryz.f125 [a0, a1] m = Qbx G a0 a1 m :=
  evFn_of (r := fun ρ m => Qbx G (ρ 0) (ρ 1) m) rfl rfl (fun ρ m => by kernel_rfl) m
def Q15b : Entry Tryz.prog := ⟨Qmu, Tryz.f125, Tryz.func125, by kernel_rfl, arg2 (fun G a0 a1 m => Qbx G a0 a1 m), okarg2 Q15a⟩
def Q8l (G : Gt) (p0 p1 : V) (m : M) : R :=
  bp (pur (aNilCheck p0) m) fun x0 m =>
  bp (pur (aFieldAddr 0 x0) m) fun x1 m =>
  bp (pur (aFieldAddr 9 x1) m) fun x2 m =>
  bp (pur (aLoad false 1 x2 m) m) fun x3 m =>
  bp (pur (aNilCheck p0) m) fun x4 m =>
  bp (pur (aFieldAddr 0 x4) m) fun x5 m =>
  bp (pur (aFieldAddr 9 x5) m) fun x6 m =>
  bp (pur (aLoad false 1 x6 m) m) fun x7 m =>
  bp (pur (lenK 1 x7 m) m) fun x8 m =>
  bp (pur (bin .sub true true .int x8 (.int .i64 1)) m) fun x9 m =>
  bp (pur (aIndexAddrSl 3 x3 x9) m) fun x10 m =>
  bp (aBuildSlice Q1 [(.string ⟨#[]⟩)] 1 2 [(0, (.string ⟨#[100,101,102,97,117,108,116]⟩)), (1, (.string ⟨#[116,101,114,109]⟩))] m) fun x11 m =>
  bp (G.tab Q8 [p1, x11] m) fun x12 m =>
  bp (pur (bin .eql true true .int x12 (.int .i64 0)) m) fun x13 m =>
  brb x13
  (bp (aBuildSlice Q1 [(.string ⟨#[]⟩)] 1 2 [(0, (.string ⟨#[97,99,99,101,112,116]⟩)), (1, (.string ⟨#[114,101,106,101,99,116]⟩))] m) fun x14 m =>
  bp (G.tab Q8 [p1, x14] m) fun x15 m =>
  bp (pur (bin .eql true true .int x15 (.int .i64 0)) m) fun x16 m =>
  bp (pur (aNilCheck x10) m) fun x17 m =>
  bp (pur (aFieldAddr 2 x17) m) fun x18 m =>
  bp (unt (aStore 1 x18 x16 m)) fun _ m =>
  some (.tuple ⟨[(.bool false), (.string ⟨#[100,101,102,97,117,108,116]⟩), .nilFunc]⟩, m))
  (bp (G.tab Q7 [p1] m) fun x19 m =>
  bp (pur (aNilCheck x10) m) fun x20 m =>
  bp (pur (aFieldAddr 1 x20) m) fun x21 m =>
  bp (pur (aLoad false 1 x21 m) m) fun x22 m =>
  bp (pur (aNilCheck x10) m) fun x23 m =>
  bp (pur (aFieldAddr 1 x23) m) fun x24 m =>
  bp (pur (aLoad false 1 x24 m) m) fun x25 m =>
  bp (pur (lenK 1 x25 m) m) fun x26 m =>
  bp (pur (bin .add true true .int x26 (.int .i64 1)) m) fun x27 m =>
  bp (pur (bin .mul true true .int (.int .i64 10) x27) m) fun x28 m =>
  bp (pur (aBuild Qe9 [(0, 1), (1, 1), (2, 1), (3, 1), (4, 1), (5, 1), (6, 1), (7, 1), (8, 1), (9, 1), (10, 1), (11, 1), (12, 1), (13, 1), (14, 1)] [(0, x28), (1, (.int .u8 2)), (4, (.int .i64 (-1))), (5, (.int .i64 (-1))), (6, (.int .i64 (-1))), (7, (.int .i64 (-1))), (8, (.int .i64 (-1))), (9, (.int .i64 (-1)))]) m) fun x29 m =>
  bp (aBuildSlice Qai Qe9 15 1 [(0, x29)] m) fun x30 m =>
  bp (apS Qai 15 168 x22 x30 m) fun x31 m =>
  bp (pur (aNilCheck x10) m) fun x32 m =>
  bp (pur (aFieldAddr 1 x32) m) fun x33 m =>
  bp (unt (aStore 1 x33 x31 m)) fun _ m =>
  bp (G.tab Qj [p0, (.func (.func Qrl) ⟨[p0]⟩ ⟨[]⟩)] m) fun x34 m =>
  some (.tuple ⟨[(.bool true), (.string ⟨#[]⟩), x34]⟩, m))
theorem Qzy (G : Gt) (a0 a1 : V) (m : M) : evFn Tryz.prog G.tab G.rds (drOf Tryz.prog G.tab) Tryz.f126 [a0, a1] m = Q8l G a0 a1 m :=
  evFn_of (r := fun ρ m => Q8l G (ρ 0) (ρ 1) m) rfl rfl (fun ρ m => by kernel_rfl) m
def Qzz : Entry Tryz.prog := ⟨Qi0, Tryz.f126, Tryz.func126, by kernel_rfl, arg2 (fun G a0 a1 m => Q8l G a0 a1 m), okarg2 Qzy⟩
def Qf6 (G : Gt) (p0 p1 : V) (m : M) : R :=
  bp (pur (aNilCheck p0) m) fun x0 m =>
  bp (pur (aFieldAddr 0 x0) m) fun x1 m =>
  bp (pur (aFieldAddr 10 x1) m) fun x2 m =>
  bp (pur (aLoad false 1 x2 m) m) fun x3 m =>
  bp (pur (aNilCheck p0) m) fun x4 m =>
  bp (pur (aFieldAddr 0 x4) m) fun x5 m =>
  bp (pur (aFieldAddr 10 x5) m) fun x6 m =>
  bp (pur (aLoad false 1 x6 m) m) fun x7 m =>
  bp (pur (lenK 1 x7 m) m) fun x8 m =>
  bp (pur (bin .sub true true .int x8 (.int .i64 1)) m) fun x9 m =>
  bp (pur (aIndexAddrSl 3 x3 x9) m) fun x10 m =>
  bp (aBuildSlice Q1 [(.string ⟨#[]⟩)] 1 2 [(0, (.string ⟨#[114,111,117,116,101,114,45,105,100]⟩)), (1, (.string ⟨#[101,120,112,111,114,116]⟩))] m) fun x11 m =>
  bp (G.tab Q8 [p1, x11] m) fun x12 m =>
  bp (pur (bin .eql true true .int x12 (.int .i64 0)) m) fun x13 m =>
  brb x13
  (bp (G.tab Q3i [p1] m) fun x14 m =>
  bp (pur (aNilCheck x10) m) fun x15 m =>
  bp (pur (aFieldAddr 1 x15) m) fun x16 m =>
  bp (unt (aStore 1 x16 x14 m)) fun _ m =>
  some (.tuple ⟨[(.bool false), (.string ⟨#[114,111,117,116,101,114,45,105,100]⟩), .nilFunc]⟩, m))
  (bp (pur (aNilCheck x10) m) fun x17 m =>
  bp (pur (aFieldAddr 2 x17) m) fun x18 m =>
  bp (pur (aLoad false 1 x18 m) m) fun x19 m =>
  bp (G.tab Qbi [p1, (.string ⟨#[98,103,112]⟩), (.int .u8 8), (.int .u8 2)] m) fun x20 m =>
  ckB (again (pur (aLoad false 1 x18 m) m) x19 && true)
  (bp (aBuildSlice Q4m Q60 4 1 [(0, x20)] m) fun x21 m =>
  bp (apS Q4m 4 40 x19 x21 m) fun x22 m =>
  bp (pur (aNilCheck x10) m) fun x23 m =>
  bp (pur (aFieldAddr 2 x23) m) fun x24 m =>
  bp (unt (aStore 1 x24 x22 m)) fun _ m =>
  some (.tuple ⟨[(.bool false), (.string ⟨#[]⟩), .nilFunc]⟩, m)))
theorem Q1as (G : Gt) (a0 a1 : V) (m : M) : evFn Tryz.prog G.tab G.rds (drOf Tryz.prog G.tab) Tryz.f127 [a0, a1] m = Qf6 G a0 a1 m :=
  evFn_of (r := fun ρ m => Qf6 G (ρ 0) (ρ 1) m) rfl rfl (fun ρ m => by kernel_rfl) m
def Q1at : Entry Tryz.prog := ⟨Qri, Tryz.f127, Tryz.func127, by kernel_rfl, arg2 (fun G a0 a1 m => Qf6 G a0 a1 m), okarg2 Q1as⟩
end
end Go.Ab.Sh

set_option linter.unusedVariables false
set_option maxRecDepth 100000
namespace Go.Ab.Sh
open Go Go.Ab Go.Proofs
noncomputable section
def Q3c (G : Gt) (p8 : V) (m : M) : R :=
  some (.tuple ⟨[(.bool false), p8, .nilFunc]⟩, m)
def Qps (G : Gt) (p8 p7 p1 p0 : V) (m : M) : R :=
  bp (pur (bin .eql true true .str p8 (.string ⟨#[114,111,117,116,101,114,45,105,100]⟩)) m) fun x0 m =>
  brb x0
  (bp (G.tab Q3i [p1] m) fun x1 m =>
  bp (pur (aNilCheck p7) m) fun x2 m =>
  bp (pur (aFieldAddr 2 x2) m) fun x3 m =>
  bp (unt (aStore 1 x3 x1 m)) fun _ m =>
  Q3c G p8 m)
  (bp (pur (bin .eql true true .str p8 (.string ⟨#[108,111,99,97,108,45,97,115]⟩)) m) fun x4 m =>
  brb x4
  (bp (G.tab Q6o [p1] m) fun x5 m =>
  bp (pur (aNilCheck p7) m) fun x6 m =>
  bp (pur (aFieldAddr 1 x6) m) fun x7 m =>
  bp (unt (aStore 1 x7 x5 m)) fun _ m =>
  Q3c G p8 m)
  (bp (pur (bin .eql true true .str p8 (.string ⟨#[110,101,116,119,111,114,107]⟩)) m) fun x8 m =>
  brb x8
  (bp (pur (aNilCheck p7) m) fun x9 m =>
  bp (pur (aFieldAddr 3 x9) m) fun x10 m =>
  bp (pur (aLoad false 1 x10 m) m) fun x11 m =>
  bp (G.tab Q2u [p1] m) fun x12 m =>
  ckB (again (pur (aLoad false 1 x10 m) m) x11 && true)
  (bp (aBuildSlice Q3o Q4n 2 1 [(0, x12)] m) fun x13 m =>
  bp (apS Q3o 2 16 x11 x13 m) fun x14 m =>
  bp (pur (aNilCheck p7) m) fun x15 m =>
  bp (pur (aFieldAddr 3 x15) m) fun x16 m =>
  bp (unt (aStore 1 x16 x14 m)) fun _ m =>
  Q3c G (.string ⟨#[]⟩) m))
  (bp (pur (bin .eql true true .str p8 (.string ⟨#[110,101,105,103,104,98,111,114]⟩)) m) fun x17 m =>
  brb x17
  (bp (pur (aNilCheck p7) m) fun x18 m =>
  bp (pur (aFieldAddr 4 x18) m) fun x19 m =>
  bp (pur (aLoad false 1 x19 m) m) fun x20 m =>
  bp (G.tab Q3i [p1] m) fun x21 m =>
  ckB (again (pur (aLoad false 1 x19 m) m) x20 && true)
  (bp (pur (aBuild Qta [(0, 1), (1, 1), (2, 1), (3, 1), (4, 1), (5, 1)] [(0, x21)]) m) fun x22 m =>
  bp (aBuildSlice Qt6 Qta 6 1 [(0, x22)] m) fun x23 m =>
  bp (apS Qt6 6 48 x20 x23 m) fun x24 m =>
  bp (pur (aNilCheck p7) m) fun x25 m =>
  bp (pur (aFieldAddr 4 x25) m) fun x26 m =>
  bp (unt (aStore 1 x26 x24 m)) fun _ m =>
  bp (G.tab Qj [p0, (.func (.func Qrm) ⟨[p0]⟩ ⟨[]⟩)] m) fun x27 m =>
  some (.tuple ⟨[(.bool true), (.string ⟨#[]⟩), x27]⟩, m)))
  (bp (pur (bin .eql true true .str p8 (.string ⟨#[101,120,112,111,114,116]⟩)) m) fun x28 m =>
  brb x28
  (bp (pur (aNilCheck p7) m) fun x29 m =>
  bp (pur (aFieldAddr 5 x29) m) fun x30 m =>
  bp (pur (aLoad false 1 x30 m) m) fun x31 m =>
  bp (G.tab Qbi [p1, (.string ⟨#[111,115,112,102]⟩), (.int .u8 4), (.int .u8 0)] m) fun x32 m =>
  ckB (again (pur (aLoad false 1 x30 m) m) x31 && true)
  (bp (aBuildSlice Q4m Q60 4 1 [(0, x32)] m) fun x33 m =>
  bp (apS Q4m 4 40 x31 x33 m) fun x34 m =>
  bp (pur (aNilCheck p7) m) fun x35 m =>
  bp (pur (aFieldAddr 5 x35) m) fun x36 m =>
  bp (unt (aStore 1 x36 x34 m)) fun _ m =>
  Q3c G (.string ⟨#[]⟩) m))
  (bp (G.tab Qe [p1, (.int .i64 130)] m) fun x37 m =>
  Q3c G p8 m)))))
def Qpt (G : Gt) (p1 p7 p0 : V) (m : M) : R :=
  bp (G.tab Qi [p1] m) fun x38 m =>
  Qps G x38 p7 p1 p0 m
def Qpu (G : Gt) (p0 p1 : V) (m : M) : R :=
  bp (pur (aNilCheck p0) m) fun x39 m =>
  bp (pur (aFieldAddr 0 x39) m) fun x40 m =>
  bp (pur (aFieldAddr 11 x40) m) fun x41 m =>
  bp (pur (aLoad false 1 x41 m) m) fun x42 m =>
  bp (pur (aNilCheck p0) m) fun x43 m =>
  bp (pur (aFieldAddr 0 x43) m) fun x44 m =>
  bp (pur (aFieldAddr 11 x44) m) fun x45 m =>
  bp (pur (aLoad false 1 x45 m) m) fun x46 m =>
  bp (pur (lenK 1 x46 m) m) fun x47 m =>
  bp (pur (bin .sub true true .int x47 (.int .i64 1)) m) fun x48 m =>
  bp (pur (aIndexAddrSl 6 x42 x48) m) fun x49 m =>
  Qpt G p1 x49 p0 m
def Qhj (G : Gt) (p0 p1 : V) (m : M) : R :=
  Qpu G p0 p1 m
theorem Q1cu (G : Gt) (a0 a1 : V) (m : M) : evFn Tryz.prog G.tab G.rds (drOf Tryz.prog G.tab) Tryz.f128 [a0, a1] m = Qhj G a0 a1 m :=
  evFn_of (r := fun ρ m => Qhj G (ρ 0) (ρ 1) m) rfl rfl (tr (seqQ (f := fun ρ m => Qpu G (ρ 0) (ρ 1) m) (tr (seqQ (f := fun ρ m => Qpt G (ρ 1) (ρ 7) (ρ 0) m) (tr (seqQ (f := fun ρ m => Qps G (ρ 8) (ρ 7) (ρ 1) (ρ 0) m) (tr (seqQ (f := fun ρ m => Q3c G (ρ 8) m) (fun ρ m => by kernel_rfl)) (fun ρ m => by kernel_rfl))) (fun ρ m => by kernel_rfl))) (fun ρ m => by kernel_rfl))) (fun ρ m => by kernel_rfl)) m
def Q1cv : Entry Tryz.prog := ⟨Qt1, Tryz.f128, Tryz.func128, by kernel_rfl, arg2 (fun G a0 a1 m => Qhj G a0 a1 m), okarg2 Q1cu⟩
def Qf7 (G : Gt) (p0 : V) (m : M) : R :=
  bp (G.tab Q2i [p0] m) fun x0 m =>
  bp (pur (un .not x0) m) fun x1 m =>
  brb x1
  (bp (G.tab Q4j [p0] m) fun x2 m =>
  bp (G.tab Q58 [p0, x2, (.int .i64 130)] m) fun x3 m =>
  some ((.string ⟨#[]⟩), m))
  (bp (pur (aNilCheck p0) m) fun x4 m =>
  bp (pur (aFieldAddr 4 x4) m) fun x5 m =>
  bp (pur (aLoad false 1 x5 m) m) fun x6 m =>
  bp (pur (bin .add true true .int x6 (.int .i64 1)) m) fun x7 m =>
  bp (pur (aNilCheck p0) m) fun x8 m =>
  bp (pur (aFieldAddr 4 x8) m) fun x9 m =>
  bp (unt (aStore 1 x9 x7 m)) fun _ m =>
  bp (pur (aNilCheck p0) m) fun x10 m =>
  bp (pur (aFieldAddr 0 x10) m) fun x11 m =>
  bp (pur (aFieldAddr 0 x11) m) fun x12 m =>
  bp (pur (aLoad false 1 x12 m) m) fun x13 m =>
  bp (pur (aNilCheck p0) m) fun x14 m =>
  bp (pur (aFieldAddr 4 x14) m) fun x15 m =>
  bp (pur (aLoad false 1 x15 m) m) fun x16 m =>
  bp (pur (bin .sub true true .int x16 (.int .i64 1)) m) fun x17 m =>
  bp (pur (aIndexAddrSl 1 x13 x17) m) fun x18 m =>
  bp (pur (aLoad false 1 x18 m) m) fun x19 m =>
  some (x19, m))
theorem Q1au (G : Gt) (a0 : V) (m : M) : evFn Tryz.prog G.tab G.rds (drOf Tryz.prog G.tab) Tryz.f129 [a0] m = Qf7 G a0 m :=
  evFn_of (r := fun ρ m => Qf7 G (ρ 0) m) rfl rfl (fun ρ m => by kernel_rfl) m
def Q1av : Entry Tryz.prog := ⟨Qi, Tryz.f129, Tryz.func129, by kernel_rfl, arg1 (fun G a0 m => Qf7 G a0 m), okarg1 Q1au⟩
def Q9g (G : Gt) (p1 p0 p2 : V) (m : M) : R :=
  bp (pur (aLoad false 1 p1 m) m) fun x0 m =>
  bp (pur (aLoad false 1 p2 m) m) fun x1 m =>
  bp (G.tab Q81 [x0, p0, x1] m) fun x2 m =>
  some (.tuple ⟨[]⟩, m)
theorem Q11x (G : Gt) (a0 a1 a2 : V) (m : M) : evFn Tryz.prog G.tab G.rds (drOf Tryz.prog G.tab) Tryz.f130 [a0, a1, a2] m = Q9g G a1 a0 a2 m :=
  evFn_of (r := fun ρ m => Q9g G (ρ 1) (ρ 0) (ρ 2) m) rfl rfl (fun ρ m => by kernel_rfl) m
def Q11y : Entry Tryz.prog := ⟨Qji, Tryz.f130, Tryz.func130, by kernel_rfl, arg3 (fun G a0 a1 a2 m => Q9g G a1 a0 a2 m), okarg3 Q11x⟩
def Qlm (G : Gt) (p0 p1 : V) (m : M) : R :=
  bp (G.tab Qje [p0, p1] m) fun x0 m =>
  bp (pur (bin .geq true true .int x0 (.int .i64 0)) m) fun x1 m =>
  some (x1, m)
theorem Q1g1 (G : Gt) (a0 a1 : V) (m : M) : evFn Tryz.prog G.tab G.rds (drOf Tryz.prog G.tab) Tryz.f131 [a0, a1] m = Qlm G a0 a1 m :=
  evFn_of (r := fun ρ m => Qlm G (ρ 0) (ρ 1) m) rfl rfl (fun ρ m => by kernel_rfl) m
def Q1g2 : Entry Tryz.prog := ⟨Qc8, Tryz.f131, Tryz.func131, by kernel_rfl, arg2 (fun G a0 a1 m => Qlm G a0 a1 m), okarg2 Q1g1⟩
def Qxn (G : Gt) (p0 : V) (m : M) : R :=
  bp (some (aNew Ql (Value.cells p0).toList m)) fun x0 m =>
  bp (some (aNew Q7m Q135 m)) fun x1 m =>
  bp (pur (aFieldAddr 2 x0) m) fun x2 m =>
  bp (pur (aLoad false 1 x2 m) m) fun x3 m =>
  bp (pur (aFieldAddr 4 x0) m) fun x4 m =>
  bp (pur (aLoad false 1 x4 m) m) fun x5 m =>
  bp (pur (aFieldAddr 7 x0) m) fun x6 m =>
  bp (pur (aLoad false 1 x6 m) m) fun x7 m =>
  bp (pur (aFieldAddr 8 x0) m) fun x8 m =>
  bp (pur (aLoad false 1 x8 m) m) fun x9 m =>
  bp (pur (aFieldAddr 9 x0) m) fun x10 m =>
  bp (pur (aLoad false 1 x10 m) m) fun x11 m =>
  bp (G.tab Qrn [x3, (.func (.func Qxa) #[] #[])] m) fun x12 m =>
  ckB (again (pur (aLoad false 1 x4 m) m) x5 && (again (pur (aLoad false 1 x6 m) m) x7 && (again (pur (aLoad false 1 x8 m) m) x9 && (again (pur (aLoad false 1 x10 m) m) x11 && true))))
  (bp (G.tab Qjm [x5, (.func (.func Qqd) #[] #[])] m) fun x13 m =>
  ckB (again (pur (aLoad false 1 x6 m) m) x7 && (again (pur (aLoad false 1 x8 m) m) x9 && (again (pur (aLoad false 1 x10 m) m) x11 && true)))
  (bp (G.tab Qda [x7, (.func (.func Qki) #[] #[])] m) fun x14 m =>
  ckB (again (pur (aLoad false 1 x8 m) m) x9 && (again (pur (aLoad false 1 x10 m) m) x11 && true))
  (bp (G.tab Qag [x9, (.func (.func Qit) #[] #[])] m) fun x15 m =>
  ckB (again (pur (aLoad false 1 x10 m) m) x11 && true)
  (bp (G.tab Qjn [x11, (.func (.func Qqe) #[] #[])] m) fun x16 m =>
  bp (pur (aBuild Q135 [(0, 1), (1, 1), (2, 1), (3, 1), (4, 1)] [(0, x12), (1, x13), (2, x14), (3, x15), (4, x16)]) m) fun x17 m =>
  bp (unt (aStore 5 x1 x17 m)) fun _ m =>
  ob (ob (aLoad true 5 x1 m) fun v => ob (some []) fun l => some (v :: l)) fun l => some (resVal l, m)))))
theorem Q1kb (G : Gt) (a0 : V) (m : M) : evFn Tryz.prog G.tab G.rds (drOf Tryz.prog G.tab) Tryz.f132 [a0] m = Qxn G a0 m :=
  evFn_of (r := fun ρ m => Qxn G (ρ 0) m) rfl rfl (fun ρ m => by kernel_rfl) m
def Q1kc : Entry Tryz.prog := ⟨Q19o, Tryz.f132, Tryz.func132, by kernel_rfl, arg1 (fun G a0 m => Qxn G a0 m), okarg1 Q1kb⟩
def Qjb (G : Gt) (p3 : V) (m : M) : R :=
  some (p3, m)
def Qwk (G : Gt) (p1 p0 : V) (m : M) : R :=
  bp (pur (aFieldAddr 2 p1) m) fun x0 m =>
  bp (pur (aLoad false 1 x0 m) m) fun x1 m =>
  bp (pur (aIndexAddrSl 1 x1 p0) m) fun x2 m =>
  bp (pur (aLoad false 1 x2 m) m) fun x3 m =>
  bp (G.tab Q7k [x3] m) fun x4 m =>
  brb x4
  (bp (pur (aFieldAddr 2 p1) m) fun x5 m =>
  bp (pur (aLoad false 1 x5 m) m) fun x6 m =>
  bp (G.tab Qrj [x6, p0, (.func (.func Qxa) #[] #[])] m) fun x7 m =>
  bp (G.tab Qf [x7, (.bool true)] m) fun x8 m =>
  Qjb G x8 m)
  (bp (G.tab Qf [(.bool false), (.bool true)] m) fun x9 m =>
  Qjb G x9 m)
def Qof (G : Gt) (p1 p0 : V) (m : M) : R :=
  Qwk G p1 p0 m
theorem Q1hb (G : Gt) (a0 a1 : V) (m : M) : evFn Tryz.prog G.tab G.rds (drOf Tryz.prog G.tab) Tryz.f133 [a0, a1] m = Qof G a1 a0 m :=
  evFn_of (r := fun ρ m => Qof G (ρ 1) (ρ 0) m) rfl rfl (tr (seqQ (f := fun ρ m => Qwk G (ρ 1) (ρ 0) m) (tr (seqQ (f := fun ρ m => Qjb G (ρ 3) m) (fun ρ m => by kernel_rfl)) (fun ρ m => by kernel_rfl))) (fun ρ m => by kernel_rfl)) m
def Q1hc : Entry Tryz.prog := ⟨Q10s, Tryz.f133, Tryz.func133, by kernel_rfl, arg2 (fun G a0 a1 m => Qof G a1 a0 m), okarg2 Q1hb⟩
def Q100 (G : Gt) (p0 p1 : V) (m : M) : R :=
  bp (pur (un .not p0) m) fun x0 m =>
  brb x0
  (some ((.int .i64 1), m))
  (bp (pur (un .not p1) m) fun x1 m =>
  brb x1
  (some ((.int .i64 2), m))
  (some ((.int .i64 0), m)))
theorem Q1lk (G : Gt) (a0 a1 : V) (m : M) : evFn Tryz.prog G.tab G.rds (drOf Tryz.prog G.tab) Tryz.f134 [a0, a1] m = Q100 G a0 a1 m :=
  evFn_of (r := fun ρ m => Q100 G (ρ 0) (ρ 1) m) rfl rfl (fun ρ m => by kernel_rfl) m
def Q1ll : Entry Tryz.prog := ⟨Qf, Tryz.f134, Tryz.func134, by kernel_rfl, arg2 (fun G a0 a1 m => Q100 G a0 a1 m), okarg2 Q1lk⟩
def Qf8 (G : Gt) (p0 p1 p2 : V) (m : M) : R :=
  bp (some (aNew Q1p9 (Value.cells p0).toList m)) fun x0 m =>
  bp (some (aNew Q2h (Value.cells p1).toList m)) fun x1 m =>
  bp (some (aNew Q1eg (Value.cells p2).toList m)) fun x2 m =>
  bp (pur (aLoad false 1 x0 m) m) fun x3 m =>
  bp (pur (aLoad false 1 x1 m) m) fun x4 m =>
  bp (G.tab Q83 [x3, (.func (.func Qmw) ⟨[]⟩ ⟨[x2, x0, x1]⟩)] m) fun x5 m =>
  ckB (again (pur (aLoad false 1 x1 m) m) x4 && true)
  (bp (pur (bin .eql false true .int x5 x4) m) fun x6 m =>
  some (x6, m))
theorem Q1aw (G : Gt) (a0 a1 a2 : V) (m : M) : evFn Tryz.prog G.tab G.rds (drOf Tryz.prog G.tab) Tryz.f135 [a0, a1, a2] m = Qf8 G a0 a1 a2 m :=
  evFn_of (r := fun ρ m => Qf8 G (ρ 0) (ρ 1) (ρ 2) m) rfl rfl (fun ρ m => by kernel_rfl) m
def Q1ax : Entry Tryz.prog := ⟨Qrj, Tryz.f135, Tryz.func135, by kernel_rfl, arg3 (fun G a0 a1 a2 m => Qf8 G a0 a1 a2 m), okarg3 Q1aw⟩
def Qxo (G : Gt) (p0 : V) (m : M) : R :=
  some (p0, m)
theorem Q1kd (G : Gt) (a0 : V) (m : M) : evFn Tryz.prog G.tab G.rds (drOf Tryz.prog G.tab) Tryz.f136 [a0] m = Qxo G a0 m :=
  evFn_of (r := fun ρ m => Qxo G (ρ 0) m) rfl rfl (fun ρ m => by kernel_rfl) m
def Q1ke : Entry Tryz.prog := ⟨Qxa, Tryz.f136, Tryz.func136, by kernel_rfl, arg1 (fun G a0 m => Qxo G a0 m), okarg1 Q1kd⟩
def Qog (G : Gt) (p1 p2 p0 : V) (m : M) : R :=
  bp (pur (aLoad true 5 p1 m) m) fun x0 m =>
  bp (pur (aLoad true 12 p2 m) m) fun x1 m =>
  bp (G.tab Qy9 [x0, x1, p0] m) fun x2 m =>
  some (x2, m)
theorem Q1hd (G : Gt) (a0 a1 a2 : V) (m : M) : evFn Tryz.prog G.tab G.rds (drOf Tryz.prog G.tab) Tryz.f137 [a0, a1, a2] m = Qog G a1 a2 a0 m :=
  evFn_of (r := fun ρ m => Qog G (ρ 1) (ρ 2) (ρ 0) m) rfl rfl (fun ρ m => by kernel_rfl) m
def Q1he : Entry Tryz.prog := ⟨Q10t, Tryz.f137, Tryz.func137, by kernel_rfl, arg3 (fun G a0 a1 a2 m => Qog G a1 a2 a0 m), okarg3 Q1hd⟩
def Q9h (G : Gt) (p6 : V) (m : M) : R :=
  some (p6, m)
def Q2y (G : Gt) (p9 p3 p7 : V) (m : M) : R :=
  bp (pur (aFieldAddr 0 p3) m) fun x0 m =>
  bp (pur (aLoad false 1 x0 m) m) fun x1 m =>
  bp (pur (aFieldAddr 1 p7) m) fun x2 m =>
  bp (pur (aLoad false 1 x2 m) m) fun x3 m =>
  bp (G.tab Q1k [x1, x3] m) fun x4 m =>
  brb x4
  (bp (pur (aFieldAddr 1 p3) m) fun x5 m =>
  bp (pur (aLoad false 1 x5 m) m) fun x6 m =>
  bp (pur (aFieldAddr 5 p7) m) fun x7 m =>
  bp (pur (aLoad false 1 x7 m) m) fun x8 m =>
  bp (G.tab Q1k [x6, x8] m) fun x9 m =>
  brb x9
  (bp (pur (aFieldAddr 1 p3) m) fun x10 m =>
  bp (pur (aLoad false 1 x10 m) m) fun x11 m =>
  bp (pur (aFieldAddr 6 p7) m) fun x12 m =>
  bp (pur (aLoad false 1 x12 m) m) fun x13 m =>
  bp (G.tab Q1k [x11, x13] m) fun x14 m =>
  bp (G.tab Qf [p9, x14] m) fun x15 m =>
  Q9h G x15 m)
  (bp (G.tab Qf [p9, (.bool false)] m) fun x16 m =>
  Q9h G x16 m))
  (bp (G.tab Qf [p9, (.bool false)] m) fun x17 m =>
  Q9h G x17 m)
def Q3u (G : Gt) (p7 p4 p2 p8 p3 : V) (m : M) : R :=
  bp (pur (aFieldAddr 0 p7) m) fun x18 m =>
  bp (pur (aLoad false 1 x18 m) m) fun x19 m =>
  bp (G.tab Q7k [x19] m) fun x20 m =>
  brb x20
  (bp (pur (aFieldAddr 3 p4) m) fun x21 m =>
  bp (pur (aLoad false 1 x21 m) m) fun x22 m =>
  bp (G.tab Qkj [x22, p2, (.func (.func Q15s) #[] #[])] m) fun x23 m =>
  brb x23
  (brb p8
  (bp (pur (aFieldAddr 7 p7) m) fun x24 m =>
  bp (pur (aLoad false 1 x24 m) m) fun x25 m =>
  bp (pur (bin .leq true true .int x25 (.int .u8 2)) m) fun x26 m =>
  brb x26
  (bp (pur (aFieldAddr 8 p7) m) fun x27 m =>
  bp (pur (aLoad false 1 x27 m) m) fun x28 m =>
  bp (G.tab Q1q [x28, (.int .i64 (-1)), (.int .i64 16777216)] m) fun x29 m =>
  brb x29
  (bp (pur (aFieldAddr 9 p7) m) fun x30 m =>
  bp (pur (aLoad false 1 x30 m) m) fun x31 m =>
  bp (G.tab Q1q [x31, (.int .i64 1), (.int .i64 65535)] m) fun x32 m =>
  Q2y G x32 p3 p7 m)
  (Q2y G (.bool false) p3 p7 m))
  (Q2y G (.bool false) p3 p7 m))
  (Q2y G (.bool false) p3 p7 m))
  (Q2y G (.bool false) p3 p7 m))
  (Q2y G (.bool false) p3 p7 m)
def Qus (G : Gt) (p7 p4 p2 p3 : V) (m : M) : R :=
  bp (pur (aFieldAddr 2 p7) m) fun x33 m =>
  bp (pur (aLoad false 1 x33 m) m) fun x34 m =>
  bp (pur (bin .eql true true .int x34 (.int .u32 0)) m) fun x35 m =>
  brb x35
  (bp (pur (aFieldAddr 3 p7) m) fun x36 m =>
  bp (pur (aLoad false 1 x36 m) m) fun x37 m =>
  bp (pur (bin .eql true true .int x37 (.int .i64 0)) m) fun x38 m =>
  brb x38
  (Q3u G p7 p4 p2 (.bool true) p3 m)
  (bp (pur (aFieldAddr 2 p7) m) fun x39 m =>
  bp (pur (aLoad false 1 x39 m) m) fun x40 m =>
  bp (pur (bin .neq true true .int x40 (.int .u32 0)) m) fun x41 m =>
  brb x41
  (bp (pur (aFieldAddr 3 p7) m) fun x42 m =>
  bp (pur (aLoad false 1 x42 m) m) fun x43 m =>
  bp (G.tab Q1q [x43, (.int .i64 1), (.int .i64 32)] m) fun x44 m =>
  Q3u G p7 p4 p2 x44 p3 m)
  (Q3u G p7 p4 p2 (.bool false) p3 m)))
  (bp (pur (aFieldAddr 2 p7) m) fun x45 m =>
  bp (pur (aLoad false 1 x45 m) m) fun x46 m =>
  bp (pur (bin .neq true true .int x46 (.int .u32 0)) m) fun x47 m =>
  brb x47
  (bp (pur (aFieldAddr 3 p7) m) fun x48 m =>
  bp (pur (aLoad false 1 x48 m) m) fun x49 m =>
  bp (G.tab Q1q [x49, (.int .i64 1), (.int .i64 32)] m) fun x50 m =>
  Q3u G p7 p4 p2 x50 p3 m)
  (Q3u G p7 p4 p2 (.bool false) p3 m))
def Qut (G : Gt) (p4 p2 p3 : V) (m : M) : R :=
  bp (pur (aFieldAddr 3 p4) m) fun x51 m =>
  bp (pur (aLoad false 1 x51 m) m) fun x52 m =>
  bp (pur (aIndexAddrSl 11 x52 p2) m) fun x53 m =>
  bp (pur (aLoad true 11 x53 m) m) fun x54 m =>
  bp (some (aNew Q9v Qik m)) fun x55 m =>
  bp (unt (aStore 11 x55 x54 m)) fun _ m =>
  Qus G x55 p4 p2 p3 m
def Qln (G : Gt) (p0 p1 p2 : V) (m : M) : R :=
  bp (some (aNew Q7m (Value.cells p0).toList m)) fun x56 m =>
  bp (some (aNew Ql (Value.cells p1).toList m)) fun x57 m =>
  Qut G x57 p2 x56 m
theorem Q1g3 (G : Gt) (a0 a1 a2 : V) (m : M) : evFn Tryz.prog G.tab G.rds (drOf Tryz.prog G.tab) Tryz.f138 [a0, a1, a2] m = Qln G a0 a1 a2 m :=
  evFn_of (r := fun ρ m => Qln G (ρ 0) (ρ 1) (ρ 2) m) rfl rfl (tr (seqQ (f := fun ρ m => Qut G (ρ 4) (ρ 2) (ρ 3) m) (tr (seqQ (f := fun ρ m => Qus G (ρ 7) (ρ 4) (ρ 2) (ρ 3) m) (tr (seqQ (f := fun ρ m => Q3u G (ρ 7) (ρ 4) (ρ 2) (ρ 8) (ρ 3) m) (tr (seqQ (f := fun ρ m => Q2y G (ρ 9) (ρ 3) (ρ 7) m) (tr (seqQ (f := fun ρ m => Q9h G (ρ 6) m) (fun ρ m => by kernel_rfl)) (fun ρ m => by kernel_rfl))) (fun ρ m => by kernel_rfl))) (fun ρ m => by kernel_rfl))) (fun ρ m => by kernel_rfl))) (fun ρ m => by kernel_rfl)) m
def Q1g4 : Entry Tryz.prog := ⟨Qy9, Tryz.f138, Tryz.func138, by kernel_rfl, arg3 (fun G a0 a1 a2 m => Qln G a0 a1 a2 m), okarg3 Q1g3⟩
def Qb7 (G : Gt) (p3 : V) (m : M) : R :=
  some (p3, m)
def Qwl (G : Gt) (p1 p0 : V) (m : M) : R :=
  bp (pur (aFieldAddr 4 p1) m) fun x0 m =>
  bp (pur (aLoad false 1 x0 m) m) fun x1 m =>
  bp (pur (aIndexAddrSl 2 x1 p0) m) fun x2 m =>
  bp (pur (aFieldAddr 0 x2) m) fun x3 m =>
  bp (pur (aLoad false 1 x3 m) m) fun x4 m =>
  bp (G.tab Q7k [x4] m) fun x5 m =>
  brb x5
  (bp (pur (aFieldAddr 4 p1) m) fun x6 m =>
  bp (pur (aLoad false 1 x6 m) m) fun x7 m =>
  bp (G.tab Qjj [x7, p0, (.func (.func Qqd) #[] #[])] m) fun x8 m =>
  brb x8
  (bp (pur (aFieldAddr 4 p1) m) fun x9 m =>
  bp (pur (aLoad false 1 x9 m) m) fun x10 m =>
  bp (pur (aIndexAddrSl 2 x10 p0) m) fun x11 m =>
  bp (pur (aLoad true 2 x11 m) m) fun x12 m =>
  bp (G.tab Q19p [x12] m) fun x13 m =>
  bp (pur (bin .eql true true .int x13 (.int .i64 0)) m) fun x14 m =>
  bp (G.tab Qf [x14, (.bool true)] m) fun x15 m =>
  Qb7 G x15 m)
  (bp (G.tab Qf [(.bool false), (.bool true)] m) fun x16 m =>
  Qb7 G x16 m))
  (bp (G.tab Qf [(.bool false), (.bool true)] m) fun x17 m =>
  Qb7 G x17 m)
def Qoh (G : Gt) (p1 p0 : V) (m : M) : R :=
  Qwl G p1 p0 m
theorem Q1hf (G : Gt) (a0 a1 : V) (m : M) : evFn Tryz.prog G.tab G.rds (drOf Tryz.prog G.tab) Tryz.f139 [a0, a1] m = Qoh G a1 a0 m :=
  evFn_of (r := fun ρ m => Qoh G (ρ 1) (ρ 0) m) rfl rfl (tr (seqQ (f := fun ρ m => Qwl G (ρ 1) (ρ 0) m) (tr (seqQ (f := fun ρ m => Qb7 G (ρ 3) m) (fun ρ m => by kernel_rfl)) (fun ρ m => by kernel_rfl))) (fun ρ m => by kernel_rfl)) m
def Q1hg : Entry Tryz.prog := ⟨Q10u, Tryz.f139, Tryz.func139, by kernel_rfl, arg2 (fun G a0 a1 m => Qoh G a1 a0 m), okarg2 Q1hf⟩
def Q9i (G : Gt) (p0 p1 p2 : V) (m : M) : R :=
  bp (some (aNew Q1jt (Value.cells p0).toList m)) fun x0 m =>
  bp (some (aNew Q2h (Value.cells p1).toList m)) fun x1 m =>
  bp (some (aNew Q14s (Value.cells p2).toList m)) fun x2 m =>
  bp (pur (aLoad false 1 x0 m) m) fun x3 m =>
  let x4 : V := (.func (.func Qgb) ⟨[]⟩ ⟨[x2, x0, x1]⟩)
  bp (pur (aLoad false 1 x1 m) m) fun x5 m =>
  bp (G.tab Q4x [x3, x4] m) fun x6 m =>
  ckB (again (pur (aLoad false 1 x1 m) m) x5 && true)
  (bp (pur (bin .eql false true .int x6 x5) m) fun x7 m =>
  some (x7, m))
theorem Q11z (G : Gt) (a0 a1 a2 : V) (m : M) : evFn Tryz.prog G.tab G.rds (drOf Tryz.prog G.tab) Tryz.f140 [a0, a1, a2] m = Q9i G a0 a1 a2 m :=
  evFn_of (r := fun ρ m => Q9i G (ρ 0) (ρ 1) (ρ 2) m) rfl rfl (fun ρ m => by kernel_rfl) m
def Q120 : Entry Tryz.prog := ⟨Qjj, Tryz.f140, Tryz.func140, by kernel_rfl, arg3 (fun G a0 a1 a2 m => Q9i G a0 a1 a2 m), okarg3 Q11z⟩
def Qqr (G : Gt) (p0 : V) (m : M) : R :=
  bp (some (aNew Q7g (Value.cells p0).toList m)) fun x0 m =>
  bp (pur (aFieldAddr 0 x0) m) fun x1 m =>
  bp (pur (aLoad false 1 x1 m) m) fun x2 m =>
  some (x2, m)
theorem Q1i7 (G : Gt) (a0 : V) (m : M) : evFn Tryz.prog G.tab G.rds (drOf Tryz.prog G.tab) Tryz.f141 [a0] m = Qqr G a0 m :=
  evFn_of (r := fun ρ m => Qqr G (ρ 0) m) rfl rfl (fun ρ m => by kernel_rfl) m
def Q1i8 : Entry Tryz.prog := ⟨Qqd, Tryz.f141, Tryz.func141, by kernel_rfl, arg1 (fun G a0 m => Qqr G a0 m), okarg1 Q1i7⟩
def Qqs (G : Gt) (p11 : V) (m : M) : R :=
  brb p11
  (some ((.int .i64 121), m))
  (some ((.int .i64 0), m))
def Q13y (G : Gt) (p1 : V) (m : M) : R :=
  bp (pur (aFieldAddr 1 p1) m) fun x0 m =>
  bp (pur (aLoad false 1 x0 m) m) fun x1 m =>
  bp (pur (lenK 1 x1 m) m) fun x2 m =>
  bp (pur (bin .gtr true true .int x2 (.int .i64 256)) m) fun x3 m =>
  brb x3
  (Qqs G (.bool true) m)
  (bp (pur (aFieldAddr 1 p1) m) fun x4 m =>
  bp (pur (aLoad false 1 x4 m) m) fun x5 m =>
  bp (G.tab Q59 [x5, (.func (.func Q12z) #[] #[])] m) fun x6 m =>
  Qqs G x6 m)
def Qxp (G : Gt) (p0 : V) (m : M) : R :=
  bp (some (aNew Q7g (Value.cells p0).toList m)) fun x7 m =>
  Q13y G x7 m
theorem Q1kf (G : Gt) (a0 : V) (m : M) : evFn Tryz.prog G.tab G.rds (drOf Tryz.prog G.tab) Tryz.f142 [a0] m = Qxp G a0 m :=
  evFn_of (r := fun ρ m => Qxp G (ρ 0) m) rfl rfl (tr (seqQ (f := fun ρ m => Q13y G (ρ 1) m) (tr (tr seqD (seqQ (f := fun ρ m => Qqs G (ρ 11) m) (fun ρ m => by kernel_rfl))) (fun ρ m => by kernel_rfl))) (fun ρ m => by kernel_rfl)) m
def Q1kg : Entry Tryz.prog := ⟨Q19p, Tryz.f142, Tryz.func142, by kernel_rfl, arg1 (fun G a0 m => Qxp G a0 m), okarg1 Q1kf⟩
def Qoi (G : Gt) (p1 p0 p2 : V) (m : M) : R :=
  bp (pur (aFieldAddr 5 p1) m) fun x0 m =>
  bp (pur (aLoad false 1 x0 m) m) fun x1 m =>
  bp (pur (aIndexAddrSl 3 x1 p0) m) fun x2 m =>
  bp (pur (aFieldAddr 2 x2) m) fun x3 m =>
  bp (pur (aLoad false 1 x3 m) m) fun x4 m =>
  bp (pur (bin .neq true true .int x4 (.int .u32 0)) m) fun x5 m =>
  bp (pur (aFieldAddr 1 p2) m) fun x6 m =>
  bp (pur (aLoad false 1 x6 m) m) fun x7 m =>
  bp (pur (aFieldAddr 5 p1) m) fun x8 m =>
  bp (pur (aLoad false 1 x8 m) m) fun x9 m =>
  bp (pur (aIndexAddrSl 3 x9 p0) m) fun x10 m =>
  bp (pur (aFieldAddr 1 x10) m) fun x11 m =>
  bp (pur (aLoad false 1 x11 m) m) fun x12 m =>
  bp (G.tab Q1k [x7, x12] m) fun x13 m =>
  ckB (again (pur (aLoad false 1 x0 m) m) x1 && (again (pur (aLoad false 1 x3 m) m) x4 && true))
  (bp (G.tab Qf [x5, x13] m) fun x14 m =>
  some (x14, m))
theorem Q1hh (G : Gt) (a0 a1 a2 : V) (m : M) : evFn Tryz.prog G.tab G.rds (drOf Tryz.prog G.tab) Tryz.f143 [a0, a1, a2] m = Qoi G a1 a0 a2 m :=
  evFn_of (r := fun ρ m => Qoi G (ρ 1) (ρ 0) (ρ 2) m) rfl rfl (fun ρ m => by kernel_rfl) m
def Q1hi : Entry Tryz.prog := ⟨Q10v, Tryz.f143, Tryz.func143, by kernel_rfl, arg3 (fun G a0 a1 a2 m => Qoi G a1 a0 a2 m), okarg3 Q1hh⟩
end
end Go.Ab.Sh
