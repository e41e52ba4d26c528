/-
  Functions of the program as plain definitions, each with the theorem that it is what the evaluator makes of the code. No conditions.
-/
import Derived.Test.YtchdjkidnjfcjaaGreatDoorAb5
import Derived.Test.YtchdjkidnjfcjaaGreatDoorZ
import Derived.KernelRfl
import Derived.Test.YtchdjkidnjfcjaaGreatDoorProg
set_option linter.unusedVariables false
set_option maxRecDepth 100000
namespace Go.Ab.Sh
open Go Go.Ab Go.Proofs
noncomputable section
def Q8q (G : Gt) (p0 p1 : V) (m : M) : R :=
  bp (pur (aNilCheck p0) m) fun x0 m =>
  bp (pur (aFieldAddr 0 x0) m) fun x1 m =>
  bp (pur (aFieldAddr 2 x1) m) fun x2 m =>
  bp (pur (aLoad false 1 x2 m) m) fun x3 m =>
  bp (G.tab Q7 [p1] m) fun x4 m =>
  ckB (again (pur (aLoad false 1 x2 m) m) x3 && true)
  (bp (aBuildSlice Q1 [(.string ⟨#[]⟩)] 1 1 [(0, x4)] m) fun x5 m =>
  bp (apS Q1 1 16 x3 x5 m) fun x6 m =>
  bp (pur (aNilCheck p0) m) fun x7 m =>
  bp (pur (aFieldAddr 0 x7) m) fun x8 m =>
  bp (pur (aFieldAddr 2 x8) m) fun x9 m =>
  bp (unt (aStore 1 x9 x6 m)) fun _ m =>
  some (.tuple ⟨[(.bool false), (.string ⟨#[]⟩), .nilFunc]⟩, m))
theorem Q10m (G : Gt) (a0 a1 : V) (m : M) : evFn Tryz.prog G.tab G.rds (drOf Tryz.prog G.tab) Tryz.f77 [a0, a1] m = Q8q G a0 a1 m :=
  evFn_of (r := fun ρ m => Q8q G (ρ 0) (ρ 1) m) rfl rfl (fun ρ m => by kernel_rfl) m
def Q10j : Entry Tryz.prog := ⟨Qhx, Tryz.f77, Tryz.func77, by kernel_rfl, arg2 (fun G a0 a1 m => Q8q G a0 a1 m), okarg2 Q10m⟩
def Q80 (G : Gt) (p0 p1 : V) (m : M) : R :=
  bp (pur (aNilCheck p0) m) fun x0 m =>
  bp (pur (aFieldAddr 0 x0) m) fun x1 m =>
  bp (pur (aFieldAddr 3 x1) m) fun x2 m =>
  bp (pur (aLoad false 1 x2 m) m) fun x3 m =>
  bp (G.tab Q7 [p1] m) fun x4 m =>
  ckB (again (pur (aLoad false 1 x2 m) m) x3 && true)
  (bp (pur (aBuild Qik [(0, 1), (1, 1), (2, 1), (3, 1), (4, 1), (5, 1), (6, 1), (7, 1), (8, 1), (9, 1), (10, 1)] [(0, x4), (8, (.int .i64 (-1))), (9, (.int .i64 1))]) m) fun x5 m =>
  bp (aBuildSlice Q9v Qik 11 1 [(0, x5)] m) fun x6 m =>
  bp (apS Q9v 11 120 x3 x6 m) fun x7 m =>
  bp (pur (aNilCheck p0) m) fun x8 m =>
  bp (pur (aFieldAddr 0 x8) m) fun x9 m =>
  bp (pur (aFieldAddr 3 x9) m) fun x10 m =>
  bp (unt (aStore 1 x10 x7 m)) fun _ m =>
  bp (G.tab Qj [p0, (.func (.func Qp6) ⟨[p0]⟩ ⟨[]⟩)] m) fun x11 m =>
  some (.tuple ⟨[(.bool true), (.string ⟨#[]⟩), x11]⟩, m))
theorem Qzh (G : Gt) (a0 a1 : V) (m : M) : evFn Tryz.prog G.tab G.rds (drOf Tryz.prog G.tab) Tryz.f78 [a0, a1] m = Q80 G a0 a1 m :=
  evFn_of (r := fun ρ m => Q80 G (ρ 0) (ρ 1) m) rfl rfl (fun ρ m => by kernel_rfl) m
def Qzg : Entry Tryz.prog := ⟨Qg8, Tryz.f78, Tryz.func78, by kernel_rfl, arg2 (fun G a0 a1 m => Q80 G a0 a1 m), okarg2 Qzh⟩
def Q9p (G : Gt) (p1 p0 : V) (m : M) : R :=
  bp (aBuildSlice Q1 [(.string ⟨#[]⟩)] 1 1 [(0, (.string ⟨#[102,105,108,116,101,114]⟩))] m) fun x0 m =>
  bp (G.tab Q8 [p1, x0] m) fun x1 m =>
  bp (pur (aNilCheck p0) m) fun x2 m =>
  bp (pur (aFieldAddr 0 x2) m) fun x3 m =>
  bp (pur (aFieldAddr 4 x3) m) fun x4 m =>
  bp (pur (aLoad false 1 x4 m) m) fun x5 m =>
  bp (G.tab Q7 [p1] m) fun x6 m =>
  ckB (again (pur (aLoad false 1 x4 m) m) x5 && true)
  (bp (pur (aBuild Qke [(0, 1), (1, 1)] [(0, x6)]) m) fun x7 m =>
  bp (aBuildSlice Q7g Qke 2 1 [(0, x7)] m) fun x8 m =>
  bp (apS Q7g 2 40 x5 x8 m) fun x9 m =>
  bp (pur (aNilCheck p0) m) fun x10 m =>
  bp (pur (aFieldAddr 0 x10) m) fun x11 m =>
  bp (pur (aFieldAddr 4 x11) m) fun x12 m =>
  bp (unt (aStore 1 x12 x9 m)) fun _ m =>
  bp (G.tab Qj [p0, (.func (.func Qmt) ⟨[p0]⟩ ⟨[]⟩)] m) fun x13 m =>
  some (.tuple ⟨[(.bool true), (.string ⟨#[]⟩), x13]⟩, m))
theorem Q129 (G : Gt) (a0 a1 : V) (m : M) : evFn Tryz.prog G.tab G.rds (drOf Tryz.prog G.tab) Tryz.f79 [a0, a1] m = Q9p G a1 a0 m :=
  evFn_of (r := fun ρ m => Q9p G (ρ 1) (ρ 0) m) rfl rfl (fun ρ m => by kernel_rfl) m
def Q125 : Entry Tryz.prog := ⟨Qjg, Tryz.f79, Tryz.func79, by kernel_rfl, arg2 (fun G a0 a1 m => Q9p G a1 a0 m), okarg2 Q129⟩
def Qho (G : Gt) (p1 p0 : V) (m : M) : R :=
  bp (aBuildSlice Q1 [(.string ⟨#[]⟩)] 1 2 [(0, (.string ⟨#[115,111,117,114,99,101]⟩)), (1, (.string ⟨#[100,101,115,116,105,110,97,116,105,111,110]⟩))] m) fun x0 m =>
  bp (G.tab Q8 [p1, x0] m) fun x1 m =>
  bp (pur (bin .eql true true .int x1 (.int .i64 1)) m) fun x2 m =>
  bp (pur (aBuild Qc7 [(0, 1), (1, 1), (2, 1)] [(0, x2)]) m) fun x3 m =>
  bp (some (aNew Qc6 Qc7 m)) fun x4 m =>
  bp (unt (aStore 3 x4 x3 m)) fun _ m =>
  bp (G.tab Q7 [p1] m) fun x5 m =>
  bp (pur (aFieldAddr 1 x4) m) fun x6 m =>
  bp (unt (aStore 1 x6 x5 m)) fun _ m =>
  bp (aBuildSlice Q1 [(.string ⟨#[]⟩)] 1 1 [(0, (.string ⟨#[116,111]⟩))] m) fun x7 m =>
  bp (G.tab Q8 [p1, x7] m) fun x8 m =>
  bp (G.tab Q3i [p1] m) fun x9 m =>
  bp (pur (aFieldAddr 2 x4) m) fun x10 m =>
  bp (unt (aStore 1 x10 x9 m)) fun _ m =>
  bp (pur (aNilCheck p0) m) fun x11 m =>
  bp (pur (aFieldAddr 0 x11) m) fun x12 m =>
  bp (pur (aFieldAddr 5 x12) m) fun x13 m =>
  bp (pur (aLoad false 1 x13 m) m) fun x14 m =>
  bp (pur (aLoad true 3 x4 m) m) fun x15 m =>
  bp (aBuildSlice Qc6 Qc7 3 1 [(0, x15)] m) fun x16 m =>
  bp (apS Qc6 3 32 x14 x16 m) fun x17 m =>
  bp (pur (aNilCheck p0) m) fun x18 m =>
  bp (pur (aFieldAddr 0 x18) m) fun x19 m =>
  bp (pur (aFieldAddr 5 x19) m) fun x20 m =>
  bp (unt (aStore 1 x20 x17 m)) fun _ m =>
  some (.tuple ⟨[(.bool false), (.string ⟨#[]⟩), .nilFunc]⟩, m)
theorem Q1d5 (G : Gt) (a0 a1 : V) (m : M) : evFn Tryz.prog G.tab G.rds (drOf Tryz.prog G.tab) Tryz.f80 [a0, a1] m = Qho G a1 a0 m :=
  evFn_of (r := fun ρ m => Qho G (ρ 1) (ρ 0) m) rfl rfl (fun ρ m => by kernel_rfl) m
def Q1d3 : Entry Tryz.prog := ⟨Qt0, Tryz.f80, Tryz.func80, by kernel_rfl, arg2 (fun G a0 a1 m => Qho G a1 a0 m), okarg2 Q1d5⟩
def Q9q (G : Gt) (p0 p7 : V) (m : M) : R :=
  bp (pur (aNilCheck p0) m) fun x0 m =>
  bp (pur (aFieldAddr 0 x0) m) fun x1 m =>
  bp (pur (aFieldAddr 6 x1) m) fun x2 m =>
  bp (pur (aLoad false 1 x2 m) m) fun x3 m =>
  bp (pur (aLoad true 7 p7 m) m) fun x4 m =>
  bp (aBuildSlice Qab Qdz 7 1 [(0, x4)] m) fun x5 m =>
  bp (apS Qab 7 56 x3 x5 m) fun x6 m =>
  bp (pur (aNilCheck p0) m) fun x7 m =>
  bp (pur (aFieldAddr 0 x7) m) fun x8 m =>
  bp (pur (aFieldAddr 6 x8) m) fun x9 m =>
  bp (unt (aStore 1 x9 x6 m)) fun _ m =>
  some (.tuple ⟨[(.bool false), (.string ⟨#[]⟩), .nilFunc]⟩, m)
def Q9r (G : Gt) (p1 p7 p0 : V) (m : M) : R :=
  bp (G.tab Qq [p1, (.string ⟨#[116,97,103]⟩)] m) fun x10 m =>
  brb x10
  (bp (G.tab Qc [p1, (.int .i64 0), (.int .i64 16777216)] m) fun x11 m =>
  bp (pur (aFieldAddr 6 p7) m) fun x12 m =>
  bp (unt (aStore 1 x12 x11 m)) fun _ m =>
  Q9q G p0 p7 m)
  (Q9q G p0 p7 m)
def Q9s (G : Gt) (p1 p7 p0 : V) (m : M) : R :=
  bp (G.tab Qq [p1, (.string ⟨#[112,114,101,102,101,114,101,110,99,101]⟩)] m) fun x13 m =>
  brb x13
  (bp (G.tab Qc [p1, (.int .i64 1), (.int .i64 255)] m) fun x14 m =>
  bp (pur (aFieldAddr 5 p7) m) fun x15 m =>
  bp (unt (aStore 1 x15 x14 m)) fun _ m =>
  Q9r G p1 p7 p0 m)
  (Q9r G p1 p7 p0 m)
def Q9t (G : Gt) (p1 p7 p0 : V) (m : M) : R :=
  bp (G.tab Qq [p1, (.string ⟨#[105,110,115,116,97,110,99,101]⟩)] m) fun x16 m =>
  brb x16
  (bp (G.tab Q7 [p1] m) fun x17 m =>
  bp (pur (aFieldAddr 0 p7) m) fun x18 m =>
  bp (unt (aStore 1 x18 x17 m)) fun _ m =>
  Q9s G p1 p7 p0 m)
  (Q9s G p1 p7 p0 m)
def Qk6 (G : Gt) (p1 p7 p0 : V) (m : M) : R :=
  bp (aBuildSlice Q1 [(.string ⟨#[]⟩)] 1 2 [(0, (.string ⟨#[110,101,120,116,45,104,111,112]⟩)), (1, (.string ⟨#[100,105,115,99,97,114,100]⟩))] m) fun x19 m =>
  bp (G.tab Q8 [p1, x19] m) fun x20 m =>
  bp (pur (bin .eql true true .int x20 (.int .i64 0)) m) fun x21 m =>
  brb x21
  (bp (G.tab Qh2 [p1] m) fun x22 m =>
  bp (pur (aFieldAddr 3 p7) m) fun x23 m =>
  bp (unt (aStore 1 x23 x22 m)) fun _ m =>
  Q9t G p1 p7 p0 m)
  (bp (pur (aFieldAddr 4 p7) m) fun x24 m =>
  bp (unt (aStore 1 x24 (.bool true) m)) fun _ m =>
  Q9t G p1 p7 p0 m)
def Qk7 (G : Gt) (p1 p0 : V) (m : M) : R :=
  bp (G.tab Q2u [p1] m) fun x25 m =>
  bp (pur (aBuild Qdz [(0, 1), (1, 2), (3, 1), (4, 1), (5, 1), (6, 1)] [(1, x25), (4, (.int .i64 5))]) m) fun x26 m =>
  bp (some (aNew Qab Qdz m)) fun x27 m =>
  bp (unt (aStore 7 x27 x26 m)) fun _ m =>
  Qk6 G p1 x27 p0 m
def Qk8 (G : Gt) (p1 p0 : V) (m : M) : R :=
  bp (aBuildSlice Q1 [(.string ⟨#[]⟩)] 1 1 [(0, (.string ⟨#[114,111,117,116,101]⟩))] m) fun x28 m =>
  bp (G.tab Q8 [p1, x28] m) fun x29 m =>
  Qk7 G p1 p0 m
def Qc3 (G : Gt) (p1 p0 : V) (m : M) : R :=
  Qk8 G p1 p0 m
theorem Q15i (G : Gt) (a0 a1 : V) (m : M) : evFn Tryz.prog G.tab G.rds (drOf Tryz.prog G.tab) Tryz.f81 [a0, a1] m = Qc3 G a1 a0 m :=
  evFn_of (r := fun ρ m => Qc3 G (ρ 1) (ρ 0) m) rfl rfl (tr (seqQ (f := fun ρ m => Qk8 G (ρ 1) (ρ 0) m) (tr (seqQ (f := fun ρ m => Qk7 G (ρ 1) (ρ 0) m) (tr (seqQ (f := fun ρ m => Qk6 G (ρ 1) (ρ 7) (ρ 0) m) (tr (seqQ (f := fun ρ m => Q9t G (ρ 1) (ρ 7) (ρ 0) m) (tr (seqQ (f := fun ρ m => Q9s G (ρ 1) (ρ 7) (ρ 0) m) (tr (seqQ (f := fun ρ m => Q9r G (ρ 1) (ρ 7) (ρ 0) m) (tr (seqQ (f := fun ρ m => Q9q G (ρ 0) (ρ 7) m) (fun ρ m => by kernel_rfl)) (fun ρ m => by kernel_rfl))) (fun ρ m => by kernel_rfl))) (fun ρ m => by kernel_rfl))) (fun ρ m => by kernel_rfl))) (fun ρ m => by kernel_rfl))) (fun ρ m => by kernel_rfl))) (fun ρ m => by kernel_rfl)) m
def Q15g : Entry Tryz.prog := ⟨Qms, Tryz.f81, Tryz.func81, by kernel_rfl, arg2 (fun G a0 a1 m => Qc3 G a1 a0 m), okarg2 Q15i⟩
def Q9u (G : Gt) (p0 p1 : V) (m : M) : R :=
  bp (pur (aNilCheck p0) m) fun x0 m =>
  bp (pur (aFieldAddr 0 x0) m) fun x1 m =>
  bp (aBuildSlice Q1 [(.string ⟨#[]⟩)] 1 3 [(0, (.string ⟨#[112,114,101,102,105,120,45,108,105,115,116]⟩)), (1, (.string ⟨#[99,111,109,109,117,110,105,116,121]⟩)), (2, (.string ⟨#[115,116,97,116,101,109,101,110,116]⟩))] m) fun x2 m =>
  bp (G.tab Q8 [p1, x2] m) fun x3 m =>
  bp (pur (bin .eql true true .int x3 (.int .i64 0)) m) fun x4 m =>
  brb x4
  (bp (pur (aNilCheck x1) m) fun x5 m =>
  bp (pur (aFieldAddr 7 x5) m) fun x6 m =>
  bp (pur (aLoad false 1 x6 m) m) fun x7 m =>
  bp (G.tab Q7 [p1] m) fun x8 m =>
  ckB (again (pur (aLoad false 1 x6 m) m) x7 && true)
  (bp (pur (aBuild Q6z [(0, 1), (1, 1)] [(0, x8)]) m) fun x9 m =>
  bp (aBuildSlice Q3p Q6z 2 1 [(0, x9)] m) fun x10 m =>
  bp (apS Q3p 2 40 x7 x10 m) fun x11 m =>
  bp (pur (aNilCheck x1) m) fun x12 m =>
  bp (pur (aFieldAddr 7 x12) m) fun x13 m =>
  bp (unt (aStore 1 x13 x11 m)) fun _ m =>
  bp (G.tab Qj [p0, (.func (.func Qp7) ⟨[p0]⟩ ⟨[]⟩)] m) fun x14 m =>
  some (.tuple ⟨[(.bool true), (.string ⟨#[]⟩), x14]⟩, m)))
  (bp (pur (bin .eql true true .int x3 (.int .i64 1)) m) fun x15 m =>
  brb x15
  (bp (pur (aNilCheck x1) m) fun x16 m =>
  bp (pur (aFieldAddr 8 x16) m) fun x17 m =>
  bp (pur (aLoad false 1 x17 m) m) fun x18 m =>
  bp (G.tab Q7 [p1] m) fun x19 m =>
  ckB (again (pur (aLoad false 1 x17 m) m) x18 && true)
  (bp (pur (aBuild Q4d [(0, 1), (1, 1)] [(0, x19)]) m) fun x20 m =>
  bp (aBuildSlice Q2f Q4d 2 1 [(0, x20)] m) fun x21 m =>
  bp (apS Q2f 2 40 x18 x21 m) fun x22 m =>
  bp (pur (aNilCheck x1) m) fun x23 m =>
  bp (pur (aFieldAddr 8 x23) m) fun x24 m =>
  bp (unt (aStore 1 x24 x22 m)) fun _ m =>
  bp (G.tab Qj [p0, (.func (.func Qmu) ⟨[p0]⟩ ⟨[]⟩)] m) fun x25 m =>
  some (.tuple ⟨[(.bool true), (.string ⟨#[]⟩), x25]⟩, m)))
  (bp (pur (aNilCheck x1) m) fun x26 m =>
  bp (pur (aFieldAddr 9 x26) m) fun x27 m =>
  bp (pur (aLoad false 1 x27 m) m) fun x28 m =>
  bp (G.tab Q7 [p1] m) fun x29 m =>
  ckB (again (pur (aLoad false 1 x27 m) m) x28 && true)
  (bp (pur (aBuild Qea [(0, 1), (1, 1), (2, 1)] [(0, x29), (2, (.bool true))]) m) fun x30 m =>
  bp (aBuildSlice Q7l Qea 3 1 [(0, x30)] m) fun x31 m =>
  bp (apS Q7l 3 48 x28 x31 m) fun x32 m =>
  bp (pur (aNilCheck x1) m) fun x33 m =>
  bp (pur (aFieldAddr 9 x33) m) fun x34 m =>
  bp (unt (aStore 1 x34 x32 m)) fun _ m =>
  bp (G.tab Qj [p0, (.func (.func Qi0) ⟨[p0]⟩ ⟨[]⟩)] m) fun x35 m =>
  some (.tuple ⟨[(.bool true), (.string ⟨#[]⟩), x35]⟩, m))))
theorem Q12a (G : Gt) (a0 a1 : V) (m : M) : evFn Tryz.prog G.tab G.rds (drOf Tryz.prog G.tab) Tryz.f82 [a0, a1] m = Q9u G a0 a1 m :=
  evFn_of (r := fun ρ m => Q9u G (ρ 0) (ρ 1) m) rfl rfl (fun ρ m => by kernel_rfl) m
def Q126 : Entry Tryz.prog := ⟨Qjh, Tryz.f82, Tryz.func82, by kernel_rfl, arg2 (fun G a0 a1 m => Q9u G a0 a1 m), okarg2 Q12a⟩
def Q75 (G : Gt) (p8 p7 p9 p0 : V) (m : M) : R :=
  bp (pur (bin .eql true true .int p8 (.int .i64 0)) m) fun x0 m =>
  brb x0
  (bp (pur (aNilCheck p7) m) fun x1 m =>
  bp (pur (aFieldAddr 10 x1) m) fun x2 m =>
  bp (pur (aLoad false 1 x2 m) m) fun x3 m =>
  bp (pur (aBuild Qt8 [(0, 1), (1, 1), (2, 1)] [(0, p9)]) m) fun x4 m =>
  bp (aBuildSlice Qh4 Qt8 3 1 [(0, x4)] m) fun x5 m =>
  bp (apS Qh4 3 48 x3 x5 m) fun x6 m =>
  bp (pur (aNilCheck p7) m) fun x7 m =>
  bp (pur (aFieldAddr 10 x7) m) fun x8 m =>
  bp (unt (aStore 1 x8 x6 m)) fun _ m =>
  bp (G.tab Qj [p0, (.func (.func Qri) ⟨[p0]⟩ ⟨[]⟩)] m) fun x9 m =>
  some (.tuple ⟨[(.bool true), (.string ⟨#[]⟩), x9]⟩, m))
  (bp (pur (aNilCheck p7) m) fun x10 m =>
  bp (pur (aFieldAddr 11 x10) m) fun x11 m =>
  bp (pur (aLoad false 1 x11 m) m) fun x12 m =>
  bp (pur (aBuild Qrp [(0, 1), (1, 1), (2, 1), (3, 1), (4, 1), (5, 1)] [(0, p9)]) m) fun x13 m =>
  bp (aBuildSlice Qgd Qrp 6 1 [(0, x13)] m) fun x14 m =>
  bp (apS Qgd 6 96 x12 x14 m) fun x15 m =>
  bp (pur (aNilCheck p7) m) fun x16 m =>
  bp (pur (aFieldAddr 11 x16) m) fun x17 m =>
  bp (unt (aStore 1 x17 x15 m)) fun _ m =>
  bp (G.tab Qj [p0, (.func (.func Qt1) ⟨[p0]⟩ ⟨[]⟩)] m) fun x18 m =>
  some (.tuple ⟨[(.bool true), (.string ⟨#[]⟩), x18]⟩, m))
def Qfo (G : Gt) (p1 p8 p7 p0 p9 : V) (m : M) : R :=
  bp (G.tab Q2i [p1] m) fun x19 m =>
  brb x19
  (bp (G.tab Q7 [p1] m) fun x20 m =>
  Q75 G p8 p7 x20 p0 m)
  (Q75 G p8 p7 p9 p0 m)
def Qfp (G : Gt) (p1 p7 p0 : V) (m : M) : R :=
  bp (aBuildSlice Q1 [(.string ⟨#[]⟩)] 1 2 [(0, (.string ⟨#[111,115,112,102]⟩)), (1, (.string ⟨#[98,103,112]⟩))] m) fun x21 m =>
  bp (G.tab Q8 [p1, x21] m) fun x22 m =>
  Qfo G p1 x22 p7 p0 (.string ⟨#[]⟩) m
def Qfq (G : Gt) (p0 p1 : V) (m : M) : R :=
  bp (pur (aNilCheck p0) m) fun x23 m =>
  bp (pur (aFieldAddr 0 x23) m) fun x24 m =>
  Qfp G p1 x24 p0 m
def Q8r (G : Gt) (p0 p1 : V) (m : M) : R :=
  Qfq G p0 p1 m
theorem Q10n (G : Gt) (a0 a1 : V) (m : M) : evFn Tryz.prog G.tab G.rds (drOf Tryz.prog G.tab) Tryz.f83 [a0, a1] m = Q8r G a0 a1 m :=
  evFn_of (r := fun ρ m => Q8r G (ρ 0) (ρ 1) m) rfl rfl (tr (seqQ (f := fun ρ m => Qfq G (ρ 0) (ρ 1) m) (tr (seqQ (f := fun ρ m => Qfp G (ρ 1) (ρ 7) (ρ 0) m) (tr (seqQ (f := fun ρ m => Qfo G (ρ 1) (ρ 8) (ρ 7) (ρ 0) (ρ 9) m) (tr (seqQ (f := fun ρ m => Q75 G (ρ 8) (ρ 7) (ρ 9) (ρ 0) m) (fun ρ m => by kernel_rfl)) (fun ρ m => by kernel_rfl))) (fun ρ m => by kernel_rfl))) (fun ρ m => by kernel_rfl))) (fun ρ m => by kernel_rfl)) m
def Q10g : Entry Tryz.prog := ⟨Qhy, Tryz.f83, Tryz.func83, by kernel_rfl, arg2 (fun G a0 a1 m => Q8r G a0 a1 m), okarg2 Q10n⟩
def Qd6 (G : Gt) (p5 : V) (m : M) : R :=
  bp (pur (aMax p5 (.int .i64 0)) m) fun x0 m =>
  some (x0, m)
def Qq6 (G : Gt) (p5 p0 : V) (m : M) : R :=
  bp (pur (bin .lss true true .int p5 (.int .i64 0)) m) fun x1 m =>
  brb x1
  (bp (G.tab Qe [p0, (.int .i64 130)] m) fun x2 m =>
  Qd6 G p5 m)
  (Qd6 G p5 m)
def Qq7 (G : Gt) (p1 p0 : V) (m : M) : R :=
  bp (G.tab Qi [p0] m) fun x3 m =>
  bp (G.tab Q5j [p1, x3] m) fun x4 m =>
  Qq6 G x4 p0 m
def Qhp (G : Gt) (p1 p0 : V) (m : M) : R :=
  Qq7 G p1 p0 m
theorem Q1d6 (G : Gt) (a0 a1 : V) (m : M) : evFn Tryz.prog G.tab G.rds (drOf Tryz.prog G.tab) Tryz.f84 [a0, a1] m = Qhp G a1 a0 m :=
  evFn_of (r := fun ρ m => Qhp G (ρ 1) (ρ 0) m) rfl rfl (tr (seqQ (f := fun ρ m => Qq7 G (ρ 1) (ρ 0) m) (tr (seqQ (f := fun ρ m => Qq6 G (ρ 5) (ρ 0) m) (tr (seqQ (f := fun ρ m => Qd6 G (ρ 5) m) (fun ρ m => by kernel_rfl)) (fun ρ m => by kernel_rfl))) (fun ρ m => by kernel_rfl))) (fun ρ m => by kernel_rfl)) m
def Q1d4 : Entry Tryz.prog := ⟨Q8, Tryz.f84, Tryz.func84, by kernel_rfl, arg2 (fun G a0 a1 m => Qhp G a1 a0 m), okarg2 Q1d6⟩
def Qc4 (G : Gt) (p0 p1 : V) (m : M) : R :=
  bp (some (aNew Q131 (Value.cells p0).toList m)) fun x0 m =>
  bp (some (aNew Q19v (Value.cells p1).toList m)) fun x1 m =>
  some ((.func (.func Qji) ⟨[]⟩ ⟨[x0, x1]⟩), m)
theorem Q15j (G : Gt) (a0 a1 : V) (m : M) : evFn Tryz.prog G.tab G.rds (drOf Tryz.prog G.tab) Tryz.f85 [a0, a1] m = Qc4 G a0 a1 m :=
  evFn_of (r := fun ρ m => Qc4 G (ρ 0) (ρ 1) m) rfl rfl (fun ρ m => by kernel_rfl) m
def Q15h : Entry Tryz.prog := ⟨Qj, Tryz.f85, Tryz.func85, by kernel_rfl, arg2 (fun G a0 a1 m => Qc4 G a0 a1 m), okarg2 Q15j⟩
def Q1c3 (G : Gt) (m : M) : R :=
  some ((.bool true), m)
def Q76 (G : Gt) (k0 : V → V → V → M → R) (p55 p16 p15 p14 : V) (m : M) : R :=
  brb p55
  (some ((.bool false), m))
  (bp (pur (bin .add true true .int p16 (.int .i64 1)) m) fun x0 m =>
  k0 x0 p15 p14 m)
def Qaa (G : Gt) (k0 : V → V → V → M → R) (p5 p3 p4 p16 p15 p14 : V) (m : M) : R :=
  bp (pur (un .not p5) m) fun x1 m =>
  brb x1
  (bp (pur (bin .eql true true .int p3 (.int .i64 0)) m) fun x2 m =>
  brb x2
  (Q76 G k0 (.bool true) p16 p15 p14 m)
  (bp (pur (bin .leq true true .int (.int .u8 48) p4) m) fun x3 m =>
  brb x3
  (bp (pur (bin .leq true true .int p4 (.int .u8 57)) m) fun x4 m =>
  bp (pur (un .not x4) m) fun x5 m =>
  brb x5
  (bp (conv .intStr p4 m) fun x6 m =>
  bp (G.tab Qc8 [(.string ⟨#[45,95,46,47]⟩), x6] m) fun x7 m =>
  bp (pur (un .not x7) m) fun x8 m =>
  Q76 G k0 x8 p16 p15 p14 m)
  (Q76 G k0 (.bool false) p16 p15 p14 m))
  (bp (pur (un .not (.bool false)) m) fun x9 m =>
  brb x9
  (bp (conv .intStr p4 m) fun x10 m =>
  bp (G.tab Qc8 [(.string ⟨#[45,95,46,47]⟩), x10] m) fun x11 m =>
  bp (pur (un .not x11) m) fun x12 m =>
  Q76 G k0 x12 p16 p15 p14 m)
  (Q76 G k0 (.bool false) p16 p15 p14 m))))
  (Q76 G k0 (.bool false) p16 p15 p14 m)
def Q1c4 (G : Gt) (k0 : V → V → V → M → R) (p4 p3 p16 p15 p14 : V) (m : M) : R :=
  bp (pur (bin .leq true true .int (.int .u8 97) p4) m) fun x13 m =>
  brb x13
  (bp (pur (bin .leq true true .int p4 (.int .u8 122)) m) fun x14 m =>
  brb x14
  (Qaa G k0 (.bool true) p3 p4 p16 p15 p14 m)
  (bp (pur (bin .leq true true .int (.int .u8 65) p4) m) fun x15 m =>
  brb x15
  (bp (pur (bin .leq true true .int p4 (.int .u8 90)) m) fun x16 m =>
  Qaa G k0 x16 p3 p4 p16 p15 p14 m)
  (Qaa G k0 (.bool false) p3 p4 p16 p15 p14 m)))
  (bp (pur (bin .leq true true .int (.int .u8 65) p4) m) fun x17 m =>
  brb x17
  (bp (pur (bin .leq true true .int p4 (.int .u8 90)) m) fun x18 m =>
  Qaa G k0 x18 p3 p4 p16 p15 p14 m)
  (Qaa G k0 (.bool false) p3 p4 p16 p15 p14 m))
def Q1c5 (G : Gt) (k0 : V → V → V → M → R) (p16 p14 p15 : V) (m : M) : R :=
  bp (pur (aIndexAddrSl 1 p14 p16) m) fun x19 m =>
  bp (pur (aLoad false 1 x19 m) m) fun x20 m =>
  Q1c4 G k0 x20 p16 p16 p15 p14 m
def Q1c6 (G : Gt) (k0 : V → V → V → M → R) (p17 p16 p14 p15 : V) (m : M) : R :=
  brb p17
  (Q1c5 G k0 p16 p14 p15 m)
  (Q1c3 G m)
def Q5d (G : Gt) : Nat → V → V → V → M → R
 | 0, _, _, _, _ => none
 | i + 1, p16, p15, p14, m =>
  bp (pur (bin .lss false true .int p16 p15) m) fun x21 m =>
  Q1c6 G (Q5d G i) x21 p16 p14 p15 m
def Q1c7 (G : Gt) (p16 p15 p14 : V) (m : M) : R :=
  Q5d G G.rds p16 p15 p14 m
def Q1c8 (G : Gt) (p0 : V) (m : M) : R :=
  bp (conv .bytes p0 m) fun x22 m =>
  bp (pur (lenK 1 x22 m) m) fun x23 m =>
  Q1c7 G (.int .i64 0) x23 x22 m
def Qvi (G : Gt) (p12 p0 : V) (m : M) : R :=
  brb p12
  (some ((.bool false), m))
  (Q1c8 G p0 m)
def Q1c9 (G : Gt) (p0 : V) (m : M) : R :=
  bp (pur (bin .eql true true .str p0 (.string ⟨#[]⟩)) m) fun x24 m =>
  brb x24
  (Qvi G (.bool true) p0 m)
  (bp (pur (lenK 0 p0 m) m) fun x25 m =>
  bp (pur (bin .gtr true true .int x25 (.int .i64 32)) m) fun x26 m =>
  Qvi G x26 p0 m)
def Q14f (G : Gt) (p0 : V) (m : M) : R :=
  Q1c9 G p0 m
theorem Q1no (G : Gt) (a0 : V) (m : M) : evFn Tryz.prog G.tab G.rds (drOf Tryz.prog G.tab) Tryz.f86 [a0] m = Q14f G a0 m :=
  evFn_of (r := fun ρ m => Q14f G (ρ 0) m) rfl rfl (tr (seqQ (f := fun ρ m => Q1c9 G (ρ 0) m) (tr (tr (seqQ (f := fun ρ m => Q1c8 G (ρ 0) m) (tr (tr (seqQ (f := fun ρ m => Q1c3 G m) (fun ρ m => by kernel_rfl)) (seqQ (f := fun ρ m => Q1c7 G (ρ 16) (ρ 15) (ρ 14) m) (tr (blockQ (loopQ (fun i ρ m => Q5d G i (ρ 16) (ρ 15) (ρ 14) m) (fun _ _ => rfl) (fun i0 => tr (seqQ (f := fun ρ m => Q1c6 G (Q5d G i0) (ρ 17) (ρ 16) (ρ 14) (ρ 15) m) (tr (seqQ (f := fun ρ m => Q1c5 G (Q5d G i0) (ρ 16) (ρ 14) (ρ 15) m) (tr (tr seqD (blockQ (seqQ (f := fun ρ m => Q1c4 G (Q5d G i0) (ρ 4) (ρ 3) (ρ 16) (ρ 15) (ρ 14) m) (tr (seqQ (f := fun ρ m => Qaa G (Q5d G i0) (ρ 5) (ρ 3) (ρ 4) (ρ 16) (ρ 15) (ρ 14) m) (tr (seqQ (f := fun ρ m => Q76 G (Q5d G i0) (ρ 55) (ρ 16) (ρ 15) (ρ 14) m) (fun ρ m => by kernel_rfl)) (fun ρ m => by kernel_rfl))) (fun ρ m => by kernel_rfl))))) (fun ρ m => by kernel_rfl))) (fun ρ m => by kernel_rfl))) (fun ρ m => by kernel_rfl)))) (fun ρ m => by kernel_rfl)))) (fun ρ m => by kernel_rfl))) (seqQ (f := fun ρ m => Qvi G (ρ 12) (ρ 0) m) (fun ρ m => by kernel_rfl))) (fun ρ m => by kernel_rfl))) (fun ρ m => by kernel_rfl)) m
def Q1nm : Entry Tryz.prog := ⟨Q7k, Tryz.f86, Tryz.func86, by kernel_rfl, arg1 (fun G a0 m => Q14f G a0 m), okarg1 Q1no⟩
end
end Go.Ab.Sh

set_option linter.unusedVariables false
set_option maxRecDepth 100000
namespace Go.Ab.Sh
open Go Go.Ab Go.Proofs
noncomputable section
def Qvj (G : Gt) (p0 : V) (m : M) : R :=
  bp (some (aNew Ql (Value.cells p0).toList m)) fun x0 m =>
  bp (pur (aLoad true 12 x0 m) m) fun x1 m =>
  bp (G.tab Q19o [x1] m) fun x2 m =>
  bp (some (aNew Q7m Q135 m)) fun x3 m =>
  bp (unt (aStore 5 x3 x2 m)) fun _ m =>
  bp (pur (aFieldAddr 2 x0) m) fun x4 m =>
  bp (pur (aLoad false 1 x4 m) m) fun x5 m =>
  bp (pur (lenK 1 x5 m) m) fun x6 m =>
  bp (pur (aBuild Q37 [(0, 1), (1, 1), (2, 1), (3, 1)] [(0, (.string ⟨#[118,114,102]⟩)), (1, x6), (2, (.int .i64 256)), (3, (.func (.func Q10s) ⟨[]⟩ ⟨[x0]⟩))]) m) fun x7 m =>
  bp (pur (aFieldAddr 3 x0) m) fun x8 m =>
  bp (pur (aLoad false 1 x8 m) m) fun x9 m =>
  bp (pur (lenK 1 x9 m) m) fun x10 m =>
  bp (pur (aBuild Q37 [(0, 1), (1, 1), (2, 1), (3, 1)] [(0, (.string ⟨#[105,102,97,99,101]⟩)), (1, x10), (2, (.int .i64 64)), (3, (.func (.func Q10t) ⟨[]⟩ ⟨[x3, x0]⟩))]) m) fun x11 m =>
  bp (pur (aFieldAddr 4 x0) m) fun x12 m =>
  bp (pur (aLoad false 1 x12 m) m) fun x13 m =>
  bp (pur (lenK 1 x13 m) m) fun x14 m =>
  bp (pur (aBuild Q37 [(0, 1), (1, 1), (2, 1), (3, 1)] [(0, (.string ⟨#[102,105,108,116,101,114]⟩)), (1, x14), (2, (.int .i64 256)), (3, (.func (.func Q10u) ⟨[]⟩ ⟨[x0]⟩))]) m) fun x15 m =>
  bp (pur (aFieldAddr 5 x0) m) fun x16 m =>
  bp (pur (aLoad false 1 x16 m) m) fun x17 m =>
  bp (pur (lenK 1 x17 m) m) fun x18 m =>
  bp (pur (aBuild Q37 [(0, 1), (1, 1), (2, 1), (3, 1)] [(0, (.string ⟨#[114,101,119,114,105,116,101]⟩)), (1, x18), (2, (.int .i64 256)), (3, (.func (.func Q10v) ⟨[]⟩ ⟨[x0, x3]⟩))]) m) fun x19 m =>
  bp (pur (aFieldAddr 6 x0) m) fun x20 m =>
  bp (pur (aLoad false 1 x20 m) m) fun x21 m =>
  bp (pur (lenK 1 x21 m) m) fun x22 m =>
  bp (pur (aBuild Q37 [(0, 1), (1, 1), (2, 1), (3, 1)] [(0, (.string ⟨#[115,116,97,116,105,99]⟩)), (1, x22), (2, (.int .i64 256)), (3, (.func (.func Q10w) ⟨[]⟩ ⟨[x3, x0]⟩))]) m) fun x23 m =>
  bp (pur (aFieldAddr 7 x0) m) fun x24 m =>
  bp (pur (aLoad false 1 x24 m) m) fun x25 m =>
  bp (pur (lenK 1 x25 m) m) fun x26 m =>
  bp (pur (aBuild Q37 [(0, 1), (1, 1), (2, 1), (3, 1)] [(0, (.string ⟨#[112,114,101,102,105,120,101,115]⟩)), (1, x26), (2, (.int .i64 256)), (3, (.func (.func Q10x) ⟨[]⟩ ⟨[x0]⟩))]) m) fun x27 m =>
  bp (pur (aFieldAddr 8 x0) m) fun x28 m =>
  bp (pur (aLoad false 1 x28 m) m) fun x29 m =>
  bp (pur (lenK 1 x29 m) m) fun x30 m =>
  bp (pur (aBuild Q37 [(0, 1), (1, 1), (2, 1), (3, 1)] [(0, (.string ⟨#[99,111,109,109,117,110,105,116,105,101,115]⟩)), (1, x30), (2, (.int .i64 256)), (3, (.func (.func Q10y) ⟨[]⟩ ⟨[x0]⟩))]) m) fun x31 m =>
  bp (pur (aFieldAddr 9 x0) m) fun x32 m =>
  bp (pur (aLoad false 1 x32 m) m) fun x33 m =>
  bp (pur (lenK 1 x33 m) m) fun x34 m =>
  bp (pur (aBuild Q37 [(0, 1), (1, 1), (2, 1), (3, 1)] [(0, (.string ⟨#[112,111,108,105,99,121]⟩)), (1, x34), (2, (.int .i64 256)), (3, (.func (.func Q10z) ⟨[]⟩ ⟨[x3, x0]⟩))]) m) fun x35 m =>
  bp (pur (aFieldAddr 10 x0) m) fun x36 m =>
  bp (pur (aLoad false 1 x36 m) m) fun x37 m =>
  bp (pur (lenK 1 x37 m) m) fun x38 m =>
  bp (pur (aBuild Q37 [(0, 1), (1, 1), (2, 1), (3, 1)] [(0, (.string ⟨#[111,115,112,102]⟩)), (1, x38), (2, (.int .i64 256)), (3, (.func (.func Q110) ⟨[]⟩ ⟨[x3, x0]⟩))]) m) fun x39 m =>
  bp (pur (aFieldAddr 11 x0) m) fun x40 m =>
  bp (pur (aLoad false 1 x40 m) m) fun x41 m =>
  bp (pur (lenK 1 x41 m) m) fun x42 m =>
  bp (pur (aBuild Q37 [(0, 1), (1, 1), (2, 1), (3, 1)] [(0, (.string ⟨#[98,103,112]⟩)), (1, x42), (2, (.int .i64 256)), (3, (.func (.func Qya) ⟨[]⟩ ⟨[x3, x0]⟩))]) m) fun x43 m =>
  bp (aBuildSlice Q1fh Q37 4 10 [(0, x7), (1, x11), (2, x15), (3, x19), (4, x23), (5, x27), (6, x31), (7, x35), (8, x39), (9, x43)] m) fun x44 m =>
  some (x44, m)
theorem Q1je (G : Gt) (a0 : V) (m : M) : evFn Tryz.prog G.tab G.rds (drOf Tryz.prog G.tab) Tryz.f87 [a0] m = Qvj G a0 m :=
  evFn_of (r := fun ρ m => Qvj G (ρ 0) m) rfl rfl (fun ρ m => by kernel_rfl) m
def Q1j9 : Entry Tryz.prog := ⟨Q15o, Tryz.f87, Tryz.func87, by kernel_rfl, arg1 (fun G a0 m => Qvj G a0 m), okarg1 Q1je⟩
def Qa3 (G : Gt) (m : M) : R :=
  some ((.int .i64 (-1)), m)
def Q4q (G : Gt) : Nat → V → V → V → V → M → R
 | 0, _, _, _, _, _ => none
 | i + 1, p8, p7, p1, p0, m =>
  bp (pur (bin .lss false true .int p8 p7) m) fun x0 m =>
  brb x0
  (bp (pur (aIndexAddrSl 1 p0 p8) m) fun x1 m =>
  bp (pur (aLoad false 1 x1 m) m) fun x2 m =>
  bp (pur (bin .eql false true .str p1 x2) m) fun x3 m =>
  brb x3
  (some (p8, m))
  (bp (pur (bin .add true true .int p8 (.int .i64 1)) m) fun x4 m =>
  (Q4q G i) x4 p7 p1 p0 m))
  (Qa3 G m)
def Qa4 (G : Gt) (p8 p7 p1 p0 : V) (m : M) : R :=
  Q4q G G.rds p8 p7 p1 p0 m
def Qa5 (G : Gt) (p0 p1 : V) (m : M) : R :=
  bp (pur (lenK 1 p0 m) m) fun x5 m =>
  Qa4 G (.int .i64 0) x5 p1 p0 m
def Q5o (G : Gt) (p0 p1 : V) (m : M) : R :=
  Qa5 G p0 p1 m
theorem Qsr (G : Gt) (a0 a1 : V) (m : M) : evFn Tryz.prog G.tab G.rds (drOf Tryz.prog G.tab) Tryz.f88 [a0, a1] m = Q5o G a0 a1 m :=
  evFn_of (r := fun ρ m => Q5o G (ρ 0) (ρ 1) m) rfl rfl (tr (seqQ (f := fun ρ m => Qa5 G (ρ 0) (ρ 1) m) (tr (tr (seqQ (f := fun ρ m => Qa3 G m) (fun ρ m => by kernel_rfl)) (seqQ (f := fun ρ m => Qa4 G (ρ 8) (ρ 7) (ρ 1) (ρ 0) m) (tr (blockQ (loopQ (fun i ρ m => Q4q G i (ρ 8) (ρ 7) (ρ 1) (ρ 0) m) (fun _ _ => rfl) (fun i0 => fun ρ m => by kernel_rfl))) (fun ρ m => by kernel_rfl)))) (fun ρ m => by kernel_rfl))) (fun ρ m => by kernel_rfl)) m
def Qsq : Entry Tryz.prog := ⟨Q5j, Tryz.f88, Tryz.func88, by kernel_rfl, arg2 (fun G a0 a1 m => Q5o G a0 a1 m), okarg2 Qsr⟩
def Q14g (G : Gt) (p3 : V) (m : M) : R :=
  bp (G.tab Qa8 [p3, (.string ⟨#[32]⟩)] m) fun x0 m =>
  some (x0, m)
def Qr1 (G : Gt) : Nat → V → V → V → V → M → R
 | 0, _, _, _, _, _ => none
 | i + 1, p8, p7, p6, p3, m =>
  bp (pur (bin .lss false true .int p8 p7) m) fun x1 m =>
  brb x1
  (bp (pur (aIndexAddrSl 1 p6 p8) m) fun x2 m =>
  bp (pur (aLoad false 1 x2 m) m) fun x3 m =>
  bp (G.tab Q12y [x3] m) fun x4 m =>
  bp (aBuildSlice Q1 [(.string ⟨#[]⟩)] 1 1 [(0, x4)] m) fun x5 m =>
  bp (apS Q1 1 16 p3 x5 m) fun x6 m =>
  bp (pur (bin .add true true .int p8 (.int .i64 1)) m) fun x7 m =>
  (Qr1 G i) x7 p7 p6 x6 m)
  (Q14g G p3 m)
def Q14h (G : Gt) (p8 p7 p6 p3 : V) (m : M) : R :=
  Qr1 G G.rds p8 p7 p6 p3 m
def Q14i (G : Gt) (p0 p3 : V) (m : M) : R :=
  bp (pur (lenK 1 p0 m) m) fun x8 m =>
  Q14h G (.int .i64 0) x8 p0 p3 m
def Q14j (G : Gt) (p0 : V) (m : M) : R :=
  Q14i G p0 (.slice none 0 0) m
def Qy1 (G : Gt) (p0 : V) (m : M) : R :=
  Q14j G p0 m
theorem Q1ko (G : Gt) (a0 : V) (m : M) : evFn Tryz.prog G.tab G.rds (drOf Tryz.prog G.tab) Tryz.f89 [a0] m = Qy1 G a0 m :=
  evFn_of (r := fun ρ m => Qy1 G (ρ 0) m) rfl rfl (tr (seqQ (f := fun ρ m => Q14j G (ρ 0) m) (tr (seqQ (f := fun ρ m => Q14i G (ρ 0) (ρ 3) m) (tr (tr (seqQ (f := fun ρ m => Q14g G (ρ 3) m) (fun ρ m => by kernel_rfl)) (seqQ (f := fun ρ m => Q14h G (ρ 8) (ρ 7) (ρ 6) (ρ 3) m) (tr (blockQ (loopQ (fun i ρ m => Qr1 G i (ρ 8) (ρ 7) (ρ 6) (ρ 3) m) (fun _ _ => rfl) (fun i0 => fun ρ m => by kernel_rfl))) (fun ρ m => by kernel_rfl)))) (fun ρ m => by kernel_rfl))) (fun ρ m => by kernel_rfl))) (fun ρ m => by kernel_rfl)) m
def Q1kl : Entry Tryz.prog := ⟨Qmk, Tryz.f89, Tryz.func89, by kernel_rfl, arg1 (fun G a0 m => Qy1 G a0 m), okarg1 Q1ko⟩
def Qd7 (G : Gt) (p0 : V) (m : M) : R :=
  bp (pur (aIndexStr (.string ⟨#[0,1,1,2,1,2,2,3,1,2,2,3,2,3,3,4,1,2,2,3,2,3,3,4,2,3,3,4,3,4,4,5,1,2,2,3,2,3,3,4,2,3,3,4,3,4,4,5,2,3,3,4,3,4,4,5,3,4,4,5,4,5,5,6,1,2,2,3,2,3,3,4,2,3,3,4,3,4,4,5,2,3,3,4,3,4,4,5,3,4,4,5,4,5,5,6,2,3,3,4,3,4,4,5,3,4,4,5,4,5,5,6,3,4,4,5,4,5,5,6,4,5,5,6,5,6,6,7,1,2,2,3,2,3,3,4,2,3,3,4,3,4,4,5,2,3,3,4,3,4,4,5,3,4,4,5,4,5,5,6,2,3,3,4,3,4,4,5,3,4,4,5,4,5,5,6,3,4,4,5,4,5,5,6,4,5,5,6,5,6,6,7,2,3,3,4,3,4,4,5,3,4,4,5,4,5,5,6,3,4,4,5,4,5,5,6,4,5,5,6,5,6,6,7,3,4,4,5,4,5,5,6,4,5,5,6,5,6,6,7,4,5,5,6,5,6,6,7,5,6,6,7,6,7,7,8]⟩) p0) m) fun x0 m =>
  bp (conv (.int .i64) x0 m) fun x1 m =>
  some (x1, m)
theorem Q18z (G : Gt) (a0 : V) (m : M) : evFn Tryz.prog G.tab G.rds (drOf Tryz.prog G.tab) Tryz.f90 [a0] m = Qd7 G a0 m :=
  evFn_of (r := fun ρ m => Qd7 G (ρ 0) m) rfl rfl (fun ρ m => by kernel_rfl) m
def Q18v : Entry Tryz.prog := ⟨Qp5, Tryz.f90, Tryz.func90, by kernel_rfl, arg1 (fun G a0 m => Qd7 G a0 m), okarg1 Q18z⟩
def Qfr (G : Gt) (m : M) : R :=
  some ((.bool false), m)
def Q77 (G : Gt) : Nat → V → V → V → V → M → R
 | 0, _, _, _, _, _ => none
 | i + 1, p9, p8, p7, p3, m =>
  bp (pur (bin .lss false true .int p9 p8) m) fun x0 m =>
  brb x0
  (bp (pur (aIndexAddrSl 4 p7 p9) m) fun x1 m =>
  bp (pur (aLoad true 4 x1 m) m) fun x2 m =>
  bp (some (aNew Q4m Q60 m)) fun x3 m =>
  bp (unt (aStore 4 x3 x2 m)) fun _ m =>
  bp (pur (aLoad true 4 x3 m) m) fun x4 m =>
  bp (pur (aLookup (.struct [(0, 1, false, .int), (1, 1, false, .int), (2, 1, false, .int), (3, 1, false, .str)]) (.bool false) false p3 x4 m) m) fun x5 m =>
  brb x5
  (some ((.bool true), m))
  (bp (pur (aLoad true 4 x3 m) m) fun x6 m =>
  bp (unt (aMapUpdate (.struct [(0, 1, false, .int), (1, 1, false, .int), (2, 1, false, .int), (3, 1, false, .str)]) p3 x6 (.bool true) m)) fun _ m =>
  bp (pur (bin .add true true .int p9 (.int .i64 1)) m) fun x7 m =>
  (Q77 G i) x7 p8 p7 p3 m))
  (Qfr G m)
def Qfs (G : Gt) (p9 p8 p7 p3 : V) (m : M) : R :=
  Q77 G G.rds p9 p8 p7 p3 m
def Qft (G : Gt) (p0 p3 : V) (m : M) : R :=
  bp (pur (lenK 1 p0 m) m) fun x8 m =>
  Qfs G (.int .i64 0) x8 p0 p3 m
def Qfu (G : Gt) (p0 : V) (m : M) : R :=
  bp (some (aMakeMap m)) fun x9 m =>
  Qft G p0 x9 m
def Q8s (G : Gt) (p0 : V) (m : M) : R :=
  Qfu G p0 m
theorem Q10o (G : Gt) (a0 : V) (m : M) : evFn Tryz.prog G.tab G.rds (drOf Tryz.prog G.tab) Tryz.f91 [a0] m = Q8s G a0 m :=
  evFn_of (r := fun ρ m => Q8s G (ρ 0) m) rfl rfl (tr (seqQ (f := fun ρ m => Qfu G (ρ 0) m) (tr (seqQ (f := fun ρ m => Qft G (ρ 0) (ρ 3) m) (tr (tr (seqQ (f := fun ρ m => Qfr G m) (fun ρ m => by kernel_rfl)) (seqQ (f := fun ρ m => Qfs G (ρ 9) (ρ 8) (ρ 7) (ρ 3) m) (tr (blockQ (loopQ (fun i ρ m => Q77 G i (ρ 9) (ρ 8) (ρ 7) (ρ 3) m) (fun _ _ => rfl) (fun i0 => fun ρ m => by kernel_rfl))) (fun ρ m => by kernel_rfl)))) (fun ρ m => by kernel_rfl))) (fun ρ m => by kernel_rfl))) (fun ρ m => by kernel_rfl)) m
def Q10h : Entry Tryz.prog := ⟨Qhz, Tryz.f91, Tryz.func91, by kernel_rfl, arg1 (fun G a0 m => Q8s G a0 m), okarg1 Q10o⟩
def Q65 (G : Gt) (p0 p1 : V) (m : M) : R :=
  bp (G.tab Qe7 [p0] m) fun x0 m =>
  bp (pur (aNilCheck p0) m) fun x1 m =>
  bp (pur (aFieldAddr 1 x1) m) fun x2 m =>
  bp (pur (aLoad false 1 x2 m) m) fun x3 m =>
  bp (aAppend Q6x 1 1 x3 p1 m) fun x4 m =>
  bp (pur (aNilCheck p0) m) fun x5 m =>
  bp (pur (aFieldAddr 1 x5) m) fun x6 m =>
  bp (unt (aStore 1 x6 x4 m)) fun _ m =>
  bp (pur (lenK 0 p1 m) m) fun x7 m =>
  some (.tuple ⟨[x7, .nilIface]⟩, m)
theorem Qvk (G : Gt) (a0 a1 : V) (m : M) : evFn Tryz.prog G.tab G.rds (drOf Tryz.prog G.tab) Tryz.f95 [a0, a1] m = Q65 G a0 a1 m :=
  evFn_of (r := fun ρ m => Q65 G (ρ 0) (ρ 1) m) rfl rfl (fun ρ m => by kernel_rfl) m
def Qve : Entry Tryz.prog := ⟨Qz, Tryz.f95, Tryz.func95, by kernel_rfl, arg2 (fun G a0 a1 m => Q65 G a0 a1 m), okarg2 Qvk⟩
def Qk9 (G : Gt) (p33 p0 : V) (m : M) : R :=
  brb p33
  (bp (pur (bin .add true true .str (.string ⟨#[34]⟩) p0) m) fun x0 m =>
  bp (pur (bin .add true true .str x0 (.string ⟨#[34]⟩)) m) fun x1 m =>
  some (.tuple ⟨[x1, (.bool true)]⟩, m))
  (some (.tuple ⟨[p0, (.bool true)]⟩, m))
def Q17r (G : Gt) (p0 : V) (m : M) : R :=
  bp (pur (bin .eql true true .str p0 (.string ⟨#[]⟩)) m) fun x2 m =>
  brb x2
  (Qk9 G (.bool true) p0 m)
  (bp (G.tab Qrk [p0, (.string ⟨#[32,123,125,59,91,93,35]⟩)] m) fun x3 m =>
  brb x3
  (Qk9 G (.bool true) p0 m)
  (bp (G.tab Qc8 [p0, (.string ⟨#[47,42]⟩)] m) fun x4 m =>
  Qk9 G x4 p0 m))
def Qka (G : Gt) (k0 : V → V → V → V → M → R) (p22 p9 p8 p7 p0 : V) (m : M) : R :=
  brb p22
  (some (.tuple ⟨[(.string ⟨#[]⟩), (.bool false)]⟩, m))
  (bp (pur (bin .add true true .int p9 (.int .i64 1)) m) fun x5 m =>
  k0 x5 p8 p7 p0 m)
def Q17s (G : Gt) (k0 : V → V → V → V → M → R) (p5 p9 p8 p7 p0 : V) (m : M) : R :=
  bp (pur (bin .lss true true .int p5 (.int .u8 32)) m) fun x6 m =>
  brb x6
  (Qka G k0 (.bool true) p9 p8 p7 p0 m)
  (bp (pur (bin .gtr true true .int p5 (.int .u8 126)) m) fun x7 m =>
  brb x7
  (Qka G k0 (.bool true) p9 p8 p7 p0 m)
  (bp (pur (bin .eql true true .int p5 (.int .u8 34)) m) fun x8 m =>
  Qka G k0 x8 p9 p8 p7 p0 m))
def Q17t (G : Gt) (k0 : V → V → V → V → M → R) (p7 p9 p8 p0 : V) (m : M) : R :=
  bp (pur (aIndexAddrSl 1 p7 p9) m) fun x9 m =>
  bp (pur (aLoad false 1 x9 m) m) fun x10 m =>
  Q17s G k0 x10 p9 p8 p7 p0 m
def Q17u (G : Gt) (k0 : V → V → V → V → M → R) (p10 p7 p9 p8 p0 : V) (m : M) : R :=
  brb p10
  (Q17t G k0 p7 p9 p8 p0 m)
  (Q17r G p0 m)
def Q66 (G : Gt) : Nat → V → V → V → V → M → R
 | 0, _, _, _, _, _ => none
 | i + 1, p9, p8, p7, p0, m =>
  bp (pur (bin .lss false true .int p9 p8) m) fun x11 m =>
  Q17u G (Q66 G i) x11 p7 p9 p8 p0 m
def Q17v (G : Gt) (p9 p8 p7 p0 : V) (m : M) : R :=
  Q66 G G.rds p9 p8 p7 p0 m
def Q17w (G : Gt) (p0 : V) (m : M) : R :=
  bp (conv .bytes p0 m) fun x12 m =>
  bp (pur (lenK 1 x12 m) m) fun x13 m =>
  Q17v G (.int .i64 0) x13 x12 p0 m
def Q10p (G : Gt) (p0 : V) (m : M) : R :=
  Q17w G p0 m
theorem Q1m7 (G : Gt) (a0 : V) (m : M) : evFn Tryz.prog G.tab G.rds (drOf Tryz.prog G.tab) Tryz.f97 [a0] m = Q10p G a0 m :=
  evFn_of (r := fun ρ m => Q10p G (ρ 0) m) rfl rfl (tr (seqQ (f := fun ρ m => Q17w G (ρ 0) m) (tr (tr (seqQ (f := fun ρ m => Q17r G (ρ 0) m) (tr (tr seqD (seqQ (f := fun ρ m => Qk9 G (ρ 33) (ρ 0) m) (fun ρ m => by kernel_rfl))) (fun ρ m => by kernel_rfl))) (seqQ (f := fun ρ m => Q17v G (ρ 9) (ρ 8) (ρ 7) (ρ 0) m) (tr (blockQ (loopQ (fun i ρ m => Q66 G i (ρ 9) (ρ 8) (ρ 7) (ρ 0) m) (fun _ _ => rfl) (fun i0 => tr (seqQ (f := fun ρ m => Q17u G (Q66 G i0) (ρ 10) (ρ 7) (ρ 9) (ρ 8) (ρ 0) m) (tr (seqQ (f := fun ρ m => Q17t G (Q66 G i0) (ρ 7) (ρ 9) (ρ 8) (ρ 0) m) (tr (tr seqD (blockQ (seqQ (f := fun ρ m => Q17s G (Q66 G i0) (ρ 5) (ρ 9) (ρ 8) (ρ 7) (ρ 0) m) (tr (seqQ (f := fun ρ m => Qka G (Q66 G i0) (ρ 22) (ρ 9) (ρ 8) (ρ 7) (ρ 0) m) (fun ρ m => by kernel_rfl)) (fun ρ m => by kernel_rfl))))) (fun ρ m => by kernel_rfl))) (fun ρ m => by kernel_rfl))) (fun ρ m => by kernel_rfl)))) (fun ρ m => by kernel_rfl)))) (fun ρ m => by kernel_rfl))) (fun ρ m => by kernel_rfl)) m
def Q1m5 : Entry Tryz.prog := ⟨Q1dk, Tryz.f97, Tryz.func97, by kernel_rfl, arg1 (fun G a0 m => Q10p G a0 m), okarg1 Q1m7⟩
end
end Go.Ab.Sh
