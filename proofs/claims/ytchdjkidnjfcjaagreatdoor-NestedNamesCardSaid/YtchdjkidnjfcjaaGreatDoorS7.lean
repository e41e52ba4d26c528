/-
  Functions of the program as plain definitions, each with the theorem that it is what the evaluator makes of the code. No conditions.
-/
import Derived.Test.YtchdjkidnjfcjaaGreatDoorAb5
import Derived.Test.YtchdjkidnjfcjaaGreatDoorZ
import Derived.KernelRfl
import Derived.Test.YtchdjkidnjfcjaaGreatDoorProg
set_option linter.unusedVariables false
set_option maxRecDepth 100000
namespace Go.Ab.Sh
open Go Go.Ab Go.Proofs
noncomputable section
def Q82 (G : Gt) (p5 p2 : V) (m : M) : R :=
  bp (pur (aLoad true 4 p5 m) m) fun x0 m =>
  bp (unt (aStore 4 p2 x0 m)) fun _ m =>
  ob (ob (aLoad true 4 p2 m) fun v => ob (some [(.bool true), (.int .i64 0)]) fun l => some (v :: l)) fun l => some (resVal l, m)
def Qce (G : Gt) (p88 p5 p2 p1 p9 : V) (m : M) : R :=
  brb p88
  (bp (pur (aLoad true 4 p5 m) m) fun x21 m =>
  bp (unt (aStore 4 p2 x21 m)) fun _ m =>
  ob (ob (aLoad true 4 p2 m) fun v => ob (some [(.bool false), (.int .i64 71)]) fun l => some (v :: l)) fun l => some (resVal l, m))
  (bp (pur (aLoad false 1 p1 m) m) fun x22 m =>
  bp (pur (bin .add true true .int p9 (.int .i64 2)) m) fun x23 m =>
  bp (G.tab Q3m [x22, x23] m) fun x24 m =>
  bp (pur (bin .add true true .int p9 (.int .i64 1)) m) fun x25 m =>
  bp (pur (aSliceStr x24 (some (.int .i64 1)) (some x25)) m) fun x26 m =>
  bp (pur (aFieldAddr 1 p5) m) fun x27 m =>
  bp (unt (aStore 1 x27 x26 m)) fun _ m =>
  Q82 G p5 p2 m)
def Qra (G : Gt) (p9 p1 p5 p2 : V) (m : M) : R :=
  bp (pur (bin .lss true true .int p9 (.int .i64 0)) m) fun x28 m =>
  brb x28
  (Qce G (.bool true) p5 p2 p1 p9 m)
  (bp (pur (aLoad false 1 p1 m) m) fun x29 m =>
  bp (pur (aNilCheck x29) m) fun x30 m =>
  bp (pur (aFieldAddr 0 x30) m) fun x31 m =>
  bp (pur (aLoad false 1 x31 m) m) fun x32 m =>
  bp (pur (bin .add true true .int p9 (.int .i64 1)) m) fun x33 m =>
  bp (pur (aIndexStr x32 x33) m) fun x34 m =>
  bp (pur (bin .eql true true .int x34 (.int .u8 10)) m) fun x35 m =>
  Qce G x35 p5 p2 p1 p9 m)
def Qrb (G : Gt) (p68 p1 p5 p2 p7 : V) (m : M) : R :=
  brb p68
  (bp (pur (aLoad false 1 p1 m) m) fun x36 m =>
  bp (pur (aNilCheck x36) m) fun x37 m =>
  bp (pur (aFieldAddr 0 x37) m) fun x38 m =>
  bp (pur (aLoad false 1 x38 m) m) fun x39 m =>
  bp (pur (aSliceStr x39 (some (.int .i64 1)) none) m) fun x40 m =>
  bp (G.tab Qkf [x40, (.string ⟨#[34,10]⟩)] m) fun x41 m =>
  Qra G x41 p1 p5 p2 m)
  (bp (pur (bin .geq true true .int p7 (.int .i64 0)) m) fun x42 m =>
  brb x42
  (bp (conv (.int .u8) p7 m) fun x43 m =>
  bp (pur (bin .add true true .int (.int .u8 2) x43) m) fun x44 m =>
  bp (pur (aLoad false 1 p1 m) m) fun x45 m =>
  bp (G.tab Q3m [x45, (.int .i64 1)] m) fun x46 m =>
  bp (pur (aFieldAddr 0 p5) m) fun x47 m =>
  bp (unt (aStore 1 x47 x44 m)) fun _ m =>
  bp (pur (aFieldAddr 1 p5) m) fun x48 m =>
  bp (unt (aStore 1 x48 x46 m)) fun _ m =>
  Q82 G p5 p2 m)
  (bp (pur (aLoad false 1 p1 m) m) fun x49 m =>
  bp (pur (aLoad false 1 p1 m) m) fun x50 m =>
  bp (pur (aLoad false 1 p1 m) m) fun x51 m =>
  bp (G.tab Qio [x50, (.func (.func Qy7) ⟨[x51]⟩ ⟨[]⟩)] m) fun x52 m =>
  ckB (again (pur (aLoad false 1 p1 m) m) x49 && true)
  (bp (G.tab Q3m [x49, x52] m) fun x53 m =>
  bp (pur (aFieldAddr 1 p5) m) fun x54 m =>
  bp (unt (aStore 1 x54 x53 m)) fun _ m =>
  Q82 G p5 p2 m)))
def Qrc (G : Gt) (p48 p1 p5 p2 p6 p7 : V) (m : M) : R :=
  brb p48
  (bp (pur (aLoad false 1 p1 m) m) fun x9 m =>
  bp (pur (aNilCheck x9) m) fun x10 m =>
  bp (pur (aFieldAddr 0 x10) m) fun x11 m =>
  bp (pur (aLoad false 1 x11 m) m) fun x12 m =>
  bp (pur (aSliceStr x12 (some (.int .i64 2)) none) m) fun x13 m =>
  bp (G.tab Qje [x13, (.string ⟨#[42,47]⟩)] m) fun x14 m =>
  bp (pur (bin .lss true true .int x14 (.int .i64 0)) m) fun x15 m =>
  brb x15
  (bp (pur (aLoad true 4 p5 m) m) fun x16 m =>
  bp (unt (aStore 4 p2 x16 m)) fun _ m =>
  ob (ob (aLoad true 4 p2 m) fun v => ob (some [(.bool false), (.int .i64 71)]) fun l => some (v :: l)) fun l => some (resVal l, m))
  (bp (pur (aLoad false 1 p1 m) m) fun x17 m =>
  bp (pur (bin .add true true .int x14 (.int .i64 4)) m) fun x18 m =>
  bp (G.tab Q3m [x17, x18] m) fun x19 m =>
  bp (pur (aLoad true 4 p5 m) m) fun x20 m =>
  bp (unt (aStore 4 p2 x20 m)) fun _ m =>
  ob (ob (aLoad true 4 p2 m) fun v => ob (some [(.bool false), (.int .i64 0)]) fun l => some (v :: l)) fun l => some (resVal l, m)))
  (bp (pur (bin .eql true true .int p6 (.int .u8 34)) m) fun x55 m =>
  Qrb G x55 p1 p5 p2 p7 m)
def Qrd (G : Gt) (p39 p1 p5 p2 p6 p7 : V) (m : M) : R :=
  brb p39
  (bp (pur (aLoad false 1 p1 m) m) fun x4 m =>
  bp (pur (aLoad false 1 p1 m) m) fun x5 m =>
  bp (G.tab Qio [x5, (.func (.func Q198) ⟨[]⟩ ⟨[p1]⟩)] m) fun x6 m =>
  ckB (again (pur (aLoad false 1 p1 m) m) x4 && true)
  (bp (G.tab Q3m [x4, x6] m) fun x7 m =>
  bp (pur (aLoad true 4 p5 m) m) fun x8 m =>
  bp (unt (aStore 4 p2 x8 m)) fun _ m =>
  ob (ob (aLoad true 4 p2 m) fun v => ob (some [(.bool false), (.int .i64 0)]) fun l => some (v :: l)) fun l => some (resVal l, m)))
  (bp (pur (aLoad false 1 p1 m) m) fun x56 m =>
  bp (pur (aNilCheck x56) m) fun x57 m =>
  bp (pur (aFieldAddr 0 x57) m) fun x58 m =>
  bp (pur (aLoad false 1 x58 m) m) fun x59 m =>
  bp (G.tab Q2c [x59, (.string ⟨#[47,42]⟩)] m) fun x60 m =>
  Qrc G x60 p1 p5 p2 p6 p7 m)
def Qe1 (G : Gt) (p29 p1 p5 p2 p6 p7 : V) (m : M) : R :=
  brb p29
  (bp (pur (aLoad false 1 p1 m) m) fun x1 m =>
  bp (G.tab Q3m [x1, (.int .i64 1)] m) fun x2 m =>
  bp (pur (aLoad true 4 p5 m) m) fun x3 m =>
  bp (unt (aStore 4 p2 x3 m)) fun _ m =>
  ob (ob (aLoad true 4 p2 m) fun v => ob (some [(.bool false), (.int .i64 0)]) fun l => some (v :: l)) fun l => some (resVal l, m))
  (bp (pur (bin .eql true true .int p6 (.int .u8 35)) m) fun x61 m =>
  Qrd G x61 p1 p5 p2 p6 p7 m)
def Qre (G : Gt) (p6 p1 p5 p2 p7 : V) (m : M) : R :=
  bp (pur (bin .eql true true .int p6 (.int .u8 32)) m) fun x62 m =>
  brb x62
  (Qe1 G (.bool true) p1 p5 p2 p6 p7 m)
  (bp (pur (bin .eql true true .int p6 (.int .u8 10)) m) fun x63 m =>
  Qe1 G x63 p1 p5 p2 p6 p7 m)
def Qrf (G : Gt) (p6 p1 p5 p2 : V) (m : M) : R :=
  bp (G.tab Qip [(.string ⟨#[123,125,59,91,93]⟩), p6] m) fun x64 m =>
  Qre G p6 p1 p5 p2 x64 m
def Qrg (G : Gt) (p1 p5 p2 : V) (m : M) : R :=
  bp (pur (aLoad false 1 p1 m) m) fun x65 m =>
  bp (pur (aNilCheck x65) m) fun x66 m =>
  bp (pur (aFieldAddr 0 x66) m) fun x67 m =>
  bp (pur (aLoad false 1 x67 m) m) fun x68 m =>
  bp (pur (aIndexStr x68 (.int .i64 0)) m) fun x69 m =>
  Qrf G x69 p1 p5 p2 m
def Qrh (G : Gt) (p1 p2 : V) (m : M) : R :=
  bp (pur (aLoad false 1 p1 m) m) fun x70 m =>
  bp (pur (aNilCheck x70) m) fun x71 m =>
  bp (pur (aFieldAddr 1 x71) m) fun x72 m =>
  bp (pur (aLoad true 2 x72 m) m) fun x73 m =>
  bp (pur (aBuild Q7c [(0, 1), (1, 1), (2, 2)] [(0, (.int .u8 1)), (2, x73)]) m) fun x74 m =>
  bp (some (aNew Q7d Q7c m)) fun x75 m =>
  bp (unt (aStore 4 x75 x74 m)) fun _ m =>
  Qrg G p1 x75 p2 m
def Qiq (G : Gt) (p0 : V) (m : M) : R :=
  bp (some (aNew Q1l1 (Value.cells p0).toList m)) fun x76 m =>
  bp (some (aNew Q7d Q7c m)) fun x77 m =>
  Qrh G x76 x77 m
theorem Q1e8 (G : Gt) (a0 : V) (m : M) : evFn Tryz.prog G.tab G.rds (drOf Tryz.prog G.tab) Tryz.f59 [a0] m = Qiq G a0 m :=
  evFn_of (r := fun ρ m => Qiq G (ρ 0) m) rfl rfl (tr (seqQ (f := fun ρ m => Qrh G (ρ 1) (ρ 2) m) (tr (seqQ (f := fun ρ m => Qrg G (ρ 1) (ρ 5) (ρ 2) m) (tr (seqQ (f := fun ρ m => Qrf G (ρ 6) (ρ 1) (ρ 5) (ρ 2) m) (tr (tr (seqQ (f := fun ρ m => Q82 G (ρ 5) (ρ 2) m) (fun ρ m => by kernel_rfl)) (seqQ (f := fun ρ m => Qre G (ρ 6) (ρ 1) (ρ 5) (ρ 2) (ρ 7) m) (tr (blockQ (seqQ (f := fun ρ m => Qe1 G (ρ 29) (ρ 1) (ρ 5) (ρ 2) (ρ 6) (ρ 7) m) (tr (condQ (refQ) (seqQ (f := fun ρ m => Qrd G (ρ 39) (ρ 1) (ρ 5) (ρ 2) (ρ 6) (ρ 7) m) (tr (condQ (refQ) (seqQ (f := fun ρ m => Qrc G (ρ 48) (ρ 1) (ρ 5) (ρ 2) (ρ 6) (ρ 7) m) (tr (condQ (refQ) (seqQ (f := fun ρ m => Qrb G (ρ 68) (ρ 1) (ρ 5) (ρ 2) (ρ 7) m) (tr (condQ (seqQ (f := fun ρ m => Qra G (ρ 9) (ρ 1) (ρ 5) (ρ 2) m) (tr (tr seqD (seqQ (f := fun ρ m => Qce G (ρ 88) (ρ 5) (ρ 2) (ρ 1) (ρ 9) m) (fun ρ m => by kernel_rfl))) (fun ρ m => by kernel_rfl))) (refQ)) (fun ρ m => by kernel_rfl)))) (fun ρ m => by kernel_rfl)))) (fun ρ m => by kernel_rfl)))) (fun ρ m => by kernel_rfl)))) (fun ρ m => by kernel_rfl)))) (fun ρ m => by kernel_rfl))) (fun ρ m => by kernel_rfl))) (fun ρ m => by kernel_rfl))) (fun ρ m => by kernel_rfl)) m
def Q1e9 : Entry Tryz.prog := ⟨Qvt, Tryz.f59, Tryz.func59, by kernel_rfl, arg1 (fun G a0 m => Qiq G a0 m), okarg1 Q1e8⟩
def Qir (G : Gt) (p0 : V) (m : M) : R :=
  bp (pur (aNilCheck p0) m) fun x0 m =>
  bp (pur (aFieldAddr 0 x0) m) fun x1 m =>
  bp (pur (aLoad false 1 x1 m) m) fun x2 m =>
  bp (pur (lenK 1 x2 m) m) fun x3 m =>
  bp (pur (bin .eql true true .int x3 (.int .i64 0)) m) fun x4 m =>
  brb x4
  (some ((.int .u8 0), m))
  (bp (pur (aNilCheck p0) m) fun x5 m =>
  bp (pur (aFieldAddr 0 x5) m) fun x6 m =>
  bp (pur (aLoad false 1 x6 m) m) fun x7 m =>
  bp (pur (aIndexAddrSl 4 x7 (.int .i64 0)) m) fun x8 m =>
  bp (pur (aFieldAddr 0 x8) m) fun x9 m =>
  bp (pur (aLoad false 1 x9 m) m) fun x10 m =>
  some (x10, m))
theorem Q1ea (G : Gt) (a0 : V) (m : M) : evFn Tryz.prog G.tab G.rds (drOf Tryz.prog G.tab) Tryz.f60 [a0] m = Qir G a0 m :=
  evFn_of (r := fun ρ m => Qir G (ρ 0) m) rfl rfl (fun ρ m => by kernel_rfl) m
def Q1eb : Entry Tryz.prog := ⟨Q1c, Tryz.f60, Tryz.func60, by kernel_rfl, arg1 (fun G a0 m => Qir G a0 m), okarg1 Q1ea⟩
def Qis (G : Gt) (p2 p0 p1 : V) (m : M) : R :=
  bp (some (aNew Q9 (Value.cells p2).toList m)) fun x0 m =>
  bp (pur (aNilCheck p0) m) fun x1 m =>
  bp (pur (aFieldAddr 1 x1) m) fun x2 m =>
  bp (pur (aLoad false 1 x2 m) m) fun x3 m =>
  bp (pur (bin .eql true true .int x3 (.int .i64 0)) m) fun x4 m =>
  brb x4
  (bp (pur (aLoad true 2 x0 m) m) fun x5 m =>
  bp (pur (aNilCheck p0) m) fun x6 m =>
  bp (pur (aFieldAddr 1 x6) m) fun x7 m =>
  bp (unt (aStore 1 x7 p1 m)) fun _ m =>
  ckB (again (pur (aLoad true 2 x0 m) m) x5 && true)
  (bp (pur (aNilCheck p0) m) fun x8 m =>
  bp (pur (aFieldAddr 2 x8) m) fun x9 m =>
  bp (unt (aStore 2 x9 x5 m)) fun _ m =>
  some (.tuple ⟨[]⟩, m)))
  (some (.tuple ⟨[]⟩, m))
theorem Q1ec (G : Gt) (a0 a1 a2 : V) (m : M) : evFn Tryz.prog G.tab G.rds (drOf Tryz.prog G.tab) Tryz.f61 [a0, a1, a2] m = Qis G a2 a0 a1 m :=
  evFn_of (r := fun ρ m => Qis G (ρ 2) (ρ 0) (ρ 1) m) rfl rfl (fun ρ m => by kernel_rfl) m
def Q1ed : Entry Tryz.prog := ⟨Q2d, Tryz.f61, Tryz.func61, by kernel_rfl, arg3 (fun G a0 a1 a2 m => Qis G a2 a0 a1 m), okarg3 Q1ec⟩
def Qkg (G : Gt) (p0 : V) (m : M) : R :=
  bp (some (aNew Q7d Q7c m)) fun x0 m =>
  bp (pur (aNilCheck p0) m) fun x1 m =>
  bp (pur (aFieldAddr 0 x1) m) fun x2 m =>
  bp (pur (aLoad false 1 x2 m) m) fun x3 m =>
  bp (pur (aIndexAddrSl 4 x3 (.int .i64 0)) m) fun x4 m =>
  bp (pur (aLoad true 4 x4 m) m) fun x5 m =>
  bp (some (aNew Q7d Q7c m)) fun x6 m =>
  bp (unt (aStore 4 x6 x5 m)) fun _ m =>
  bp (pur (aNilCheck p0) m) fun x7 m =>
  bp (pur (aFieldAddr 0 x7) m) fun x8 m =>
  bp (pur (aLoad false 1 x8 m) m) fun x9 m =>
  bp (pur (aSliceSl 4 x9 (some (.int .i64 1)) none) m) fun x10 m =>
  bp (pur (aNilCheck p0) m) fun x11 m =>
  bp (pur (aFieldAddr 0 x11) m) fun x12 m =>
  bp (unt (aStore 1 x12 x10 m)) fun _ m =>
  bp (pur (aLoad true 4 x6 m) m) fun x13 m =>
  bp (unt (aStore 4 x0 x13 m)) fun _ m =>
  ob (ob (aLoad true 4 x0 m) fun v => ob (some []) fun l => some (v :: l)) fun l => some (resVal l, m)
theorem Q1f9 (G : Gt) (a0 : V) (m : M) : evFn Tryz.prog G.tab G.rds (drOf Tryz.prog G.tab) Tryz.f62 [a0] m = Qkg G a0 m :=
  evFn_of (r := fun ρ m => Qkg G (ρ 0) m) rfl rfl (fun ρ m => by kernel_rfl) m
def Q1fa : Entry Tryz.prog := ⟨Q3n, Tryz.f62, Tryz.func62, by kernel_rfl, arg1 (fun G a0 m => Qkg G a0 m), okarg1 Q1f9⟩
def Q4r (G : Gt) (m : M) : R :=
  some ((.slice none 0 0), m)
def Q8e (G : Gt) (p129 p0 p6 p1 : V) (m : M) : R :=
  brb p129
  (bp (G.tab Q3n [p0] m) fun x14 m =>
  bp (some (aNew Q7d Q7c m)) fun x15 m =>
  bp (unt (aStore 4 x15 x14 m)) fun _ m =>
  bp (pur (aFieldAddr 2 p6) m) fun x16 m =>
  bp (unt (aStore 1 x16 (.bool true) m)) fun _ m =>
  bp (pur (bin .add true true .int p1 (.int .i64 1)) m) fun x17 m =>
  bp (pur (aFieldAddr 2 x15) m) fun x18 m =>
  bp (pur (aLoad true 2 x18 m) m) fun x19 m =>
  bp (G.tab Qin [p0, x17, x19] m) fun x20 m =>
  bp (pur (aFieldAddr 3 p6) m) fun x21 m =>
  bp (unt (aStore 1 x21 x20 m)) fun _ m =>
  bp (pur (aLoad true 4 p6 m) m) fun x22 m =>
  bp (aBuildSlice Q2 Q4 4 1 [(0, x22)] m) fun x23 m =>
  some (x23, m))
  (bp (pur (aNilCheck p0) m) fun x24 m =>
  bp (pur (aFieldAddr 0 x24) m) fun x25 m =>
  bp (pur (aLoad false 1 x25 m) m) fun x26 m =>
  bp (pur (aIndexAddrSl 4 x26 (.int .i64 0)) m) fun x27 m =>
  bp (pur (aFieldAddr 2 x27) m) fun x28 m =>
  bp (pur (aLoad true 2 x28 m) m) fun x29 m =>
  bp (G.tab Q2d [p0, (.int .i64 130), x29] m) fun x30 m =>
  Q4r G m)
def Q4s (G : Gt) (p107 p0 p7 p6 p1 : V) (m : M) : R :=
  brb p107
  (bp (pur (aNilCheck p0) m) fun x7 m =>
  bp (pur (aFieldAddr 0 x7) m) fun x8 m =>
  bp (pur (aLoad false 1 x8 m) m) fun x9 m =>
  bp (pur (aIndexAddrSl 4 x9 (.int .i64 0)) m) fun x10 m =>
  bp (pur (aFieldAddr 2 x10) m) fun x11 m =>
  bp (pur (aLoad true 2 x11 m) m) fun x12 m =>
  bp (G.tab Q2d [p0, (.int .i64 140), x12] m) fun x13 m =>
  Q4r G m)
  (bp (G.tab Q1c [p0] m) fun x31 m =>
  bp (pur (bin .eql true true .int x31 (.int .u8 2)) m) fun x32 m =>
  brb x32
  (bp (pur (lenK 1 p7 m) m) fun x33 m =>
  bp (pur (bin .eql true true .int x33 (.int .i64 0)) m) fun x34 m =>
  Q8e G x34 p0 p6 p1 m)
  (Q8e G (.bool false) p0 p6 p1 m))
def Qhq (G : Gt) (p95 p0 p7 p6 p1 : V) (m : M) : R :=
  brb p95
  (bp (G.tab Q3n [p0] m) fun x2 m =>
  bp (pur (lenK 1 p7 m) m) fun x3 m =>
  bp (pur (bin .gtr true true .int x3 (.int .i64 0)) m) fun x4 m =>
  brb x4
  (some (p7, m))
  (bp (pur (aLoad true 4 p6 m) m) fun x5 m =>
  bp (aBuildSlice Q2 Q4 4 1 [(0, x5)] m) fun x6 m =>
  some (x6, m)))
  (bp (G.tab Q1c [p0] m) fun x35 m =>
  bp (pur (bin .eql true true .int x35 (.int .u8 2)) m) fun x36 m =>
  brb x36
  (bp (pur (lenK 1 p7 m) m) fun x37 m =>
  bp (pur (bin .eql true true .int x37 (.int .i64 0)) m) fun x38 m =>
  brb x38
  (bp (pur (bin .eql true true .int p1 (.int .i64 32)) m) fun x39 m =>
  Q4s G x39 p0 p7 p6 p1 m)
  (Q4s G (.bool false) p0 p7 p6 p1 m))
  (Q4s G (.bool false) p0 p7 p6 p1 m))
def Qhr (G : Gt) (p88 p0 p5 p7 p6 p1 : V) (m : M) : R :=
  brb p88
  (bp (pur (aLoad true 2 p5 m) m) fun x0 m =>
  bp (G.tab Q2d [p0, (.int .i64 71), x0] m) fun x1 m =>
  Q4r G m)
  (bp (G.tab Q1c [p0] m) fun x40 m =>
  bp (pur (bin .eql true true .int x40 (.int .u8 4)) m) fun x41 m =>
  Qhq G x41 p0 p7 p6 p1 m)
def Q4t (G : Gt) (p0 p5 p7 p6 p1 : V) (m : M) : R :=
  bp (G.tab Q1c [p0] m) fun x42 m =>
  bp (pur (bin .eql true true .int x42 (.int .u8 0)) m) fun x43 m =>
  Qhr G x43 p0 p5 p7 p6 p1 m
def Q7h (G : Gt) (p64 p0 p5 p7 p6 p1 : V) (m : M) : R :=
  brb p64
  (bp (G.tab Q3n [p0] m) fun x44 m =>
  Q4t G p0 p5 p7 p6 p1 m)
  (bp (G.tab Q1c [p0] m) fun x45 m =>
  bp (pur (bin .neq true true .int x45 (.int .u8 0)) m) fun x46 m =>
  brb x46
  (bp (pur (aNilCheck p0) m) fun x47 m =>
  bp (pur (aFieldAddr 0 x47) m) fun x48 m =>
  bp (pur (aLoad false 1 x48 m) m) fun x49 m =>
  bp (pur (aIndexAddrSl 4 x49 (.int .i64 0)) m) fun x50 m =>
  bp (pur (aFieldAddr 2 x50) m) fun x51 m =>
  bp (pur (aLoad true 2 x51 m) m) fun x52 m =>
  bp (G.tab Q2d [p0, (.int .i64 130), x52] m) fun x53 m =>
  some ((.slice none 0 0), m))
  (Q4t G p0 p5 p7 p6 p1 m))
def Qg2 (G : Gt) (p0 p7 p5 p6 p1 : V) (m : M) : R :=
  bp (G.tab Q1c [p0] m) fun x54 m =>
  bp (pur (bin .eql true true .int x54 (.int .u8 6)) m) fun x55 m =>
  brb x55
  (bp (pur (lenK 1 p7 m) m) fun x56 m =>
  bp (pur (bin .gtr true true .int x56 (.int .i64 0)) m) fun x57 m =>
  Q7h G x57 p0 p5 p7 p6 p1 m)
  (Q7h G (.bool false) p0 p5 p7 p6 p1 m)
def Q7i (G : Gt) : Nat → V → V → V → V → V → V → V → V → V → M → R
 | 0, _, _, _, _, _, _, _, _, _, _ => none
 | i + 1, p31, p30, p29, p7, p6, p8, p0, p5, p1, m =>
  bp (pur (bin .lss false true .int p31 p30) m) fun x58 m =>
  brb x58
  (bp (pur (aIndexAddrSl 1 p29 p31) m) fun x59 m =>
  bp (pur (aLoad false 1 x59 m) m) fun x60 m =>
  bp (pur (aFieldAddr 0 p6) m) fun x61 m =>
  bp (pur (aLoad false 1 x61 m) m) fun x62 m =>
  bp (aBuildSlice Q1 [(.string ⟨#[]⟩)] 1 1 [(0, x60)] m) fun x63 m =>
  bp (pur (aFieldAddr 1 p6) m) fun x64 m =>
  bp (pur (aLoad false 1 x64 m) m) fun x65 m =>
  bp (pur (aFieldAddr 1 p8) m) fun x66 m =>
  bp (pur (aLoad false 1 x66 m) m) fun x67 m =>
  bp (pur (aIndexAddrSl 2 x67 p31) m) fun x68 m =>
  bp (pur (aLoad true 2 x68 m) m) fun x69 m =>
  bp (aBuildSlice Q9 Q5 2 1 [(0, x69)] m) fun x70 m =>
  bp (G.tab Q5g [x62] m) fun x71 m =>
  ckB (again (pur (aLoad false 1 x64 m) m) x65 && (again (pur (aLoad false 1 x66 m) m) x67 && (again (pur (aLoad true 2 x68 m) m) x69 && true)))
  (bp (apS Q1 1 16 x71 x63 m) fun x72 m =>
  ckB (again (pur (aLoad false 1 x64 m) m) x65 && (again (pur (aLoad false 1 x66 m) m) x67 && (again (pur (aLoad true 2 x68 m) m) x69 && true)))
  (bp (G.tab Q4g [x65] m) fun x73 m =>
  ckB (again (pur (aLoad false 1 x66 m) m) x67 && (again (pur (aLoad true 2 x68 m) m) x69 && true))
  (bp (apS Q9 2 16 x73 x70 m) fun x74 m =>
  bp (pur (aBuild Q4 [(0, 1), (1, 1), (2, 1), (3, 1)] [(0, x72), (1, x74)]) m) fun x75 m =>
  bp (aBuildSlice Q2 Q4 4 1 [(0, x75)] m) fun x76 m =>
  bp (apS Q2 4 80 p7 x76 m) fun x77 m =>
  bp (pur (bin .add true true .int p31 (.int .i64 1)) m) fun x78 m =>
  (Q7i G i) x78 p30 p29 x77 p6 p8 p0 p5 p1 m))))
  (Qg2 G p0 p7 p5 p6 p1 m)
def Qg3 (G : Gt) (p31 p30 p29 p7 p6 p8 p0 p5 p1 : V) (m : M) : R :=
  Q7i G G.rds p31 p30 p29 p7 p6 p8 p0 p5 p1 m
def Qg4 (G : Gt) (p8 p7 p6 p0 p5 p1 : V) (m : M) : R :=
  bp (pur (aFieldAddr 0 p8) m) fun x79 m =>
  bp (pur (aLoad false 1 x79 m) m) fun x80 m =>
  bp (pur (lenK 1 x80 m) m) fun x81 m =>
  Qg3 G (.int .i64 0) x81 x80 p7 p6 p8 p0 p5 p1 m
def Qg5 (G : Gt) (p0 p7 p6 p5 p1 : V) (m : M) : R :=
  bp (G.tab Qh0 [p0] m) fun x82 m =>
  bp (some (aNew Q2 Q4 m)) fun x83 m =>
  bp (unt (aStore 4 x83 x82 m)) fun _ m =>
  Qg4 G x83 p7 p6 p0 p5 p1 m
def Qg6 (G : Gt) (p23 p0 p7 p6 p5 p1 : V) (m : M) : R :=
  brb p23
  (bp (G.tab Q3n [p0] m) fun x84 m =>
  Qg5 G p0 p7 p6 p5 p1 m)
  (Q4t G p0 p5 p7 p6 p1 m)
def Qhs (G : Gt) (p0 p7 p6 p5 p1 : V) (m : M) : R :=
  bp (G.tab Q1c [p0] m) fun x85 m =>
  bp (pur (bin .eql true true .int x85 (.int .u8 5)) m) fun x86 m =>
  Qg6 G x86 p0 p7 p6 p5 p1 m
def Qht (G : Gt) (p0 p6 p5 p1 : V) (m : M) : R :=
  Qhs G p0 (.slice none 0 0) p6 p5 p1 m
def Qhu (G : Gt) (p0 p5 p1 : V) (m : M) : R :=
  bp (G.tab Qh0 [p0] m) fun x87 m =>
  bp (some (aNew Q2 Q4 m)) fun x88 m =>
  bp (unt (aStore 4 x88 x87 m)) fun _ m =>
  Qht G p0 x88 p5 p1 m
def Qhv (G : Gt) (p0 p1 : V) (m : M) : R :=
  bp (pur (aNilCheck p0) m) fun x89 m =>
  bp (pur (aFieldAddr 0 x89) m) fun x90 m =>
  bp (pur (aLoad false 1 x90 m) m) fun x91 m =>
  bp (pur (aIndexAddrSl 4 x91 (.int .i64 0)) m) fun x92 m =>
  bp (pur (aFieldAddr 2 x92) m) fun x93 m =>
  bp (pur (aLoad true 2 x93 m) m) fun x94 m =>
  bp (some (aNew Q9 Q5 m)) fun x95 m =>
  bp (unt (aStore 2 x95 x94 m)) fun _ m =>
  Qhu G p0 x95 p1 m
def Qac (G : Gt) (p0 p1 : V) (m : M) : R :=
  Qhv G p0 p1 m
theorem Q12o (G : Gt) (a0 a1 : V) (m : M) : evFn Tryz.prog G.tab G.rds (drOf Tryz.prog G.tab) Tryz.f63 [a0, a1] m = Qac G a0 a1 m :=
  evFn_of (r := fun ρ m => Qac G (ρ 0) (ρ 1) m) rfl rfl (tr (seqQ (f := fun ρ m => Qhv G (ρ 0) (ρ 1) m) (tr (seqQ (f := fun ρ m => Qhu G (ρ 0) (ρ 5) (ρ 1) m) (tr (seqQ (f := fun ρ m => Qht G (ρ 0) (ρ 6) (ρ 5) (ρ 1) m) (tr (seqQ (f := fun ρ m => Qhs G (ρ 0) (ρ 7) (ρ 6) (ρ 5) (ρ 1) m) (tr (tr (seqQ (f := fun ρ m => Q4t G (ρ 0) (ρ 5) (ρ 7) (ρ 6) (ρ 1) m) (tr (tr (seqQ (f := fun ρ m => Q4r G m) (fun ρ m => by kernel_rfl)) (blockQ (seqQ (f := fun ρ m => Qhr G (ρ 88) (ρ 0) (ρ 5) (ρ 7) (ρ 6) (ρ 1) m) (tr (condQ (refQ) (seqQ (f := fun ρ m => Qhq G (ρ 95) (ρ 0) (ρ 7) (ρ 6) (ρ 1) m) (tr (condQ (refQ) (seqQ (f := fun ρ m => Q4s G (ρ 107) (ρ 0) (ρ 7) (ρ 6) (ρ 1) m) (tr (condQ (refQ) (seqQ (f := fun ρ m => Q8e G (ρ 129) (ρ 0) (ρ 6) (ρ 1) m) (fun ρ m => by kernel_rfl))) (fun ρ m => by kernel_rfl)))) (fun ρ m => by kernel_rfl)))) (fun ρ m => by kernel_rfl))))) (fun ρ m => by kernel_rfl))) (seqQ (f := fun ρ m => Qg6 G (ρ 23) (ρ 0) (ρ 7) (ρ 6) (ρ 5) (ρ 1) m) (tr (condQ (seqQ (f := fun ρ m => Qg5 G (ρ 0) (ρ 7) (ρ 6) (ρ 5) (ρ 1) m) (tr (seqQ (f := fun ρ m => Qg4 G (ρ 8) (ρ 7) (ρ 6) (ρ 0) (ρ 5) (ρ 1) m) (tr (tr (seqQ (f := fun ρ m => Qg2 G (ρ 0) (ρ 7) (ρ 5) (ρ 6) (ρ 1) m) (tr (seqQ (f := fun ρ m => Q7h G (ρ 64) (ρ 0) (ρ 5) (ρ 7) (ρ 6) (ρ 1) m) (fun ρ m => by kernel_rfl)) (fun ρ m => by kernel_rfl))) (seqQ (f := fun ρ m => Qg3 G (ρ 31) (ρ 30) (ρ 29) (ρ 7) (ρ 6) (ρ 8) (ρ 0) (ρ 5) (ρ 1) m) (tr (blockQ (loopQ (fun i ρ m => Q7i G i (ρ 31) (ρ 30) (ρ 29) (ρ 7) (ρ 6) (ρ 8) (ρ 0) (ρ 5) (ρ 1) m) (fun _ _ => rfl) (fun i0 => fun ρ m => by kernel_rfl))) (fun ρ m => by kernel_rfl)))) (fun ρ m => by kernel_rfl))) (fun ρ m => by kernel_rfl))) (refQ)) (fun ρ m => by kernel_rfl)))) (fun ρ m => by kernel_rfl))) (fun ρ m => by kernel_rfl))) (fun ρ m => by kernel_rfl))) (fun ρ m => by kernel_rfl))) (fun ρ m => by kernel_rfl)) m
def Q12p : Entry Tryz.prog := ⟨Qkh, Tryz.f63, Tryz.func63, by kernel_rfl, arg2 (fun G a0 a1 m => Qac G a0 a1 m), okarg2 Q12o⟩
def Q4u (G : Gt) (m : M) : R :=
  some ((.int .i64 (-1)), m)
def Q26 (G : Gt) : Nat → V → V → V → V → M → R
 | 0, _, _, _, _, _ => none
 | i + 1, p8, p7, p1, p0, m =>
  bp (pur (bin .lss false true .int p8 p7) m) fun x0 m =>
  brb x0
  (bp (pur (aIndexAddrSl 4 p0 p8) m) fun x1 m =>
  bp (pur (aLoad true 4 x1 m) m) fun x2 m =>
  bp (evCall G.tab p1 [x2] m) fun x3 m =>
  brb x3
  (some (p8, m))
  (bp (pur (bin .add true true .int p8 (.int .i64 1)) m) fun x4 m =>
  (Q26 G i) x4 p7 p1 p0 m))
  (Q4u G m)
def Q4v (G : Gt) (p8 p7 p1 p0 : V) (m : M) : R :=
  Q26 G G.rds p8 p7 p1 p0 m
def Q4w (G : Gt) (p0 p1 : V) (m : M) : R :=
  bp (pur (lenK 1 p0 m) m) fun x5 m =>
  Q4v G (.int .i64 0) x5 p1 p0 m
def Q2n (G : Gt) (p0 p1 : V) (m : M) : R :=
  Q4w G p0 p1 m
theorem Qfv (G : Gt) (a0 a1 : V) (m : M) : evFn Tryz.prog G.tab G.rds (drOf Tryz.prog G.tab) Tryz.f64 [a0, a1] m = Q2n G a0 a1 m :=
  evFn_of (r := fun ρ m => Q2n G (ρ 0) (ρ 1) m) rfl rfl (tr (seqQ (f := fun ρ m => Q4w G (ρ 0) (ρ 1) m) (tr (tr (seqQ (f := fun ρ m => Q4u G m) (fun ρ m => by kernel_rfl)) (seqQ (f := fun ρ m => Q4v G (ρ 8) (ρ 7) (ρ 1) (ρ 0) m) (tr (blockQ (loopQ (fun i ρ m => Q26 G i (ρ 8) (ρ 7) (ρ 1) (ρ 0) m) (fun _ _ => rfl) (fun i0 => fun ρ m => by kernel_rfl))) (fun ρ m => by kernel_rfl)))) (fun ρ m => by kernel_rfl))) (fun ρ m => by kernel_rfl)) m
def Qfw : Entry Tryz.prog := ⟨Q2o, Tryz.f64, Tryz.func64, by kernel_rfl, arg2 (fun G a0 a1 m => Q2n G a0 a1 m), okarg2 Qfv⟩
end
end Go.Ab.Sh

set_option linter.unusedVariables false
set_option maxRecDepth 100000
namespace Go.Ab.Sh
open Go Go.Ab Go.Proofs
noncomputable section
def Qqb (G : Gt) (p3 : V) (m : M) : R :=
  some (p3, m)
def Q12q (G : Gt) (p2 p1 : V) (m : M) : R :=
  bp (pur (aFieldAddr 2 p2) m) fun x0 m =>
  bp (pur (aLoad false 1 x0 m) m) fun x1 m =>
  bp (pur (aFieldAddr 2 p1) m) fun x2 m =>
  bp (pur (aLoad false 1 x2 m) m) fun x3 m =>
  bp (pur (bin .eql false true .bool x1 x3) m) fun x4 m =>
  brb x4
  (bp (pur (aFieldAddr 0 p2) m) fun x5 m =>
  bp (pur (aLoad false 1 x5 m) m) fun x6 m =>
  bp (pur (aFieldAddr 0 p1) m) fun x7 m =>
  bp (pur (aLoad false 1 x7 m) m) fun x8 m =>
  bp (G.tab Q5h [x6, x8] m) fun x9 m =>
  Qqb G x9 m)
  (Qqb G (.bool false) m)
def Qx4 (G : Gt) (p0 p1 : V) (m : M) : R :=
  bp (some (aNew Q2 (Value.cells p0).toList m)) fun x10 m =>
  Q12q G x10 p1 m
theorem Q1jo (G : Gt) (a0 a1 : V) (m : M) : evFn Tryz.prog G.tab G.rds (drOf Tryz.prog G.tab) Tryz.f65 [a0, a1] m = Qx4 G a0 a1 m :=
  evFn_of (r := fun ρ m => Qx4 G (ρ 0) (ρ 1) m) rfl rfl (tr (seqQ (f := fun ρ m => Q12q G (ρ 2) (ρ 1) m) (tr (seqQ (f := fun ρ m => Qqb G (ρ 3) m) (fun ρ m => by kernel_rfl)) (fun ρ m => by kernel_rfl))) (fun ρ m => by kernel_rfl)) m
def Q1jp : Entry Tryz.prog := ⟨Q199, Tryz.f65, Tryz.func65, by kernel_rfl, arg2 (fun G a0 a1 m => Qx4 G a0 a1 m), okarg2 Q1jo⟩
def Q9w (G : Gt) (m : M) : R :=
  some ((.bool true), m)
def Q4h (G : Gt) : Nat → V → V → V → V → M → R
 | 0, _, _, _, _, _ => none
 | i + 1, p13, p12, p0, p1, m =>
  bp (pur (bin .lss false true .int p13 p12) m) fun x0 m =>
  brb x0
  (bp (pur (aIndexAddrSl 1 p0 p13) m) fun x1 m =>
  bp (pur (aLoad false 1 x1 m) m) fun x2 m =>
  bp (pur (aIndexAddrSl 1 p1 p13) m) fun x3 m =>
  bp (pur (aLoad false 1 x3 m) m) fun x4 m =>
  bp (pur (bin .neq false true .str x2 x4) m) fun x5 m =>
  brb x5
  (some ((.bool false), m))
  (bp (pur (bin .add true true .int p13 (.int .i64 1)) m) fun x6 m =>
  (Q4h G i) x6 p12 p0 p1 m))
  (Q9w G m)
def Q9x (G : Gt) (p13 p12 p0 p1 : V) (m : M) : R :=
  Q4h G G.rds p13 p12 p0 p1 m
def Q9y (G : Gt) (p0 p1 : V) (m : M) : R :=
  bp (pur (lenK 1 p0 m) m) fun x7 m =>
  Q9x G (.int .i64 0) x7 p0 p1 m
def Q9z (G : Gt) (p0 p1 : V) (m : M) : R :=
  bp (pur (lenK 1 p0 m) m) fun x8 m =>
  bp (pur (lenK 1 p1 m) m) fun x9 m =>
  bp (pur (bin .neq false true .int x8 x9) m) fun x10 m =>
  brb x10
  (some ((.bool false), m))
  (Q9y G p0 p1 m)
def Q5i (G : Gt) (p0 p1 : V) (m : M) : R :=
  Q9z G p0 p1 m
theorem Qsi (G : Gt) (a0 a1 : V) (m : M) : evFn Tryz.prog G.tab G.rds (drOf Tryz.prog G.tab) Tryz.f66 [a0, a1] m = Q5i G a0 a1 m :=
  evFn_of (r := fun ρ m => Q5i G (ρ 0) (ρ 1) m) rfl rfl (tr (seqQ (f := fun ρ m => Q9z G (ρ 0) (ρ 1) m) (tr (seqQ (f := fun ρ m => Q9y G (ρ 0) (ρ 1) m) (tr (tr (seqQ (f := fun ρ m => Q9w G m) (fun ρ m => by kernel_rfl)) (seqQ (f := fun ρ m => Q9x G (ρ 13) (ρ 12) (ρ 0) (ρ 1) m) (tr (blockQ (loopQ (fun i ρ m => Q4h G i (ρ 13) (ρ 12) (ρ 0) (ρ 1) m) (fun _ _ => rfl) (fun i0 => fun ρ m => by kernel_rfl))) (fun ρ m => by kernel_rfl)))) (fun ρ m => by kernel_rfl))) (fun ρ m => by kernel_rfl))) (fun ρ m => by kernel_rfl)) m
def Qsj : Entry Tryz.prog := ⟨Q5h, Tryz.f66, Tryz.func66, by kernel_rfl, arg2 (fun G a0 a1 m => Q5i G a0 a1 m), okarg2 Qsi⟩
def Q17x (G : Gt) (p0 : V) (m : M) : R :=
  bp (some (aNew Q2 (Value.cells p0).toList m)) fun x0 m =>
  bp (some (aNew Q2 Q4 m)) fun x1 m =>
  bp (pur (aFieldAddr 0 x0) m) fun x2 m =>
  bp (pur (aLoad false 1 x2 m) m) fun x3 m =>
  bp (pur (aFieldAddr 1 x0) m) fun x4 m =>
  bp (pur (aLoad false 1 x4 m) m) fun x5 m =>
  bp (pur (aFieldAddr 3 x0) m) fun x6 m =>
  bp (pur (aLoad false 1 x6 m) m) fun x7 m =>
  bp (G.tab Q5g [x3] m) fun x8 m =>
  ckB (again (pur (aLoad false 1 x4 m) m) x5 && (again (pur (aLoad false 1 x6 m) m) x7 && true))
  (bp (pur (aFieldAddr 0 x0) m) fun x9 m =>
  bp (G.tab Q4g [x5] m) fun x10 m =>
  ckB (again (pur (aLoad false 1 x6 m) m) x7 && true)
  (bp (G.tab Q12r [x7] m) fun x11 m =>
  bp (unt (aStore 1 x9 x8 m)) fun _ m =>
  bp (pur (aFieldAddr 1 x0) m) fun x12 m =>
  bp (unt (aStore 1 x12 x10 m)) fun _ m =>
  bp (pur (aFieldAddr 3 x0) m) fun x13 m =>
  bp (unt (aStore 1 x13 x11 m)) fun _ m =>
  bp (pur (aLoad true 4 x0 m) m) fun x14 m =>
  bp (unt (aStore 4 x1 x14 m)) fun _ m =>
  ob (ob (aLoad true 4 x1 m) fun v => ob (some []) fun l => some (v :: l)) fun l => some (resVal l, m)))
theorem Q1o3 (G : Gt) (a0 : V) (m : M) : evFn Tryz.prog G.tab G.rds (drOf Tryz.prog G.tab) Tryz.f67 [a0] m = Q17x G a0 m :=
  evFn_of (r := fun ρ m => Q17x G (ρ 0) m) rfl rfl (fun ρ m => by kernel_rfl) m
def Q1o4 : Entry Tryz.prog := ⟨Qp3, Tryz.f67, Tryz.func67, by kernel_rfl, arg1 (fun G a0 m => Q17x G a0 m), okarg1 Q1o3⟩
def Q19a (G : Gt) (p3 : V) (m : M) : R :=
  some (p3, m)
def Qx5 (G : Gt) : Nat → V → V → V → V → M → R
 | 0, _, _, _, _, _ => none
 | i + 1, p8, p7, p6, p3, m =>
  bp (pur (bin .lss false true .int p8 p7) m) fun x0 m =>
  brb x0
  (bp (pur (aIndexAddrSl 4 p6 p8) m) fun x1 m =>
  bp (pur (aLoad true 4 x1 m) m) fun x2 m =>
  bp (some (aNew Q2 Q4 m)) fun x3 m =>
  bp (unt (aStore 4 x3 x2 m)) fun _ m =>
  bp (pur (aLoad true 4 x3 m) m) fun x4 m =>
  bp (G.tab Qp3 [x4] m) fun x5 m =>
  bp (aBuildSlice Q2 Q4 4 1 [(0, x5)] m) fun x6 m =>
  bp (apS Q2 4 80 p3 x6 m) fun x7 m =>
  bp (pur (bin .add true true .int p8 (.int .i64 1)) m) fun x8 m =>
  (Qx5 G i) x8 p7 p6 x7 m)
  (Q19a G p3 m)
def Q19b (G : Gt) (p8 p7 p6 p3 : V) (m : M) : R :=
  Qx5 G G.rds p8 p7 p6 p3 m
def Q19c (G : Gt) (p0 p3 : V) (m : M) : R :=
  bp (pur (lenK 1 p0 m) m) fun x9 m =>
  Q19b G (.int .i64 0) x9 p0 p3 m
def Q19d (G : Gt) (p0 : V) (m : M) : R :=
  Q19c G p0 (.slice none 0 0) m
def Q12s (G : Gt) (p0 : V) (m : M) : R :=
  Q19d G p0 m
theorem Q1mi (G : Gt) (a0 : V) (m : M) : evFn Tryz.prog G.tab G.rds (drOf Tryz.prog G.tab) Tryz.f68 [a0] m = Q12s G a0 m :=
  evFn_of (r := fun ρ m => Q12s G (ρ 0) m) rfl rfl (tr (seqQ (f := fun ρ m => Q19d G (ρ 0) m) (tr (seqQ (f := fun ρ m => Q19c G (ρ 0) (ρ 3) m) (tr (tr (seqQ (f := fun ρ m => Q19a G (ρ 3) m) (fun ρ m => by kernel_rfl)) (seqQ (f := fun ρ m => Q19b G (ρ 8) (ρ 7) (ρ 6) (ρ 3) m) (tr (blockQ (loopQ (fun i ρ m => Qx5 G i (ρ 8) (ρ 7) (ρ 6) (ρ 3) m) (fun _ _ => rfl) (fun i0 => fun ρ m => by kernel_rfl))) (fun ρ m => by kernel_rfl)))) (fun ρ m => by kernel_rfl))) (fun ρ m => by kernel_rfl))) (fun ρ m => by kernel_rfl)) m
def Q1mj : Entry Tryz.prog := ⟨Q12r, Tryz.f68, Tryz.func68, by kernel_rfl, arg1 (fun G a0 m => Q12s G a0 m), okarg1 Q1mi⟩
def Q15k (G : Gt) (p3 : V) (m : M) : R :=
  bp (pur (aBuild Q5 [(0, 1), (1, 1)] []) m) fun x0 m =>
  bp (unt (aStore 2 p3 x0 m)) fun _ m =>
  ob (ob (aLoad true 2 p3 m) fun v => ob (some [(.int .i64 0)]) fun l => some (v :: l)) fun l => some (resVal l, m)
def Qsw (G : Gt) : Nat → V → V → V → V → V → M → R
 | 0, _, _, _, _, _, _ => none
 | i + 1, p11, p10, p9, p3, p1, m =>
  bp (pur (bin .lss false true .int p11 p10) m) fun x1 m =>
  brb x1
  (bp (pur (aIndexAddrSl 4 p9 p11) m) fun x2 m =>
  bp (pur (aLoad true 4 x2 m) m) fun x3 m =>
  bp (some (aNew Q2 Q4 m)) fun x4 m =>
  bp (unt (aStore 4 x4 x3 m)) fun _ m =>
  bp (pur (aLoad true 4 x4 m) m) fun x5 m =>
  bp (G.tab Qmj [x5] m) fun x6 m =>
  brb x6
  (bp (pur (aFieldAddr 1 x4) m) fun x7 m =>
  bp (pur (aLoad false 1 x7 m) m) fun x8 m =>
  bp (pur (aIndexAddrSl 2 x8 (.int .i64 0)) m) fun x9 m =>
  bp (pur (aLoad true 2 x9 m) m) fun x10 m =>
  bp (unt (aStore 2 p3 x10 m)) fun _ m =>
  ob (ob (aLoad true 2 p3 m) fun v => ob (some [(.int .i64 130)]) fun l => some (v :: l)) fun l => some (resVal l, m))
  (bp (pur (aLoad false 1 p1 m) m) fun x11 m =>
  bp (pur (aFieldAddr 3 x4) m) fun x12 m =>
  bp (pur (aLoad false 1 x12 m) m) fun x13 m =>
  bp (evCall G.tab x11 [x13] m) fun x14 m =>
  bp (pur (aExtract x14 0) m) fun x15 m =>
  bp (pur (aExtract x14 1) m) fun x16 m =>
  bp (some (aNew Q9 Q5 m)) fun x17 m =>
  bp (unt (aStore 2 x17 x15 m)) fun _ m =>
  bp (pur (bin .neq true true .int x16 (.int .i64 0)) m) fun x18 m =>
  brb x18
  (bp (pur (aLoad true 2 x17 m) m) fun x19 m =>
  bp (unt (aStore 2 p3 x19 m)) fun _ m =>
  ob (ob (aLoad true 2 p3 m) fun v => ob (some [x16]) fun l => some (v :: l)) fun l => some (resVal l, m))
  (bp (pur (bin .add true true .int p11 (.int .i64 1)) m) fun x20 m =>
  (Qsw G i) x20 p10 p9 p3 p1 m)))
  (Q15k G p3 m)
def Q15l (G : Gt) (p11 p10 p9 p3 p1 : V) (m : M) : R :=
  Qsw G G.rds p11 p10 p9 p3 p1 m
def Q15m (G : Gt) (p0 p3 p1 : V) (m : M) : R :=
  bp (pur (lenK 1 p0 m) m) fun x21 m =>
  Q15l G (.int .i64 0) x21 p0 p3 p1 m
def Qzp (G : Gt) (p0 p1 : V) (m : M) : R :=
  bp (some (aNew Q9 Q5 m)) fun x22 m =>
  Q15m G p0 x22 p1 m
theorem Q1l2 (G : Gt) (a0 a1 : V) (m : M) : evFn Tryz.prog G.tab G.rds (drOf Tryz.prog G.tab) Tryz.f69 [a0, a1] m = Qzp G a0 a1 m :=
  evFn_of (r := fun ρ m => Qzp G (ρ 0) (ρ 1) m) rfl rfl (tr (seqQ (f := fun ρ m => Q15m G (ρ 0) (ρ 3) (ρ 1) m) (tr (tr (seqQ (f := fun ρ m => Q15k G (ρ 3) m) (fun ρ m => by kernel_rfl)) (seqQ (f := fun ρ m => Q15l G (ρ 11) (ρ 10) (ρ 9) (ρ 3) (ρ 1) m) (tr (blockQ (loopQ (fun i ρ m => Qsw G i (ρ 11) (ρ 10) (ρ 9) (ρ 3) (ρ 1) m) (fun _ _ => rfl) (fun i0 => fun ρ m => by kernel_rfl))) (fun ρ m => by kernel_rfl)))) (fun ρ m => by kernel_rfl))) (fun ρ m => by kernel_rfl)) m
def Q1l3 : Entry Tryz.prog := ⟨Q1d8, Tryz.f69, Tryz.func69, by kernel_rfl, arg2 (fun G a0 a1 m => Qzp G a0 a1 m), okarg2 Q1l2⟩
def Qqc (G : Gt) (p2 : V) (m : M) : R :=
  some (p2, m)
def Q12t (G : Gt) (p1 : V) (m : M) : R :=
  bp (pur (aFieldAddr 0 p1) m) fun x0 m =>
  bp (pur (aLoad false 1 x0 m) m) fun x1 m =>
  bp (pur (lenK 1 x1 m) m) fun x2 m =>
  bp (pur (bin .gtr true true .int x2 (.int .i64 0)) m) fun x3 m =>
  brb x3
  (bp (pur (aFieldAddr 0 p1) m) fun x4 m =>
  bp (pur (aLoad false 1 x4 m) m) fun x5 m =>
  bp (pur (aIndexAddrSl 1 x5 (.int .i64 0)) m) fun x6 m =>
  bp (pur (aLoad false 1 x6 m) m) fun x7 m =>
  bp (pur (bin .eql true true .str x7 (.string ⟨#[97,112,112,108,121,45,103,114,111,117,112,115]⟩)) m) fun x8 m =>
  Qqc G x8 m)
  (Qqc G (.bool false) m)
def Qx6 (G : Gt) (p0 : V) (m : M) : R :=
  bp (some (aNew Q2 (Value.cells p0).toList m)) fun x9 m =>
  Q12t G x9 m
theorem Q1jq (G : Gt) (a0 : V) (m : M) : evFn Tryz.prog G.tab G.rds (drOf Tryz.prog G.tab) Tryz.f70 [a0] m = Qx6 G a0 m :=
  evFn_of (r := fun ρ m => Qx6 G (ρ 0) m) rfl rfl (tr (seqQ (f := fun ρ m => Q12t G (ρ 1) m) (tr (seqQ (f := fun ρ m => Qqc G (ρ 2) m) (fun ρ m => by kernel_rfl)) (fun ρ m => by kernel_rfl))) (fun ρ m => by kernel_rfl)) m
def Q1jr : Entry Tryz.prog := ⟨Qmj, Tryz.f70, Tryz.func70, by kernel_rfl, arg1 (fun G a0 m => Qx6 G a0 m), okarg1 Q1jq⟩
def Q1d9 (G : Gt) (p0 : V) (m : M) : R :=
  some (p0, m)
def Qq8 (G : Gt) (k0 : V → V → V → V → M → R) (p12 p11 p10 p0 : V) (m : M) : R :=
  bp (pur (bin .add true true .int p12 (.int .i64 1)) m) fun x0 m =>
  k0 x0 p11 p10 p0 m
def Q19e (G : Gt) (k0 : V → V → V → V → M → R) (p7 p6 p0 p12 p11 p10 : V) (m : M) : R :=
  bp (pur (un .not p7) m) fun x1 m =>
  brb x1
  (bp (pur (aFieldAddr 0 p6) m) fun x2 m =>
  bp (pur (aLoad false 1 x2 m) m) fun x3 m =>
  bp (pur (aFieldAddr 1 p6) m) fun x4 m =>
  bp (pur (aLoad false 1 x4 m) m) fun x5 m =>
  bp (pur (aBuild Q4 [(0, 1), (1, 1), (2, 1), (3, 1)] [(0, x3), (1, x5), (2, (.bool true))]) m) fun x6 m =>
  bp (G.tab Qp3 [x6] m) fun x7 m =>
  bp (some (aNew Q2 Q4 m)) fun x8 m =>
  bp (unt (aStore 4 x8 x7 m)) fun _ m =>
  bp (pur (aFieldAddr 3 p6) m) fun x9 m =>
  bp (pur (aLoad false 1 x9 m) m) fun x10 m =>
  bp (G.tab Qy3 [(.slice none 0 0), x10] m) fun x11 m =>
  bp (pur (aFieldAddr 3 x8) m) fun x12 m =>
  bp (unt (aStore 1 x12 x11 m)) fun _ m =>
  bp (pur (aLoad true 4 x8 m) m) fun x13 m =>
  bp (aBuildSlice Q2 Q4 4 1 [(0, x13)] m) fun x14 m =>
  bp (apS Q2 4 80 p0 x14 m) fun x15 m =>
  Qq8 G k0 p12 p11 p10 x15 m)
  (Qq8 G k0 p12 p11 p10 p0 m)
def Qx7 (G : Gt) (k1 : V → V → V → V → V → V → V → V → M → R) (p33 p32 p0 p6 p7 p12 p11 p10 : V) (m : M) : R :=
  bp (pur (bin .add true true .int p33 (.int .i64 1)) m) fun x16 m =>
  k1 x16 p32 p0 p6 p7 p12 p11 p10 m
def Q19f (G : Gt) (k1 : V → V → V → V → V → V → V → V → M → R) (p33 p0 p6 p32 p12 p11 p10 p7 : V) (m : M) : R :=
  bp (pur (aIndexAddrSl 4 p0 p33) m) fun x17 m =>
  bp (pur (aLoad true 4 x17 m) m) fun x18 m =>
  bp (pur (aLoad true 4 p6 m) m) fun x19 m =>
  bp (G.tab Q1hs [x18, x19] m) fun x20 m =>
  brb x20
  (bp (pur (aIndexAddrSl 4 p0 p33) m) fun x21 m =>
  bp (pur (aFieldAddr 3 x21) m) fun x22 m =>
  bp (pur (aLoad false 1 x22 m) m) fun x23 m =>
  bp (pur (aFieldAddr 3 p6) m) fun x24 m =>
  bp (pur (aLoad false 1 x24 m) m) fun x25 m =>
  bp (G.tab Qy3 [x23, x25] m) fun x26 m =>
  bp (pur (aIndexAddrSl 4 p0 p33) m) fun x27 m =>
  bp (pur (aFieldAddr 3 x27) m) fun x28 m =>
  bp (unt (aStore 1 x28 x26 m)) fun _ m =>
  Qx7 G k1 p33 p32 p0 p6 (.bool true) p12 p11 p10 m)
  (Qx7 G k1 p33 p32 p0 p6 p7 p12 p11 p10 m)
def Q19g (G : Gt) (k1 : V → V → V → V → V → V → V → V → M → R) (k0 : V → V → V → V → M → R) (p34 p33 p0 p6 p32 p12 p11 p10 p7 : V) (m : M) : R :=
  brb p34
  (Q19f G k1 p33 p0 p6 p32 p12 p11 p10 p7 m)
  (Q19e G k0 p7 p6 p0 p12 p11 p10 m)
def Qa7 (G : Gt) (k0 : V → V → V → V → M → R) : Nat → V → V → V → V → V → V → V → V → M → R
 | 0, _, _, _, _, _, _, _, _, _ => none
 | i + 1, p33, p32, p0, p6, p7, p12, p11, p10, m =>
  bp (pur (bin .lss false true .int p33 p32) m) fun x29 m =>
  Q19g G (Qa7 G k0 i) k0 x29 p33 p0 p6 p32 p12 p11 p10 p7 m
def Q19h (G : Gt) (k0 : V → V → V → V → M → R) (p33 p32 p0 p6 p7 p12 p11 p10 : V) (m : M) : R :=
  Qa7 G k0 G.rds p33 p32 p0 p6 p7 p12 p11 p10 m
def Q1da (G : Gt) (k0 : V → V → V → V → M → R) (p0 p6 p7 p12 p11 p10 : V) (m : M) : R :=
  bp (pur (lenK 1 p0 m) m) fun x30 m =>
  Q19h G k0 (.int .i64 0) x30 p0 p6 p7 p12 p11 p10 m
def Q1db (G : Gt) (k0 : V → V → V → V → M → R) (p6 p0 p12 p11 p10 : V) (m : M) : R :=
  bp (pur (aFieldAddr 0 p6) m) fun x31 m =>
  bp (pur (aLoad false 1 x31 m) m) fun x32 m =>
  bp (G.tab Q3z [x32, (.string ⟨#[60,42,62]⟩)] m) fun x33 m =>
  Q1da G k0 p0 p6 x33 p12 p11 p10 m
def Qx8 (G : Gt) (k0 : V → V → V → V → M → R) (p12 p11 p10 p0 : V) (m : M) : R :=
  Qq8 G k0 p12 p11 p10 p0 m
def Q19i (G : Gt) (k0 : V → V → V → V → M → R) (p18 p0 p6 p12 p11 p10 : V) (m : M) : R :=
  brb p18
  (bp (G.tab Q4i [p0, (.func (.func Q1dc) ⟨[]⟩ ⟨[p6]⟩)] m) fun x34 m =>
  bp (pur (un .not x34) m) fun x35 m =>
  brb x35
  (bp (pur (aLoad true 4 p6 m) m) fun x36 m =>
  bp (G.tab Qp3 [x36] m) fun x37 m =>
  bp (aBuildSlice Q2 Q4 4 1 [(0, x37)] m) fun x38 m =>
  bp (apS Q2 4 80 p0 x38 m) fun x39 m =>
  Qx8 G k0 p12 p11 p10 x39 m)
  (Qx8 G k0 p12 p11 p10 p0 m))
  (Q1db G k0 p6 p0 p12 p11 p10 m)
def Q1dd (G : Gt) (k0 : V → V → V → V → M → R) (p6 p0 p12 p11 p10 : V) (m : M) : R :=
  bp (pur (aFieldAddr 2 p6) m) fun x40 m =>
  bp (pur (aLoad false 1 x40 m) m) fun x41 m =>
  bp (pur (un .not x41) m) fun x42 m =>
  Q19i G k0 x42 p0 p6 p12 p11 p10 m
def Q1de (G : Gt) (k0 : V → V → V → V → M → R) (p10 p12 p0 p11 : V) (m : M) : R :=
  bp (pur (aIndexAddrSl 4 p10 p12) m) fun x43 m =>
  bp (pur (aLoad true 4 x43 m) m) fun x44 m =>
  bp (some (aNew Q2 Q4 m)) fun x45 m =>
  bp (unt (aStore 4 x45 x44 m)) fun _ m =>
  Q1dd G k0 x45 p0 p12 p11 p10 m
def Q1df (G : Gt) (k0 : V → V → V → V → M → R) (p13 p10 p12 p0 p11 : V) (m : M) : R :=
  brb p13
  (Q1de G k0 p10 p12 p0 p11 m)
  (Q1d9 G p0 m)
def Qw (G : Gt) : Nat → V → V → V → V → M → R
 | 0, _, _, _, _, _ => none
 | i + 1, p12, p11, p10, p0, m =>
  bp (pur (bin .lss false true .int p12 p11) m) fun x46 m =>
  Q1df G (Qw G i) x46 p10 p12 p0 p11 m
def Q1dg (G : Gt) (p12 p11 p10 p0 : V) (m : M) : R :=
  Qw G G.rds p12 p11 p10 p0 m
def Q1dh (G : Gt) (p1 p0 : V) (m : M) : R :=
  bp (pur (lenK 1 p1 m) m) fun x47 m =>
  Q1dg G (.int .i64 0) x47 p1 p0 m
def Q17y (G : Gt) (p1 p0 : V) (m : M) : R :=
  Q1dh G p1 p0 m
theorem Q1o5 (G : Gt) (a0 a1 : V) (m : M) : evFn Tryz.prog G.tab G.rds (drOf Tryz.prog G.tab) Tryz.f71 [a0, a1] m = Q17y G a1 a0 m :=
  evFn_of (r := fun ρ m => Q17y G (ρ 1) (ρ 0) m) rfl rfl (tr (seqQ (f := fun ρ m => Q1dh G (ρ 1) (ρ 0) m) (tr (tr (seqQ (f := fun ρ m => Q1d9 G (ρ 0) m) (fun ρ m => by kernel_rfl)) (seqQ (f := fun ρ m => Q1dg G (ρ 12) (ρ 11) (ρ 10) (ρ 0) m) (tr (blockQ (loopQ (fun i ρ m => Qw G i (ρ 12) (ρ 11) (ρ 10) (ρ 0) m) (fun _ _ => rfl) (fun i0 => tr (seqQ (f := fun ρ m => Q1df G (Qw G i0) (ρ 13) (ρ 10) (ρ 12) (ρ 0) (ρ 11) m) (tr (seqQ (f := fun ρ m => Q1de G (Qw G i0) (ρ 10) (ρ 12) (ρ 0) (ρ 11) m) (tr (tr (seqQ (f := fun ρ m => Qq8 G (Qw G i0) (ρ 12) (ρ 11) (ρ 10) (ρ 0) m) (fun ρ m => by kernel_rfl)) (blockQ (seqQ (f := fun ρ m => Q1dd G (Qw G i0) (ρ 6) (ρ 0) (ρ 12) (ρ 11) (ρ 10) m) (tr (tr (seqQ (f := fun ρ m => Q1db G (Qw G i0) (ρ 6) (ρ 0) (ρ 12) (ρ 11) (ρ 10) m) (tr (seqQ (f := fun ρ m => Q1da G (Qw G i0) (ρ 0) (ρ 6) (ρ 7) (ρ 12) (ρ 11) (ρ 10) m) (tr (tr (seqQ (f := fun ρ m => Q19e G (Qw G i0) (ρ 7) (ρ 6) (ρ 0) (ρ 12) (ρ 11) (ρ 10) m) (fun ρ m => by kernel_rfl)) (seqQ (f := fun ρ m => Q19h G (Qw G i0) (ρ 33) (ρ 32) (ρ 0) (ρ 6) (ρ 7) (ρ 12) (ρ 11) (ρ 10) m) (tr (blockQ (loopQ (fun i ρ m => Qa7 G (Qw G i0) i (ρ 33) (ρ 32) (ρ 0) (ρ 6) (ρ 7) (ρ 12) (ρ 11) (ρ 10) m) (fun _ _ => rfl) (fun i1 => tr (seqQ (f := fun ρ m => Q19g G (Qa7 G (Qw G i0) i1) (Qw G i0) (ρ 34) (ρ 33) (ρ 0) (ρ 6) (ρ 32) (ρ 12) (ρ 11) (ρ 10) (ρ 7) m) (tr (seqQ (f := fun ρ m => Q19f G (Qa7 G (Qw G i0) i1) (ρ 33) (ρ 0) (ρ 6) (ρ 32) (ρ 12) (ρ 11) (ρ 10) (ρ 7) m) (tr (seqQ (f := fun ρ m => Qx7 G (Qa7 G (Qw G i0) i1) (ρ 33) (ρ 32) (ρ 0) (ρ 6) (ρ 7) (ρ 12) (ρ 11) (ρ 10) m) (fun ρ m => by kernel_rfl)) (fun ρ m => by kernel_rfl))) (fun ρ m => by kernel_rfl))) (fun ρ m => by kernel_rfl)))) (fun ρ m => by kernel_rfl)))) (fun ρ m => by kernel_rfl))) (fun ρ m => by kernel_rfl))) (seqQ (f := fun ρ m => Q19i G (Qw G i0) (ρ 18) (ρ 0) (ρ 6) (ρ 12) (ρ 11) (ρ 10) m) (tr (condQ (seqQ (f := fun ρ m => Qx8 G (Qw G i0) (ρ 12) (ρ 11) (ρ 10) (ρ 0) m) (fun ρ m => by kernel_rfl)) (refQ)) (fun ρ m => by kernel_rfl)))) (fun ρ m => by kernel_rfl))))) (fun ρ m => by kernel_rfl))) (fun ρ m => by kernel_rfl))) (fun ρ m => by kernel_rfl)))) (fun ρ m => by kernel_rfl)))) (fun ρ m => by kernel_rfl))) (fun ρ m => by kernel_rfl)) m
def Q1o6 : Entry Tryz.prog := ⟨Qy3, Tryz.f71, Tryz.func71, by kernel_rfl, arg2 (fun G a0 a1 m => Q17y G a1 a0 m), okarg2 Q1o5⟩
def Qbg (G : Gt) (p2 : V) (m : M) : R :=
  some (p2, m)
def Qmq (G : Gt) (p0 : V) (m : M) : R :=
  bp (pur (aNilCheck p0) m) fun x0 m =>
  bp (pur (aFieldAddr 7 x0) m) fun x1 m =>
  bp (pur (aLoad false 1 x1 m) m) fun x2 m =>
  bp (pur (bin .eql true true .int x2 (.int .i64 0)) m) fun x3 m =>
  brt x3
  (bp (pur (aNilCheck p0) m) fun x4 m =>
  bp (pur (aFieldAddr 4 x4) m) fun x5 m =>
  bp (pur (aLoad false 1 x5 m) m) fun x6 m =>
  bp (pur (aNilCheck p0) m) fun x7 m =>
  bp (pur (aFieldAddr 0 x7) m) fun x8 m =>
  bp (pur (aFieldAddr 0 x8) m) fun x9 m =>
  bp (pur (aLoad false 1 x9 m) m) fun x10 m =>
  bp (pur (lenK 1 x10 m) m) fun x11 m =>
  bp (pur (bin .lss false true .int x6 x11) m) fun x12 m =>
  Qbg G x12 m)
  (Qbg G (.bool false) m)
  (none)
def Qe2 (G : Gt) (p0 : V) (m : M) : R :=
  Qmq G p0 m
theorem Q19j (G : Gt) (a0 : V) (m : M) : evFn Tryz.prog G.tab G.rds (drOf Tryz.prog G.tab) Tryz.f72 [a0] m = Qe2 G a0 m :=
  evFn_of (r := fun ρ m => Qe2 G (ρ 0) m) rfl rfl (tr (seqQ (f := fun ρ m => Qmq G (ρ 0) m) (tr (seqQ (f := fun ρ m => Qbg G (ρ 2) m) (fun ρ m => by kernel_rfl)) (fun ρ m => by kernel_rfl))) (fun ρ m => by kernel_rfl)) m
def Q19k : Entry Tryz.prog := ⟨Q2i, Tryz.f72, Tryz.func72, by kernel_rfl, arg1 (fun G a0 m => Qe2 G a0 m), okarg1 Q19j⟩
def Qh1 (G : Gt) (p0 p1 : V) (m : M) : R :=
  bp (pur (aNilCheck p0) m) fun x0 m =>
  bp (pur (aFieldAddr 4 x0) m) fun x1 m =>
  bp (pur (aLoad false 1 x1 m) m) fun x2 m =>
  bp (pur (aMax x2 (.int .i64 1)) m) fun x3 m =>
  bp (pur (bin .sub true true .int x3 (.int .i64 1)) m) fun x4 m =>
  bp (G.tab Qcf [p0, x4] m) fun x5 m =>
  bp (G.tab Q58 [p0, x5, p1] m) fun x6 m =>
  some (.tuple ⟨[]⟩, m)
theorem Q1cf (G : Gt) (a0 a1 : V) (m : M) : evFn Tryz.prog G.tab G.rds (drOf Tryz.prog G.tab) Tryz.f73 [a0, a1] m = Qh1 G a0 a1 m :=
  evFn_of (r := fun ρ m => Qh1 G (ρ 0) (ρ 1) m) rfl rfl (fun ρ m => by kernel_rfl) m
def Q1cg : Entry Tryz.prog := ⟨Qe, Tryz.f73, Tryz.func73, by kernel_rfl, arg2 (fun G a0 a1 m => Qh1 G a0 a1 m), okarg2 Q1cf⟩
def Qe3 (G : Gt) (p1 p0 p2 : V) (m : M) : R :=
  bp (some (aNew Q9 (Value.cells p1).toList m)) fun x0 m =>
  bp (pur (aNilCheck p0) m) fun x1 m =>
  bp (pur (aFieldAddr 7 x1) m) fun x2 m =>
  bp (pur (aLoad false 1 x2 m) m) fun x3 m =>
  bp (pur (bin .eql true true .int x3 (.int .i64 0)) m) fun x4 m =>
  brb x4
  (bp (pur (aLoad true 2 x0 m) m) fun x5 m =>
  bp (pur (aNilCheck p0) m) fun x6 m =>
  bp (pur (aFieldAddr 5 x6) m) fun x7 m =>
  bp (unt (aStore 2 x7 x5 m)) fun _ m =>
  bp (pur (aNilCheck p0) m) fun x8 m =>
  bp (pur (aFieldAddr 7 x8) m) fun x9 m =>
  bp (unt (aStore 1 x9 p2 m)) fun _ m =>
  some (.tuple ⟨[]⟩, m))
  (some (.tuple ⟨[]⟩, m))
theorem Q19l (G : Gt) (a0 a1 a2 : V) (m : M) : evFn Tryz.prog G.tab G.rds (drOf Tryz.prog G.tab) Tryz.f74 [a0, a1, a2] m = Qe3 G a1 a0 a2 m :=
  evFn_of (r := fun ρ m => Qe3 G (ρ 1) (ρ 0) (ρ 2) m) rfl rfl (fun ρ m => by kernel_rfl) m
def Q19m : Entry Tryz.prog := ⟨Q58, Tryz.f74, Tryz.func74, by kernel_rfl, arg3 (fun G a0 a1 a2 m => Qe3 G a1 a0 a2 m), okarg3 Q19l⟩
def Qcg (G : Gt) (p0 : V) (m : M) : R :=
  bp (some (aNew Q9 Q5 m)) fun x0 m =>
  bp (G.tab Qcf [p0, (.int .i64 0)] m) fun x1 m =>
  bp (unt (aStore 2 x0 x1 m)) fun _ m =>
  ob (ob (aLoad true 2 x0 m) fun v => ob (some []) fun l => some (v :: l)) fun l => some (resVal l, m)
theorem Q17z (G : Gt) (a0 : V) (m : M) : evFn Tryz.prog G.tab G.rds (drOf Tryz.prog G.tab) Tryz.f75 [a0] m = Qcg G a0 m :=
  evFn_of (r := fun ρ m => Qcg G (ρ 0) m) rfl rfl (fun ρ m => by kernel_rfl) m
def Q180 : Entry Tryz.prog := ⟨Q4j, Tryz.f75, Tryz.func75, by kernel_rfl, arg1 (fun G a0 m => Qcg G a0 m), okarg1 Q17z⟩
def Qbh (G : Gt) (p1 p0 : V) (m : M) : R :=
  bp (aBuildSlice Q1 [(.string ⟨#[]⟩)] 1 1 [(0, (.string ⟨#[104,111,115,116,45,110,97,109,101]⟩))] m) fun x0 m =>
  bp (G.tab Q8 [p1, x0] m) fun x1 m =>
  bp (G.tab Q7 [p1] m) fun x2 m =>
  bp (pur (aNilCheck p0) m) fun x3 m =>
  bp (pur (aFieldAddr 0 x3) m) fun x4 m =>
  bp (pur (aFieldAddr 0 x4) m) fun x5 m =>
  bp (unt (aStore 1 x5 x2 m)) fun _ m =>
  some (.tuple ⟨[(.bool false), (.string ⟨#[104,111,115,116,45,110,97,109,101]⟩), .nilFunc]⟩, m)
theorem Q14n (G : Gt) (a0 a1 : V) (m : M) : evFn Tryz.prog G.tab G.rds (drOf Tryz.prog G.tab) Tryz.f76 [a0, a1] m = Qbh G a1 a0 m :=
  evFn_of (r := fun ρ m => Qbh G (ρ 1) (ρ 0) m) rfl rfl (fun ρ m => by kernel_rfl) m
def Q14o : Entry Tryz.prog := ⟨Qmr, Tryz.f76, Tryz.func76, by kernel_rfl, arg2 (fun G a0 a1 m => Qbh G a1 a0 m), okarg2 Q14n⟩
end
end Go.Ab.Sh
