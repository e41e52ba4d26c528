/-
  Functions of the program as plain definitions, each with the theorem that it is what the evaluator makes of the code. No conditions.
-/
import Derived.Test.YtchdjkidnjfcjaaGreatDoorAb5
import Derived.Test.YtchdjkidnjfcjaaGreatDoorZ
import Derived.KernelRfl
import Derived.Test.YtchdjkidnjfcjaaGreatDoorProg
set_option linter.unusedVariables false
set_option maxRecDepth 100000
namespace Go.Ab.Sh
open Go Go.Ab Go.Proofs
noncomputable section
def Q1dt (G : Gt) (p5 p3 : V) (m : M) : R :=
  bp (pur (aBuild Q5 [(0, 1), (1, 1)] []) m) fun x0 m =>
  bp (unt (aStore 2 p3 x0 m)) fun _ m =>
  ob (ob (ob (aLoad true 2 p3 m) fun v => ob (some [(.int .i64 0)]) fun l => some (v :: l)) fun l => some (p5 :: l)) fun l => some (resVal l, m)
def Qxw (G : Gt) (k0 : V → V → V → V → V → V → M → R) (p27 p8 p3 p6 p5 p15 p14 p13 : V) (m : M) : R :=
  brb p27
  (bp (pur (aFieldAddr 1 p8) m) fun x1 m =>
  bp (pur (aLoad false 1 x1 m) m) fun x2 m =>
  bp (pur (aIndexAddrSl 2 x2 (.int .i64 0)) m) fun x3 m =>
  bp (pur (aLoad true 2 x3 m) m) fun x4 m =>
  bp (unt (aStore 2 p3 x4 m)) fun _ m =>
  ob (ob (ob (aLoad true 2 p3 m) fun v => ob (some [(.int .i64 130)]) fun l => some (v :: l)) fun l => some ((.map none) :: l)) fun l => some (resVal l, m))
  (bp (pur (aLoad false 1 p6 m) m) fun x5 m =>
  bp (pur (aFieldAddr 3 p8) m) fun x6 m =>
  bp (pur (aLoad false 1 x6 m) m) fun x7 m =>
  bp (evCall G.tab x5 [x7] m) fun x8 m =>
  bp (pur (aExtract x8 0) m) fun x9 m =>
  bp (pur (aExtract x8 1) m) fun x10 m =>
  bp (some (aNew Q9 Q5 m)) fun x11 m =>
  bp (unt (aStore 2 x11 x9 m)) fun _ m =>
  bp (pur (bin .neq true true .int x10 (.int .i64 0)) m) fun x12 m =>
  brb x12
  (bp (pur (aLoad true 2 x11 m) m) fun x13 m =>
  bp (unt (aStore 2 p3 x13 m)) fun _ m =>
  ob (ob (ob (aLoad true 2 p3 m) fun v => ob (some [x10]) fun l => some (v :: l)) fun l => some ((.map none) :: l)) fun l => some (resVal l, m))
  (bp (pur (aFieldAddr 0 p8) m) fun x14 m =>
  bp (pur (aLoad false 1 x14 m) m) fun x15 m =>
  bp (pur (aIndexAddrSl 1 x15 (.int .i64 0)) m) fun x16 m =>
  bp (pur (aLoad false 1 x16 m) m) fun x17 m =>
  bp (pur (aFieldAddr 3 p8) m) fun x18 m =>
  bp (pur (aLoad false 1 x18 m) m) fun x19 m =>
  bp (unt (aMapUpdate .str p5 x17 x19 m)) fun _ m =>
  bp (pur (bin .add true true .int p15 (.int .i64 1)) m) fun x20 m =>
  k0 x20 p14 p13 p3 p6 p5 m))
def Q1du (G : Gt) (k0 : V → V → V → V → V → V → M → R) (p8 p3 p6 p5 p15 p14 p13 : V) (m : M) : R :=
  bp (pur (aFieldAddr 2 p8) m) fun x21 m =>
  bp (pur (aLoad false 1 x21 m) m) fun x22 m =>
  bp (pur (un .not x22) m) fun x23 m =>
  brb x23
  (Qxw G k0 (.bool true) p8 p3 p6 p5 p15 p14 p13 m)
  (bp (pur (aFieldAddr 0 p8) m) fun x24 m =>
  bp (pur (aLoad false 1 x24 m) m) fun x25 m =>
  bp (pur (lenK 1 x25 m) m) fun x26 m =>
  bp (pur (bin .neq true true .int x26 (.int .i64 1)) m) fun x27 m =>
  Qxw G k0 x27 p8 p3 p6 p5 p15 p14 p13 m)
def Q1dv (G : Gt) (k0 : V → V → V → V → V → V → M → R) (p13 p15 p3 p6 p5 p14 : V) (m : M) : R :=
  bp (pur (aIndexAddrSl 4 p13 p15) m) fun x28 m =>
  bp (pur (aLoad true 4 x28 m) m) fun x29 m =>
  bp (some (aNew Q2 Q4 m)) fun x30 m =>
  bp (unt (aStore 4 x30 x29 m)) fun _ m =>
  Q1du G k0 x30 p3 p6 p5 p15 p14 p13 m
def Q1dw (G : Gt) (k0 : V → V → V → V → V → V → M → R) (p16 p13 p15 p3 p6 p5 p14 : V) (m : M) : R :=
  brb p16
  (Q1dv G k0 p13 p15 p3 p6 p5 p14 m)
  (Q1dt G p5 p3 m)
def Q8m (G : Gt) : Nat → V → V → V → V → V → V → M → R
 | 0, _, _, _, _, _, _, _ => none
 | i + 1, p15, p14, p13, p3, p6, p5, m =>
  bp (pur (bin .lss false true .int p15 p14) m) fun x31 m =>
  Q1dw G (Q8m G i) x31 p13 p15 p3 p6 p5 p14 m
def Q1dx (G : Gt) (p15 p14 p13 p3 p6 p5 : V) (m : M) : R :=
  Q8m G G.rds p15 p14 p13 p3 p6 p5 m
def Q1dy (G : Gt) (p0 p3 p6 p5 : V) (m : M) : R :=
  bp (pur (lenK 1 p0 m) m) fun x32 m =>
  Q1dx G (.int .i64 0) x32 p0 p3 p6 p5 m
def Q1dz (G : Gt) (p6 p0 p3 p5 : V) (m : M) : R :=
  bp (unt (aStore 1 p6 (.func (.func Q1d8) ⟨[]⟩ ⟨[p6]⟩) m)) fun _ m =>
  Q1dy G p0 p3 p6 p5 m
def Q1e0 (G : Gt) (p0 p3 p5 : V) (m : M) : R :=
  bp (some (aNew Qkm [.nilFunc] m)) fun x33 m =>
  Q1dz G x33 p0 p3 p5 m
def Q1e1 (G : Gt) (p0 p3 : V) (m : M) : R :=
  bp (some (aMakeMap m)) fun x34 m =>
  Q1e0 G p0 p3 x34 m
def Q18m (G : Gt) (p0 : V) (m : M) : R :=
  bp (some (aNew Q9 Q5 m)) fun x35 m =>
  Q1e1 G p0 x35 m
theorem Q1oj (G : Gt) (a0 : V) (m : M) : evFn Tryz.prog G.tab G.rds (drOf Tryz.prog G.tab) Tryz.f34 [a0] m = Q18m G a0 m :=
  evFn_of (r := fun ρ m => Q18m G (ρ 0) m) rfl rfl (tr (seqQ (f := fun ρ m => Q1e1 G (ρ 0) (ρ 3) m) (tr (seqQ (f := fun ρ m => Q1e0 G (ρ 0) (ρ 3) (ρ 5) m) (tr (seqQ (f := fun ρ m => Q1dz G (ρ 6) (ρ 0) (ρ 3) (ρ 5) m) (tr (seqQ (f := fun ρ m => Q1dy G (ρ 0) (ρ 3) (ρ 6) (ρ 5) m) (tr (tr (seqQ (f := fun ρ m => Q1dt G (ρ 5) (ρ 3) m) (fun ρ m => by kernel_rfl)) (seqQ (f := fun ρ m => Q1dx G (ρ 15) (ρ 14) (ρ 13) (ρ 3) (ρ 6) (ρ 5) m) (tr (blockQ (loopQ (fun i ρ m => Q8m G i (ρ 15) (ρ 14) (ρ 13) (ρ 3) (ρ 6) (ρ 5) m) (fun _ _ => rfl) (fun i0 => tr (seqQ (f := fun ρ m => Q1dw G (Q8m G i0) (ρ 16) (ρ 13) (ρ 15) (ρ 3) (ρ 6) (ρ 5) (ρ 14) m) (tr (seqQ (f := fun ρ m => Q1dv G (Q8m G i0) (ρ 13) (ρ 15) (ρ 3) (ρ 6) (ρ 5) (ρ 14) m) (tr (tr seqD (blockQ (seqQ (f := fun ρ m => Q1du G (Q8m G i0) (ρ 8) (ρ 3) (ρ 6) (ρ 5) (ρ 15) (ρ 14) (ρ 13) m) (tr (tr seqD (seqQ (f := fun ρ m => Qxw G (Q8m G i0) (ρ 27) (ρ 8) (ρ 3) (ρ 6) (ρ 5) (ρ 15) (ρ 14) (ρ 13) m) (fun ρ m => by kernel_rfl))) (fun ρ m => by kernel_rfl))))) (fun ρ m => by kernel_rfl))) (fun ρ m => by kernel_rfl))) (fun ρ m => by kernel_rfl)))) (fun ρ m => by kernel_rfl)))) (fun ρ m => by kernel_rfl))) (fun ρ m => by kernel_rfl))) (fun ρ m => by kernel_rfl))) (fun ρ m => by kernel_rfl))) (fun ρ m => by kernel_rfl)) m
def Q1ok : Entry Tryz.prog := ⟨Q1hr, Tryz.f34, Tryz.func34, by kernel_rfl, arg1 (fun G a0 m => Q18m G a0 m), okarg1 Q1oj⟩
def Q1b6 (G : Gt) (p4 : V) (m : M) : R :=
  bp (pur (aBuild Q5 [(0, 1), (1, 1)] []) m) fun x0 m =>
  bp (unt (aStore 2 p4 x0 m)) fun _ m =>
  ob (ob (aLoad true 2 p4 m) fun v => ob (some [(.int .i64 0)]) fun l => some (v :: l)) fun l => some (resVal l, m)
def Qxx (G : Gt) (k0 : V → V → V → V → V → M → R) (p7 p1 p4 p16 p15 p14 : V) (m : M) : R :=
  bp (pur (aFieldAddr 3 p7) m) fun x1 m =>
  bp (pur (aLoad false 1 x1 m) m) fun x2 m =>
  bp (G.tab Q12h [x2, p1] m) fun x3 m =>
  bp (pur (aExtract x3 0) m) fun x4 m =>
  bp (pur (aExtract x3 1) m) fun x5 m =>
  bp (some (aNew Q9 Q5 m)) fun x6 m =>
  bp (unt (aStore 2 x6 x4 m)) fun _ m =>
  bp (pur (bin .neq true true .int x5 (.int .i64 0)) m) fun x7 m =>
  brb x7
  (bp (pur (aLoad true 2 x6 m) m) fun x8 m =>
  bp (unt (aStore 2 p4 x8 m)) fun _ m =>
  ob (ob (aLoad true 2 p4 m) fun v => ob (some [x5]) fun l => some (v :: l)) fun l => some (resVal l, m))
  (bp (pur (bin .add true true .int p16 (.int .i64 1)) m) fun x9 m =>
  k0 x9 p15 p14 p4 p1 m)
def Qv0 (G : Gt) (k0 : V → V → V → V → V → M → R) : Nat → V → V → V → V → V → V → V → V → V → M → R
 | 0, _, _, _, _, _, _, _, _, _, _ => none
 | i + 1, p38, p37, p36, p1, p7, p4, p16, p15, p14, m =>
  bp (pur (bin .lss false true .int p38 p37) m) fun x10 m =>
  brb x10
  (bp (pur (aIndexAddrSl 1 p36 p38) m) fun x11 m =>
  bp (pur (aLoad false 1 x11 m) m) fun x12 m =>
  bp (pur (aLookup .str (.slice none 0 0) true p1 x12 m) m) fun x13 m =>
  bp (pur (aExtract x13 0) m) fun x14 m =>
  bp (pur (aExtract x13 1) m) fun x15 m =>
  bp (pur (un .not x15) m) fun x16 m =>
  brb x16
  (bp (pur (aFieldAddr 1 p7) m) fun x17 m =>
  bp (pur (aLoad false 1 x17 m) m) fun x18 m =>
  bp (pur (bin .add true true .int p38 (.int .i64 1)) m) fun x19 m =>
  bp (pur (aIndexAddrSl 2 x18 x19) m) fun x20 m =>
  bp (pur (aLoad true 2 x20 m) m) fun x21 m =>
  bp (unt (aStore 2 p4 x21 m)) fun _ m =>
  ob (ob (aLoad true 2 p4 m) fun v => ob (some [(.int .i64 120)]) fun l => some (v :: l)) fun l => some (resVal l, m))
  (bp (pur (bin .add true true .int p38 (.int .i64 1)) m) fun x22 m =>
  (Qv0 G k0 i) x22 p37 p36 p1 p7 p4 p16 p15 p14 m))
  (Qxx G k0 p7 p1 p4 p16 p15 p14 m)
def Q15z (G : Gt) (k0 : V → V → V → V → V → M → R) (p38 p37 p36 p1 p7 p4 p16 p15 p14 : V) (m : M) : R :=
  Qv0 G k0 G.rds p38 p37 p36 p1 p7 p4 p16 p15 p14 m
def Q1b7 (G : Gt) (k0 : V → V → V → V → V → M → R) (p7 p1 p4 p16 p15 p14 : V) (m : M) : R :=
  bp (pur (aFieldAddr 0 p7) m) fun x23 m =>
  bp (pur (aLoad false 1 x23 m) m) fun x24 m =>
  bp (pur (aSliceSl 1 x24 (some (.int .i64 1)) none) m) fun x25 m =>
  bp (pur (lenK 1 x25 m) m) fun x26 m =>
  Q15z G k0 (.int .i64 0) x26 x25 p1 p7 p4 p16 p15 p14 m
def Qv1 (G : Gt) (k0 : V → V → V → V → V → M → R) (p29 p7 p4 p1 p16 p15 p14 : V) (m : M) : R :=
  brb p29
  (bp (pur (aFieldAddr 1 p7) m) fun x27 m =>
  bp (pur (aLoad false 1 x27 m) m) fun x28 m =>
  bp (pur (aIndexAddrSl 2 x28 (.int .i64 0)) m) fun x29 m =>
  bp (pur (aLoad true 2 x29 m) m) fun x30 m =>
  bp (unt (aStore 2 p4 x30 m)) fun _ m =>
  ob (ob (aLoad true 2 p4 m) fun v => ob (some [(.int .i64 130)]) fun l => some (v :: l)) fun l => some (resVal l, m))
  (Q1b7 G k0 p7 p1 p4 p16 p15 p14 m)
def Q1b8 (G : Gt) (k0 : V → V → V → V → V → M → R) (p21 p7 p4 p1 p16 p15 p14 : V) (m : M) : R :=
  brb p21
  (bp (pur (aFieldAddr 2 p7) m) fun x31 m =>
  bp (pur (aLoad false 1 x31 m) m) fun x32 m =>
  brb x32
  (Qv1 G k0 (.bool true) p7 p4 p1 p16 p15 p14 m)
  (bp (pur (aFieldAddr 0 p7) m) fun x33 m =>
  bp (pur (aLoad false 1 x33 m) m) fun x34 m =>
  bp (pur (lenK 1 x34 m) m) fun x35 m =>
  bp (pur (bin .eql true true .int x35 (.int .i64 1)) m) fun x36 m =>
  Qv1 G k0 x36 p7 p4 p1 p16 p15 p14 m))
  (Qxx G k0 p7 p1 p4 p16 p15 p14 m)
def Q1b9 (G : Gt) (k0 : V → V → V → V → V → M → R) (p7 p4 p1 p16 p15 p14 : V) (m : M) : R :=
  bp (pur (aLoad true 4 p7 m) m) fun x37 m =>
  bp (G.tab Qmj [x37] m) fun x38 m =>
  Q1b8 G k0 x38 p7 p4 p1 p16 p15 p14 m
def Q1ba (G : Gt) (k0 : V → V → V → V → V → M → R) (p14 p16 p4 p1 p15 : V) (m : M) : R :=
  bp (pur (aIndexAddrSl 4 p14 p16) m) fun x39 m =>
  bp (pur (aLoad true 4 x39 m) m) fun x40 m =>
  bp (some (aNew Q2 Q4 m)) fun x41 m =>
  bp (unt (aStore 4 x41 x40 m)) fun _ m =>
  Q1b9 G k0 x41 p4 p1 p16 p15 p14 m
def Q1bb (G : Gt) (k0 : V → V → V → V → V → M → R) (p17 p14 p16 p4 p1 p15 : V) (m : M) : R :=
  brb p17
  (Q1ba G k0 p14 p16 p4 p1 p15 m)
  (Q1b6 G p4 m)
def Q1s (G : Gt) : Nat → V → V → V → V → V → M → R
 | 0, _, _, _, _, _, _ => none
 | i + 1, p16, p15, p14, p4, p1, m =>
  bp (pur (bin .lss false true .int p16 p15) m) fun x42 m =>
  Q1bb G (Q1s G i) x42 p14 p16 p4 p1 p15 m
def Q1bc (G : Gt) (p16 p15 p14 p4 p1 : V) (m : M) : R :=
  Q1s G G.rds p16 p15 p14 p4 p1 m
def Q1bd (G : Gt) (p0 p4 p1 : V) (m : M) : R :=
  bp (pur (lenK 1 p0 m) m) fun x43 m =>
  Q1bc G (.int .i64 0) x43 p0 p4 p1 m
def Q143 (G : Gt) (p0 p1 : V) (m : M) : R :=
  bp (some (aNew Q9 Q5 m)) fun x44 m =>
  Q1bd G p0 x44 p1 m
theorem Q1nd (G : Gt) (a0 a1 : V) (m : M) : evFn Tryz.prog G.tab G.rds (drOf Tryz.prog G.tab) Tryz.f35 [a0, a1] m = Q143 G a0 a1 m :=
  evFn_of (r := fun ρ m => Q143 G (ρ 0) (ρ 1) m) rfl rfl (tr (seqQ (f := fun ρ m => Q1bd G (ρ 0) (ρ 4) (ρ 1) m) (tr (tr (seqQ (f := fun ρ m => Q1b6 G (ρ 4) m) (fun ρ m => by kernel_rfl)) (seqQ (f := fun ρ m => Q1bc G (ρ 16) (ρ 15) (ρ 14) (ρ 4) (ρ 1) m) (tr (blockQ (loopQ (fun i ρ m => Q1s G i (ρ 16) (ρ 15) (ρ 14) (ρ 4) (ρ 1) m) (fun _ _ => rfl) (fun i0 => tr (seqQ (f := fun ρ m => Q1bb G (Q1s G i0) (ρ 17) (ρ 14) (ρ 16) (ρ 4) (ρ 1) (ρ 15) m) (tr (seqQ (f := fun ρ m => Q1ba G (Q1s G i0) (ρ 14) (ρ 16) (ρ 4) (ρ 1) (ρ 15) m) (tr (tr seqD (blockQ (seqQ (f := fun ρ m => Q1b9 G (Q1s G i0) (ρ 7) (ρ 4) (ρ 1) (ρ 16) (ρ 15) (ρ 14) m) (tr (tr (seqQ (f := fun ρ m => Qxx G (Q1s G i0) (ρ 7) (ρ 1) (ρ 4) (ρ 16) (ρ 15) (ρ 14) m) (fun ρ m => by kernel_rfl)) (seqQ (f := fun ρ m => Q1b8 G (Q1s G i0) (ρ 21) (ρ 7) (ρ 4) (ρ 1) (ρ 16) (ρ 15) (ρ 14) m) (tr (condQ (tr (seqQ (f := fun ρ m => Q1b7 G (Q1s G i0) (ρ 7) (ρ 1) (ρ 4) (ρ 16) (ρ 15) (ρ 14) m) (tr (seqQ (f := fun ρ m => Q15z G (Q1s G i0) (ρ 38) (ρ 37) (ρ 36) (ρ 1) (ρ 7) (ρ 4) (ρ 16) (ρ 15) (ρ 14) m) (tr (blockQ (loopQ (fun i ρ m => Qv0 G (Q1s G i0) i (ρ 38) (ρ 37) (ρ 36) (ρ 1) (ρ 7) (ρ 4) (ρ 16) (ρ 15) (ρ 14) m) (fun _ _ => rfl) (fun i1 => fun ρ m => by kernel_rfl))) (fun ρ m => by kernel_rfl))) (fun ρ m => by kernel_rfl))) (seqQ (f := fun ρ m => Qv1 G (Q1s G i0) (ρ 29) (ρ 7) (ρ 4) (ρ 1) (ρ 16) (ρ 15) (ρ 14) m) (fun ρ m => by kernel_rfl))) (refQ)) (fun ρ m => by kernel_rfl)))) (fun ρ m => by kernel_rfl))))) (fun ρ m => by kernel_rfl))) (fun ρ m => by kernel_rfl))) (fun ρ m => by kernel_rfl)))) (fun ρ m => by kernel_rfl)))) (fun ρ m => by kernel_rfl))) (fun ρ m => by kernel_rfl)) m
def Q1ne : Entry Tryz.prog := ⟨Q12h, Tryz.f35, Tryz.func35, by kernel_rfl, arg2 (fun G a0 a1 m => Q143 G a0 a1 m), okarg2 Q1nd⟩
def Qz4 (G : Gt) (p5 : V) (m : M) : R :=
  some (p5, m)
def Qlw (G : Gt) : Nat → V → V → V → V → V → M → R
 | 0, _, _, _, _, _, _ => none
 | i + 1, p36, p35, p34, p5, p1, m =>
  bp (pur (bin .lss false true .int p36 p35) m) fun x0 m =>
  brb x0
  (bp (pur (aIndexAddrSl 1 p34 p36) m) fun x1 m =>
  bp (pur (aLoad false 1 x1 m) m) fun x2 m =>
  bp (pur (aLookup .str (.slice none 0 0) false p1 x2 m) m) fun x3 m =>
  bp (G.tab Qy3 [p5, x3] m) fun x4 m =>
  bp (pur (bin .add true true .int p36 (.int .i64 1)) m) fun x5 m =>
  (Qlw G i) x5 p35 p34 x4 p1 m)
  (Qz4 G p5 m)
def Qz5 (G : Gt) (p36 p35 p34 p5 p1 : V) (m : M) : R :=
  Qlw G G.rds p36 p35 p34 p5 p1 m
def Qz6 (G : Gt) (p6 p5 p1 : V) (m : M) : R :=
  bp (pur (lenK 1 p6 m) m) fun x6 m =>
  Qz5 G (.int .i64 0) x6 p6 p5 p1 m
def Qjc (G : Gt) (k0 : V → V → V → V → V → V → M → R) (p13 p12 p11 p6 p1 p5 : V) (m : M) : R :=
  bp (pur (bin .add true true .int p13 (.int .i64 1)) m) fun x7 m =>
  k0 x7 p12 p11 p6 p1 p5 m
def Qwt (G : Gt) (k0 : V → V → V → V → V → V → M → R) (p11 p13 p6 p12 p1 p5 : V) (m : M) : R :=
  bp (pur (aIndexAddrSl 4 p11 p13) m) fun x8 m =>
  bp (pur (aLoad true 4 x8 m) m) fun x9 m =>
  bp (some (aNew Q2 Q4 m)) fun x10 m =>
  bp (unt (aStore 4 x10 x9 m)) fun _ m =>
  bp (pur (aLoad true 4 x10 m) m) fun x11 m =>
  bp (G.tab Qmj [x11] m) fun x12 m =>
  brb x12
  (bp (pur (aFieldAddr 0 x10) m) fun x13 m =>
  bp (pur (aLoad false 1 x13 m) m) fun x14 m =>
  bp (pur (aSliceSl 1 x14 (some (.int .i64 1)) none) m) fun x15 m =>
  bp (apS Q1 1 16 p6 x15 m) fun x16 m =>
  Qjc G k0 p13 p12 p11 x16 p1 p5 m)
  (bp (pur (aFieldAddr 3 x10) m) fun x17 m =>
  bp (pur (aLoad false 1 x17 m) m) fun x18 m =>
  bp (G.tab Qq9 [x18, p1] m) fun x19 m =>
  bp (pur (aFieldAddr 3 x10) m) fun x20 m =>
  bp (unt (aStore 1 x20 x19 m)) fun _ m =>
  bp (pur (aLoad true 4 x10 m) m) fun x21 m =>
  bp (aBuildSlice Q2 Q4 4 1 [(0, x21)] m) fun x22 m =>
  bp (apS Q2 4 80 p5 x22 m) fun x23 m =>
  Qjc G k0 p13 p12 p11 p6 p1 x23 m)
def Qz7 (G : Gt) (k0 : V → V → V → V → V → V → M → R) (p14 p11 p13 p6 p12 p1 p5 : V) (m : M) : R :=
  brb p14
  (Qwt G k0 p11 p13 p6 p12 p1 p5 m)
  (Qz6 G p6 p5 p1 m)
def Q5c (G : Gt) : Nat → V → V → V → V → V → V → M → R
 | 0, _, _, _, _, _, _, _ => none
 | i + 1, p13, p12, p11, p6, p1, p5, m =>
  bp (pur (bin .lss false true .int p13 p12) m) fun x24 m =>
  Qz7 G (Q5c G i) x24 p11 p13 p6 p12 p1 p5 m
def Qz8 (G : Gt) (p13 p12 p11 p6 p1 p5 : V) (m : M) : R :=
  Q5c G G.rds p13 p12 p11 p6 p1 p5 m
def Qz9 (G : Gt) (p0 p6 p1 p5 : V) (m : M) : R :=
  bp (pur (lenK 1 p0 m) m) fun x25 m =>
  Qz8 G (.int .i64 0) x25 p0 p6 p1 p5 m
def Qza (G : Gt) (p0 p1 p5 : V) (m : M) : R :=
  Qz9 G p0 (.slice none 0 0) p1 p5 m
def Qzb (G : Gt) (p0 p1 : V) (m : M) : R :=
  Qza G p0 p1 (.slice none 0 0) m
def Qqv (G : Gt) (p0 p1 : V) (m : M) : R :=
  Qzb G p0 p1 m
theorem Q1ib (G : Gt) (a0 a1 : V) (m : M) : evFn Tryz.prog G.tab G.rds (drOf Tryz.prog G.tab) Tryz.f36 [a0, a1] m = Qqv G a0 a1 m :=
  evFn_of (r := fun ρ m => Qqv G (ρ 0) (ρ 1) m) rfl rfl (tr (seqQ (f := fun ρ m => Qzb G (ρ 0) (ρ 1) m) (tr (seqQ (f := fun ρ m => Qza G (ρ 0) (ρ 1) (ρ 5) m) (tr (seqQ (f := fun ρ m => Qz9 G (ρ 0) (ρ 6) (ρ 1) (ρ 5) m) (tr (tr (seqQ (f := fun ρ m => Qz6 G (ρ 6) (ρ 5) (ρ 1) m) (tr (tr (seqQ (f := fun ρ m => Qz4 G (ρ 5) m) (fun ρ m => by kernel_rfl)) (seqQ (f := fun ρ m => Qz5 G (ρ 36) (ρ 35) (ρ 34) (ρ 5) (ρ 1) m) (tr (blockQ (loopQ (fun i ρ m => Qlw G i (ρ 36) (ρ 35) (ρ 34) (ρ 5) (ρ 1) m) (fun _ _ => rfl) (fun i0 => fun ρ m => by kernel_rfl))) (fun ρ m => by kernel_rfl)))) (fun ρ m => by kernel_rfl))) (seqQ (f := fun ρ m => Qz8 G (ρ 13) (ρ 12) (ρ 11) (ρ 6) (ρ 1) (ρ 5) m) (tr (blockQ (loopQ (fun i ρ m => Q5c G i (ρ 13) (ρ 12) (ρ 11) (ρ 6) (ρ 1) (ρ 5) m) (fun _ _ => rfl) (fun i0 => tr (seqQ (f := fun ρ m => Qz7 G (Q5c G i0) (ρ 14) (ρ 11) (ρ 13) (ρ 6) (ρ 12) (ρ 1) (ρ 5) m) (tr (seqQ (f := fun ρ m => Qwt G (Q5c G i0) (ρ 11) (ρ 13) (ρ 6) (ρ 12) (ρ 1) (ρ 5) m) (tr (seqQ (f := fun ρ m => Qjc G (Q5c G i0) (ρ 13) (ρ 12) (ρ 11) (ρ 6) (ρ 1) (ρ 5) m) (fun ρ m => by kernel_rfl)) (fun ρ m => by kernel_rfl))) (fun ρ m => by kernel_rfl))) (fun ρ m => by kernel_rfl)))) (fun ρ m => by kernel_rfl)))) (fun ρ m => by kernel_rfl))) (fun ρ m => by kernel_rfl))) (fun ρ m => by kernel_rfl))) (fun ρ m => by kernel_rfl)) m
def Q1ic : Entry Tryz.prog := ⟨Qq9, Tryz.f36, Tryz.func36, by kernel_rfl, arg2 (fun G a0 a1 m => Qqv G a0 a1 m), okarg2 Q1ib⟩
end
end Go.Ab.Sh

set_option linter.unusedVariables false
set_option maxRecDepth 100000
namespace Go.Ab.Sh
open Go Go.Ab Go.Proofs
noncomputable section
def Qbz (G : Gt) (k0 : V → V → V → V → V → V → M → R) (p16 p15 p14 p0 p2 p6 : V) (m : M) : R :=
  bp (pur (bin .add true true .int p16 (.int .i64 1)) m) fun x0 m =>
  k0 x0 p15 p14 p0 p2 p6 m
def Qaw (G : Gt) (k0 : V → V → V → V → V → V → M → R) (p6 p11 p9 p0 p12 p8 p16 p15 p14 p2 : V) (m : M) : R :=
  bp (unt (aMapUpdate .str p6 p11 (.bool true) m)) fun _ m =>
  bp (pur (aNilCheck p9) m) fun x1 m =>
  bp (pur (aFieldAddr 7 x1) m) fun x2 m =>
  bp (pur (aLoad false 1 x2 m) m) fun x3 m =>
  bp (pur (bin .neq true true .int x3 (.int .i64 0)) m) fun x4 m =>
  brb x4
  (bp (pur (aNilCheck p9) m) fun x5 m =>
  bp (pur (aFieldAddr 5 x5) m) fun x6 m =>
  bp (pur (aLoad true 2 x6 m) m) fun x7 m =>
  bp (pur (aNilCheck p9) m) fun x8 m =>
  bp (pur (aFieldAddr 7 x8) m) fun x9 m =>
  bp (pur (aLoad false 1 x9 m) m) fun x10 m =>
  bp (pur (aNilCheck p0) m) fun x11 m =>
  bp (pur (aFieldAddr 12 x11) m) fun x12 m =>
  bp (unt (aStore 2 x12 x7 m)) fun _ m =>
  bp (pur (aNilCheck p0) m) fun x13 m =>
  bp (pur (aFieldAddr 14 x13) m) fun x14 m =>
  bp (unt (aStore 1 x14 x10 m)) fun _ m =>
  some (.tuple ⟨[]⟩, m))
  (bp (pur (bin .neq true true .func p12 .nilFunc) m) fun x15 m =>
  brb x15
  (bp (pur (aFieldAddr 3 p8) m) fun x16 m =>
  bp (pur (aLoad false 1 x16 m) m) fun x17 m =>
  bp (evCall G.tab p12 [x17] m) fun x18 m =>
  Qbz G k0 p16 p15 p14 p0 p2 p6 m)
  (Qbz G k0 p16 p15 p14 p0 p2 p6 m))
def Qax (G : Gt) (k0 : V → V → V → V → V → V → M → R) (p60 p9 p6 p11 p0 p12 p8 p16 p15 p14 p2 : V) (m : M) : R :=
  brb p60
  (bp (G.tab Q4j [p9] m) fun x19 m =>
  bp (G.tab Q58 [p9, x19, (.int .i64 7)] m) fun x20 m =>
  Qaw G k0 p6 p11 p9 p0 p12 p8 p16 p15 p14 p2 m)
  (Qaw G k0 p6 p11 p9 p0 p12 p8 p16 p15 p14 p2 m)
def Qay (G : Gt) (k0 : V → V → V → V → V → V → M → R) (p11 p6 p9 p0 p12 p8 p16 p15 p14 p2 : V) (m : M) : R :=
  bp (pur (bin .neq true true .str p11 (.string ⟨#[]⟩)) m) fun x21 m =>
  brb x21
  (bp (pur (aLookup .str (.bool false) false p6 p11 m) m) fun x22 m =>
  Qax G k0 x22 p9 p6 p11 p0 p12 p8 p16 p15 p14 p2 m)
  (Qax G k0 (.bool false) p9 p6 p11 p0 p12 p8 p16 p15 p14 p2 m)
def Qaz (G : Gt) (k0 : V → V → V → V → V → V → M → R) (p10 p8 p9 p11 p6 p0 p12 p16 p15 p14 p2 : V) (m : M) : R :=
  bp (pur (aFieldAddr 2 p8) m) fun x23 m =>
  bp (pur (aLoad false 1 x23 m) m) fun x24 m =>
  bp (pur (bin .neq false true .bool p10 x24) m) fun x25 m =>
  brb x25
  (bp (G.tab Q4j [p9] m) fun x26 m =>
  bp (G.tab Q58 [p9, x26, (.int .i64 130)] m) fun x27 m =>
  Qay G k0 p11 p6 p9 p0 p12 p8 p16 p15 p14 p2 m)
  (Qay G k0 p11 p6 p9 p0 p12 p8 p16 p15 p14 p2 m)
def Qnk (G : Gt) (k0 : V → V → V → V → V → V → M → R) (p9 p10 p8 p11 p6 p0 p12 p16 p15 p14 p2 : V) (m : M) : R :=
  bp (G.tab Q2i [p9] m) fun x28 m =>
  brb x28
  (bp (pur (aNilCheck p9) m) fun x29 m =>
  bp (pur (aFieldAddr 4 x29) m) fun x30 m =>
  bp (pur (aLoad false 1 x30 m) m) fun x31 m =>
  bp (pur (bin .add true true .int x31 (.int .i64 1)) m) fun x32 m =>
  bp (pur (aNilCheck p9) m) fun x33 m =>
  bp (pur (aFieldAddr 4 x33) m) fun x34 m =>
  bp (unt (aStore 1 x34 x32 m)) fun _ m =>
  bp (G.tab Qe [p9, (.int .i64 130)] m) fun x35 m =>
  Qaz G k0 p10 p8 p9 p11 p6 p0 p12 p16 p15 p14 p2 m)
  (Qaz G k0 p10 p8 p9 p11 p6 p0 p12 p16 p15 p14 p2 m)
def Qnl (G : Gt) (k0 : V → V → V → V → V → V → M → R) (p2 p9 p8 p6 p0 p16 p15 p14 : V) (m : M) : R :=
  bp (evCall G.tab p2 [p9] m) fun x36 m =>
  bp (pur (aExtract x36 0) m) fun x37 m =>
  bp (pur (aExtract x36 1) m) fun x38 m =>
  bp (pur (aExtract x36 2) m) fun x39 m =>
  Qnk G k0 p9 x37 p8 x38 p6 p0 x39 p16 p15 p14 p2 m
def Qnm (G : Gt) (k0 : V → V → V → V → V → V → M → R) (p8 p2 p6 p0 p16 p15 p14 : V) (m : M) : R :=
  bp (pur (aLoad true 4 p8 m) m) fun x40 m =>
  bp (pur (aBuild Q1is [(0, 4), (4, 1), (5, 2), (7, 1)] [(0, x40)]) m) fun x41 m =>
  bp (some (aNew Q1iq (Value.cells x41).toList m)) fun x42 m =>
  Qnl G k0 p2 x42 p8 p6 p0 p16 p15 p14 m
def Qnn (G : Gt) (k0 : V → V → V → V → V → V → M → R) (p0 p8 p2 p6 p16 p15 p14 : V) (m : M) : R :=
  bp (pur (aNilCheck p0) m) fun x43 m =>
  bp (pur (aFieldAddr 14 x43) m) fun x44 m =>
  bp (pur (aLoad false 1 x44 m) m) fun x45 m =>
  bp (pur (bin .neq true true .int x45 (.int .i64 0)) m) fun x46 m =>
  brb x46
  (some (.tuple ⟨[]⟩, m))
  (Qnm G k0 p8 p2 p6 p0 p16 p15 p14 m)
def Qno (G : Gt) (k0 : V → V → V → V → V → V → M → R) (p14 p16 p0 p2 p6 p15 : V) (m : M) : R :=
  bp (pur (aIndexAddrSl 4 p14 p16) m) fun x47 m =>
  bp (pur (aLoad true 4 x47 m) m) fun x48 m =>
  bp (some (aNew Q2 Q4 m)) fun x49 m =>
  bp (unt (aStore 4 x49 x48 m)) fun _ m =>
  Qnn G k0 p0 x49 p2 p6 p16 p15 p14 m
def Qnp (G : Gt) (k0 : V → V → V → V → V → V → M → R) (p17 p14 p16 p0 p2 p6 p15 : V) (m : M) : R :=
  brb p17
  (Qno G k0 p14 p16 p0 p2 p6 p15 m)
  (some (.tuple ⟨[]⟩, m))
def Qh (G : Gt) : Nat → V → V → V → V → V → V → M → R
 | 0, _, _, _, _, _, _, _ => none
 | i + 1, p16, p15, p14, p0, p2, p6, m =>
  bp (pur (bin .lss false true .int p16 p15) m) fun x50 m =>
  Qnp G (Qh G i) x50 p14 p16 p0 p2 p6 p15 m
def Qnq (G : Gt) (p16 p15 p14 p0 p2 p6 : V) (m : M) : R :=
  Qh G G.rds p16 p15 p14 p0 p2 p6 m
def Qnr (G : Gt) (p1 p0 p2 p6 : V) (m : M) : R :=
  bp (pur (lenK 1 p1 m) m) fun x51 m =>
  Qnq G (.int .i64 0) x51 p1 p0 p2 p6 m
def Qfc (G : Gt) (p1 p0 p2 : V) (m : M) : R :=
  bp (some (aMakeMap m)) fun x52 m =>
  Qnr G p1 p0 p2 x52 m
theorem Q1be (G : Gt) (a0 a1 a2 : V) (m : M) : evFn Tryz.prog G.tab G.rds (drOf Tryz.prog G.tab) Tryz.f37 [a0, a1, a2] m = Qfc G a1 a0 a2 m :=
  evFn_of (r := fun ρ m => Qfc G (ρ 1) (ρ 0) (ρ 2) m) rfl rfl (tr (seqQ (f := fun ρ m => Qnr G (ρ 1) (ρ 0) (ρ 2) (ρ 6) m) (tr (seqQ (f := fun ρ m => Qnq G (ρ 16) (ρ 15) (ρ 14) (ρ 0) (ρ 2) (ρ 6) m) (tr (blockQ (loopQ (fun i ρ m => Qh G i (ρ 16) (ρ 15) (ρ 14) (ρ 0) (ρ 2) (ρ 6) m) (fun _ _ => rfl) (fun i0 => tr (seqQ (f := fun ρ m => Qnp G (Qh G i0) (ρ 17) (ρ 14) (ρ 16) (ρ 0) (ρ 2) (ρ 6) (ρ 15) m) (tr (seqQ (f := fun ρ m => Qno G (Qh G i0) (ρ 14) (ρ 16) (ρ 0) (ρ 2) (ρ 6) (ρ 15) m) (tr (tr (seqQ (f := fun ρ m => Qbz G (Qh G i0) (ρ 16) (ρ 15) (ρ 14) (ρ 0) (ρ 2) (ρ 6) m) (fun ρ m => by kernel_rfl)) (blockQ (seqQ (f := fun ρ m => Qnn G (Qh G i0) (ρ 0) (ρ 8) (ρ 2) (ρ 6) (ρ 16) (ρ 15) (ρ 14) m) (tr (seqQ (f := fun ρ m => Qnm G (Qh G i0) (ρ 8) (ρ 2) (ρ 6) (ρ 0) (ρ 16) (ρ 15) (ρ 14) m) (tr (seqQ (f := fun ρ m => Qnl G (Qh G i0) (ρ 2) (ρ 9) (ρ 8) (ρ 6) (ρ 0) (ρ 16) (ρ 15) (ρ 14) m) (tr (seqQ (f := fun ρ m => Qnk G (Qh G i0) (ρ 9) (ρ 10) (ρ 8) (ρ 11) (ρ 6) (ρ 0) (ρ 12) (ρ 16) (ρ 15) (ρ 14) (ρ 2) m) (tr (seqQ (f := fun ρ m => Qaz G (Qh G i0) (ρ 10) (ρ 8) (ρ 9) (ρ 11) (ρ 6) (ρ 0) (ρ 12) (ρ 16) (ρ 15) (ρ 14) (ρ 2) m) (tr (seqQ (f := fun ρ m => Qay G (Qh G i0) (ρ 11) (ρ 6) (ρ 9) (ρ 0) (ρ 12) (ρ 8) (ρ 16) (ρ 15) (ρ 14) (ρ 2) m) (tr (tr (seqQ (f := fun ρ m => Qaw G (Qh G i0) (ρ 6) (ρ 11) (ρ 9) (ρ 0) (ρ 12) (ρ 8) (ρ 16) (ρ 15) (ρ 14) (ρ 2) m) (fun ρ m => by kernel_rfl)) (seqQ (f := fun ρ m => Qax G (Qh G i0) (ρ 60) (ρ 9) (ρ 6) (ρ 11) (ρ 0) (ρ 12) (ρ 8) (ρ 16) (ρ 15) (ρ 14) (ρ 2) m) (fun ρ m => by kernel_rfl))) (fun ρ m => by kernel_rfl))) (fun ρ m => by kernel_rfl))) (fun ρ m => by kernel_rfl))) (fun ρ m => by kernel_rfl))) (fun ρ m => by kernel_rfl))) (fun ρ m => by kernel_rfl))))) (fun ρ m => by kernel_rfl))) (fun ρ m => by kernel_rfl))) (fun ρ m => by kernel_rfl)))) (fun ρ m => by kernel_rfl))) (fun ρ m => by kernel_rfl))) (fun ρ m => by kernel_rfl)) m
def Q1bf : Entry Tryz.prog := ⟨Q81, Tryz.f37, Tryz.func37, by kernel_rfl, arg3 (fun G a0 a1 a2 m => Qfc G a1 a0 a2 m), okarg3 Q1be⟩
def Qhk (G : Gt) (p0 p1 : V) (m : M) : R :=
  bp (aBuildSlice Q19v [.nilFunc] 1 8 [(0, (.func (.func Qmr) ⟨[p0]⟩ ⟨[]⟩)), (1, (.func (.func Qhx) ⟨[p0]⟩ ⟨[]⟩)), (2, (.func (.func Qg8) ⟨[p0]⟩ ⟨[]⟩)), (3, (.func (.func Qjg) ⟨[p0]⟩ ⟨[]⟩)), (4, (.func (.func Qt0) ⟨[p0]⟩ ⟨[]⟩)), (5, (.func (.func Qms) ⟨[p0]⟩ ⟨[]⟩)), (6, (.func (.func Qjh) ⟨[p0]⟩ ⟨[]⟩)), (7, (.func (.func Qhy) ⟨[p0]⟩ ⟨[]⟩))] m) fun x0 m =>
  bp (aBuildSlice Q1 [(.string ⟨#[]⟩)] 1 8 [(0, (.string ⟨#[115,121,115,116,101,109]⟩)), (1, (.string ⟨#[105,110,115,116,97,110,99,101,115]⟩)), (2, (.string ⟨#[105,110,116,101,114,102,97,99,101,115]⟩)), (3, (.string ⟨#[102,105,114,101,119,97,108,108]⟩)), (4, (.string ⟨#[110,97,116]⟩)), (5, (.string ⟨#[114,111,117,116,101,115]⟩)), (6, (.string ⟨#[112,111,108,105,99,121]⟩)), (7, (.string ⟨#[112,114,111,116,111,99,111,108,115]⟩))] m) fun x1 m =>
  bp (G.tab Q8 [p1, x1] m) fun x2 m =>
  bp (pur (aIndexAddrSl 1 x0 x2) m) fun x3 m =>
  bp (pur (aLoad false 1 x3 m) m) fun x4 m =>
  bp (G.tab Qj [p0, x4] m) fun x5 m =>
  some (.tuple ⟨[(.bool true), (.string ⟨#[]⟩), x5]⟩, m)
theorem Q1cx (G : Gt) (a0 a1 : V) (m : M) : evFn Tryz.prog G.tab G.rds (drOf Tryz.prog G.tab) Tryz.f38 [a0, a1] m = Qhk G a0 a1 m :=
  evFn_of (r := fun ρ m => Qhk G (ρ 0) (ρ 1) m) rfl rfl (fun ρ m => by kernel_rfl) m
def Q1cy : Entry Tryz.prog := ⟨Qsv, Tryz.f38, Tryz.func38, by kernel_rfl, arg2 (fun G a0 a1 m => Qhk G a0 a1 m), okarg2 Q1cx⟩
def Q160 (G : Gt) (m : M) : R :=
  some (.tuple ⟨[(.string ⟨#[]⟩), (.int .i64 0)]⟩, m)
def Q161 (G : Gt) (k0 : V → V → V → M → R) (p22 p21 p20 : V) (m : M) : R :=
  bp (pur (bin .add true true .int p22 (.int .i64 1)) m) fun x0 m =>
  k0 x0 p21 p20 m
def Qqw (G : Gt) (k0 : V → V → V → M → R) : Nat → V → V → V → V → V → V → M → R
 | 0, _, _, _, _, _, _, _ => none
 | i + 1, p40, p39, p5, p22, p21, p20, m =>
  bp (pur (bin .lss false true .int p40 p39) m) fun x1 m =>
  brb x1
  (bp (pur (aFieldAddr 3 p5) m) fun x2 m =>
  bp (pur (aLoad false 1 x2 m) m) fun x3 m =>
  bp (evCall G.tab x3 [p40] m) fun x4 m =>
  bp (pur (bin .eql true true .int x4 (.int .i64 1)) m) fun x5 m =>
  brb x5
  (bp (pur (aFieldAddr 0 p5) m) fun x6 m =>
  bp (pur (aLoad false 1 x6 m) m) fun x7 m =>
  bp (pur (bin .add true true .str x7 (.string ⟨#[32]⟩)) m) fun x8 m =>
  bp (G.tab Q2j [p40] m) fun x9 m =>
  ckB (again (pur (aLoad false 1 x6 m) m) x7 && true)
  (bp (pur (bin .add false true .str x8 x9) m) fun x10 m =>
  some (.tuple ⟨[x10, (.int .i64 121)]⟩, m)))
  (bp (pur (bin .eql true true .int x4 (.int .i64 2)) m) fun x11 m =>
  brb x11
  (bp (pur (aFieldAddr 0 p5) m) fun x12 m =>
  bp (pur (aLoad false 1 x12 m) m) fun x13 m =>
  bp (pur (bin .add true true .str x13 (.string ⟨#[32]⟩)) m) fun x14 m =>
  bp (G.tab Q2j [p40] m) fun x15 m =>
  ckB (again (pur (aLoad false 1 x12 m) m) x13 && true)
  (bp (pur (bin .add false true .str x14 x15) m) fun x16 m =>
  some (.tuple ⟨[x16, (.int .i64 120)]⟩, m)))
  (bp (pur (bin .add true true .int p40 (.int .i64 1)) m) fun x17 m =>
  (Qqw G k0 i) x17 p39 p5 p22 p21 p20 m)))
  (Q161 G k0 p22 p21 p20 m)
def Q144 (G : Gt) (k0 : V → V → V → M → R) (p40 p39 p5 p22 p21 p20 : V) (m : M) : R :=
  Qqw G k0 G.rds p40 p39 p5 p22 p21 p20 m
def Q145 (G : Gt) (k0 : V → V → V → M → R) (p5 p22 p21 p20 : V) (m : M) : R :=
  bp (pur (aFieldAddr 1 p5) m) fun x18 m =>
  bp (pur (aLoad false 1 x18 m) m) fun x19 m =>
  Q144 G k0 (.int .i64 0) x19 p5 p22 p21 p20 m
def Q162 (G : Gt) (k0 : V → V → V → M → R) (p5 p22 p21 p20 : V) (m : M) : R :=
  bp (pur (aFieldAddr 1 p5) m) fun x20 m =>
  bp (pur (aLoad false 1 x20 m) m) fun x21 m =>
  bp (pur (aFieldAddr 2 p5) m) fun x22 m =>
  bp (pur (aLoad false 1 x22 m) m) fun x23 m =>
  bp (pur (bin .gtr false true .int x21 x23) m) fun x24 m =>
  brb x24
  (bp (pur (aFieldAddr 0 p5) m) fun x25 m =>
  bp (pur (aLoad false 1 x25 m) m) fun x26 m =>
  bp (pur (bin .add true true .str x26 (.string ⟨#[32]⟩)) m) fun x27 m =>
  bp (pur (aFieldAddr 2 p5) m) fun x28 m =>
  bp (pur (aLoad false 1 x28 m) m) fun x29 m =>
  bp (G.tab Q2j [x29] m) fun x30 m =>
  ckB (again (pur (aLoad false 1 x25 m) m) x26 && true)
  (bp (pur (bin .add false true .str x27 x30) m) fun x31 m =>
  some (.tuple ⟨[x31, (.int .i64 121)]⟩, m)))
  (Q145 G k0 p5 p22 p21 p20 m)
def Q163 (G : Gt) (k0 : V → V → V → M → R) (p20 p22 p21 : V) (m : M) : R :=
  bp (pur (aIndexAddrSl 4 p20 p22) m) fun x32 m =>
  bp (pur (aLoad true 4 x32 m) m) fun x33 m =>
  bp (some (aNew Q1fh Q37 m)) fun x34 m =>
  bp (unt (aStore 4 x34 x33 m)) fun _ m =>
  Q162 G k0 x34 p22 p21 p20 m
def Q164 (G : Gt) (k0 : V → V → V → M → R) (p23 p20 p22 p21 : V) (m : M) : R :=
  brb p23
  (Q163 G k0 p20 p22 p21 m)
  (Q160 G m)
def Q2m (G : Gt) : Nat → V → V → V → M → R
 | 0, _, _, _, _ => none
 | i + 1, p22, p21, p20, m =>
  bp (pur (bin .lss false true .int p22 p21) m) fun x35 m =>
  Q164 G (Q2m G i) x35 p20 p22 p21 m
def Q165 (G : Gt) (p22 p21 p20 : V) (m : M) : R :=
  Q2m G G.rds p22 p21 p20 m
def Q166 (G : Gt) (p1 : V) (m : M) : R :=
  bp (pur (aLoad true 12 p1 m) m) fun x36 m =>
  bp (G.tab Q15o [x36] m) fun x37 m =>
  bp (pur (lenK 1 x37 m) m) fun x38 m =>
  Q165 G (.int .i64 0) x38 x37 m
def Qqx (G : Gt) (p18 p1 : V) (m : M) : R :=
  brb p18
  (some (.tuple ⟨[(.string ⟨#[107,105,110,100]⟩), (.int .i64 121)]⟩, m))
  (Q166 G p1 m)
def Q167 (G : Gt) (p1 : V) (m : M) : R :=
  bp (pur (aFieldAddr 1 p1) m) fun x39 m =>
  bp (pur (aLoad false 1 x39 m) m) fun x40 m =>
  bp (pur (bin .neq true true .int x40 (.int .u8 1)) m) fun x41 m =>
  brb x41
  (bp (pur (aFieldAddr 1 p1) m) fun x42 m =>
  bp (pur (aLoad false 1 x42 m) m) fun x43 m =>
  bp (pur (bin .neq true true .int x43 (.int .u8 2)) m) fun x44 m =>
  Qqx G x44 p1 m)
  (Qqx G (.bool false) p1 m)
def Q168 (G : Gt) (p1 : V) (m : M) : R :=
  bp (pur (aFieldAddr 0 p1) m) fun x45 m =>
  bp (pur (aLoad false 1 x45 m) m) fun x46 m =>
  bp (G.tab Q7k [x46] m) fun x47 m =>
  bp (pur (un .not x47) m) fun x48 m =>
  brb x48
  (some (.tuple ⟨[(.string ⟨#[110,97,109,101]⟩), (.int .i64 121)]⟩, m))
  (Q167 G p1 m)
def Q103 (G : Gt) (p0 : V) (m : M) : R :=
  bp (some (aNew Ql (Value.cells p0).toList m)) fun x49 m =>
  Q168 G x49 m
theorem Q1lo (G : Gt) (a0 : V) (m : M) : evFn Tryz.prog G.tab G.rds (drOf Tryz.prog G.tab) Tryz.f39 [a0] m = Q103 G a0 m :=
  evFn_of (r := fun ρ m => Q103 G (ρ 0) m) rfl rfl (tr (seqQ (f := fun ρ m => Q168 G (ρ 1) m) (tr (seqQ (f := fun ρ m => Q167 G (ρ 1) m) (tr (tr (seqQ (f := fun ρ m => Q166 G (ρ 1) m) (tr (tr (seqQ (f := fun ρ m => Q160 G m) (fun ρ m => by kernel_rfl)) (seqQ (f := fun ρ m => Q165 G (ρ 22) (ρ 21) (ρ 20) m) (tr (blockQ (loopQ (fun i ρ m => Q2m G i (ρ 22) (ρ 21) (ρ 20) m) (fun _ _ => rfl) (fun i0 => tr (seqQ (f := fun ρ m => Q164 G (Q2m G i0) (ρ 23) (ρ 20) (ρ 22) (ρ 21) m) (tr (seqQ (f := fun ρ m => Q163 G (Q2m G i0) (ρ 20) (ρ 22) (ρ 21) m) (tr (tr (seqQ (f := fun ρ m => Q161 G (Q2m G i0) (ρ 22) (ρ 21) (ρ 20) m) (fun ρ m => by kernel_rfl)) (blockQ (seqQ (f := fun ρ m => Q162 G (Q2m G i0) (ρ 5) (ρ 22) (ρ 21) (ρ 20) m) (tr (seqQ (f := fun ρ m => Q145 G (Q2m G i0) (ρ 5) (ρ 22) (ρ 21) (ρ 20) m) (tr (seqQ (f := fun ρ m => Q144 G (Q2m G i0) (ρ 40) (ρ 39) (ρ 5) (ρ 22) (ρ 21) (ρ 20) m) (tr (blockQ (loopQ (fun i ρ m => Qqw G (Q2m G i0) i (ρ 40) (ρ 39) (ρ 5) (ρ 22) (ρ 21) (ρ 20) m) (fun _ _ => rfl) (fun i1 => fun ρ m => by kernel_rfl))) (fun ρ m => by kernel_rfl))) (fun ρ m => by kernel_rfl))) (fun ρ m => by kernel_rfl))))) (fun ρ m => by kernel_rfl))) (fun ρ m => by kernel_rfl))) (fun ρ m => by kernel_rfl)))) (fun ρ m => by kernel_rfl)))) (fun ρ m => by kernel_rfl))) (seqQ (f := fun ρ m => Qqx G (ρ 18) (ρ 1) m) (fun ρ m => by kernel_rfl))) (fun ρ m => by kernel_rfl))) (fun ρ m => by kernel_rfl))) (fun ρ m => by kernel_rfl)) m
def Q1lp : Entry Tryz.prog := ⟨Q1di, Tryz.f39, Tryz.func39, by kernel_rfl, arg1 (fun G a0 m => Q103 G a0 m), okarg1 Q1lo⟩
def Qfd (G : Gt) (m : M) : R :=
  some ((.bool false), m)
def Q73 (G : Gt) : Nat → V → V → V → V → M → R
 | 0, _, _, _, _, _ => none
 | i + 1, p9, p8, p7, p3, m =>
  bp (pur (bin .lss false true .int p9 p8) m) fun x0 m =>
  brb x0
  (bp (pur (aIndexAddrSl 7 p7 p9) m) fun x1 m =>
  bp (pur (aLoad true 7 x1 m) m) fun x2 m =>
  bp (some (aNew Qab Qdz m)) fun x3 m =>
  bp (unt (aStore 7 x3 x2 m)) fun _ m =>
  bp (pur (aLoad true 7 x3 m) m) fun x4 m =>
  bp (pur (aLookup (.struct [(0, 1, false, .str), (1, 2, true, (.struct [(0, 1, false, .int), (1, 1, false, .int)])), (3, 1, false, .int), (4, 1, false, .bool), (5, 1, false, .int), (6, 1, false, .int)]) (.bool false) false p3 x4 m) m) fun x5 m =>
  brb x5
  (some ((.bool true), m))
  (bp (pur (aLoad true 7 x3 m) m) fun x6 m =>
  bp (unt (aMapUpdate (.struct [(0, 1, false, .str), (1, 2, true, (.struct [(0, 1, false, .int), (1, 1, false, .int)])), (3, 1, false, .int), (4, 1, false, .bool), (5, 1, false, .int), (6, 1, false, .int)]) p3 x6 (.bool true) m)) fun _ m =>
  bp (pur (bin .add true true .int p9 (.int .i64 1)) m) fun x7 m =>
  (Q73 G i) x7 p8 p7 p3 m))
  (Qfd G m)
def Qfe (G : Gt) (p9 p8 p7 p3 : V) (m : M) : R :=
  Q73 G G.rds p9 p8 p7 p3 m
def Qff (G : Gt) (p0 p3 : V) (m : M) : R :=
  bp (pur (lenK 1 p0 m) m) fun x8 m =>
  Qfe G (.int .i64 0) x8 p0 p3 m
def Qfg (G : Gt) (p0 : V) (m : M) : R :=
  bp (some (aMakeMap m)) fun x9 m =>
  Qff G p0 x9 m
def Q8n (G : Gt) (p0 : V) (m : M) : R :=
  Qfg G p0 m
theorem Q104 (G : Gt) (a0 : V) (m : M) : evFn Tryz.prog G.tab G.rds (drOf Tryz.prog G.tab) Tryz.f40 [a0] m = Q8n G a0 m :=
  evFn_of (r := fun ρ m => Q8n G (ρ 0) m) rfl rfl (tr (seqQ (f := fun ρ m => Qfg G (ρ 0) m) (tr (seqQ (f := fun ρ m => Qff G (ρ 0) (ρ 3) m) (tr (tr (seqQ (f := fun ρ m => Qfd G m) (fun ρ m => by kernel_rfl)) (seqQ (f := fun ρ m => Qfe G (ρ 9) (ρ 8) (ρ 7) (ρ 3) m) (tr (blockQ (loopQ (fun i ρ m => Q73 G i (ρ 9) (ρ 8) (ρ 7) (ρ 3) m) (fun _ _ => rfl) (fun i0 => fun ρ m => by kernel_rfl))) (fun ρ m => by kernel_rfl)))) (fun ρ m => by kernel_rfl))) (fun ρ m => by kernel_rfl))) (fun ρ m => by kernel_rfl)) m
def Q105 : Entry Tryz.prog := ⟨Qhw, Tryz.f40, Tryz.func40, by kernel_rfl, arg1 (fun G a0 m => Q8n G a0 m), okarg1 Q104⟩
def Qdo (G : Gt) (m : M) : R :=
  some ((.bool false), m)
def Q6i (G : Gt) : Nat → V → V → V → V → M → R
 | 0, _, _, _, _, _ => none
 | i + 1, p9, p8, p7, p3, m =>
  bp (pur (bin .lss false true .int p9 p8) m) fun x0 m =>
  brb x0
  (bp (pur (aIndexAddrSl 3 p7 p9) m) fun x1 m =>
  bp (pur (aLoad true 3 x1 m) m) fun x2 m =>
  bp (some (aNew Qc6 Qc7 m)) fun x3 m =>
  bp (unt (aStore 3 x3 x2 m)) fun _ m =>
  bp (pur (aLoad true 3 x3 m) m) fun x4 m =>
  bp (pur (aLookup (.struct [(0, 1, false, .bool), (1, 1, false, .str), (2, 1, false, .int)]) (.bool false) false p3 x4 m) m) fun x5 m =>
  brb x5
  (some ((.bool true), m))
  (bp (pur (aLoad true 3 x3 m) m) fun x6 m =>
  bp (unt (aMapUpdate (.struct [(0, 1, false, .bool), (1, 1, false, .str), (2, 1, false, .int)]) p3 x6 (.bool true) m)) fun _ m =>
  bp (pur (bin .add true true .int p9 (.int .i64 1)) m) fun x7 m =>
  (Q6i G i) x7 p8 p7 p3 m))
  (Qdo G m)
def Qdp (G : Gt) (p9 p8 p7 p3 : V) (m : M) : R :=
  Q6i G G.rds p9 p8 p7 p3 m
def Qdq (G : Gt) (p0 p3 : V) (m : M) : R :=
  bp (pur (lenK 1 p0 m) m) fun x8 m =>
  Qdp G (.int .i64 0) x8 p0 p3 m
def Qdr (G : Gt) (p0 : V) (m : M) : R :=
  bp (some (aMakeMap m)) fun x9 m =>
  Qdq G p0 x9 m
def Q7x (G : Gt) (p0 : V) (m : M) : R :=
  Qdr G p0 m
theorem Qzc (G : Gt) (a0 : V) (m : M) : evFn Tryz.prog G.tab G.rds (drOf Tryz.prog G.tab) Tryz.f41 [a0] m = Q7x G a0 m :=
  evFn_of (r := fun ρ m => Q7x G (ρ 0) m) rfl rfl (tr (seqQ (f := fun ρ m => Qdr G (ρ 0) m) (tr (seqQ (f := fun ρ m => Qdq G (ρ 0) (ρ 3) m) (tr (tr (seqQ (f := fun ρ m => Qdo G m) (fun ρ m => by kernel_rfl)) (seqQ (f := fun ρ m => Qdp G (ρ 9) (ρ 8) (ρ 7) (ρ 3) m) (tr (blockQ (loopQ (fun i ρ m => Q6i G i (ρ 9) (ρ 8) (ρ 7) (ρ 3) m) (fun _ _ => rfl) (fun i0 => fun ρ m => by kernel_rfl))) (fun ρ m => by kernel_rfl)))) (fun ρ m => by kernel_rfl))) (fun ρ m => by kernel_rfl))) (fun ρ m => by kernel_rfl)) m
def Qzd : Entry Tryz.prog := ⟨Qg7, Tryz.f41, Tryz.func41, by kernel_rfl, arg1 (fun G a0 m => Q7x G a0 m), okarg1 Qzc⟩
def Q42 (G : Gt) (p0 p1 : V) (m : M) : R :=
  bp (G.tab Q5j [p0, p1] m) fun x0 m =>
  bp (pur (bin .geq true true .int x0 (.int .i64 0)) m) fun x1 m =>
  some (x1, m)
theorem Qoj (G : Gt) (a0 a1 : V) (m : M) : evFn Tryz.prog G.tab G.rds (drOf Tryz.prog G.tab) Tryz.f42 [a0, a1] m = Q42 G a0 a1 m :=
  evFn_of (r := fun ρ m => Q42 G (ρ 0) (ρ 1) m) rfl rfl (fun ρ m => by kernel_rfl) m
def Qok : Entry Tryz.prog := ⟨Q3z, Tryz.f42, Tryz.func42, by kernel_rfl, arg2 (fun G a0 a1 m => Q42 G a0 a1 m), okarg2 Qoj⟩
def Qgv (G : Gt) (m : M) : R :=
  some ((.bool false), m)
def Q7y (G : Gt) : Nat → V → V → V → V → M → R
 | 0, _, _, _, _, _ => none
 | i + 1, p9, p8, p7, p3, m =>
  bp (pur (bin .lss false true .int p9 p8) m) fun x0 m =>
  brb x0
  (bp (pur (aIndexAddrSl 5 p7 p9) m) fun x1 m =>
  bp (pur (aLoad true 5 x1 m) m) fun x2 m =>
  bp (some (aNew Qcm Qil m)) fun x3 m =>
  bp (unt (aStore 5 x3 x2 m)) fun _ m =>
  bp (pur (aLoad true 5 x3 m) m) fun x4 m =>
  bp (pur (aLookup (.struct [(0, 1, false, .bool), (1, 2, true, (.struct [(0, 1, false, .int), (1, 1, false, .int)])), (3, 1, false, .int), (4, 1, false, .int)]) (.bool false) false p3 x4 m) m) fun x5 m =>
  brb x5
  (some ((.bool true), m))
  (bp (pur (aLoad true 5 x3 m) m) fun x6 m =>
  bp (unt (aMapUpdate (.struct [(0, 1, false, .bool), (1, 2, true, (.struct [(0, 1, false, .int), (1, 1, false, .int)])), (3, 1, false, .int), (4, 1, false, .int)]) p3 x6 (.bool true) m)) fun _ m =>
  bp (pur (bin .add true true .int p9 (.int .i64 1)) m) fun x7 m =>
  (Q7y G i) x7 p8 p7 p3 m))
  (Qgv G m)
def Qgw (G : Gt) (p9 p8 p7 p3 : V) (m : M) : R :=
  Q7y G G.rds p9 p8 p7 p3 m
def Qgx (G : Gt) (p0 p3 : V) (m : M) : R :=
  bp (pur (lenK 1 p0 m) m) fun x8 m =>
  Qgw G (.int .i64 0) x8 p0 p3 m
def Qgy (G : Gt) (p0 : V) (m : M) : R :=
  bp (some (aMakeMap m)) fun x9 m =>
  Qgx G p0 x9 m
def Q9n (G : Gt) (p0 : V) (m : M) : R :=
  Qgy G p0 m
theorem Q123 (G : Gt) (a0 : V) (m : M) : evFn Tryz.prog G.tab G.rds (drOf Tryz.prog G.tab) Tryz.f43 [a0] m = Q9n G a0 m :=
  evFn_of (r := fun ρ m => Q9n G (ρ 0) m) rfl rfl (tr (seqQ (f := fun ρ m => Qgy G (ρ 0) m) (tr (seqQ (f := fun ρ m => Qgx G (ρ 0) (ρ 3) m) (tr (tr (seqQ (f := fun ρ m => Qgv G m) (fun ρ m => by kernel_rfl)) (seqQ (f := fun ρ m => Qgw G (ρ 9) (ρ 8) (ρ 7) (ρ 3) m) (tr (blockQ (loopQ (fun i ρ m => Q7y G i (ρ 9) (ρ 8) (ρ 7) (ρ 3) m) (fun _ _ => rfl) (fun i0 => fun ρ m => by kernel_rfl))) (fun ρ m => by kernel_rfl)))) (fun ρ m => by kernel_rfl))) (fun ρ m => by kernel_rfl))) (fun ρ m => by kernel_rfl)) m
def Q124 : Entry Tryz.prog := ⟨Qjf, Tryz.f43, Tryz.func43, by kernel_rfl, arg1 (fun G a0 m => Q9n G a0 m), okarg1 Q123⟩
end
end Go.Ab.Sh
