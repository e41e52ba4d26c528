/-
  Functions of the program as plain definitions, each with the theorem that it is what the evaluator makes of the code. No conditions.
-/
import Derived.Test.YtchdjkidnjfcjaaGreatDoorAb5
import Derived.Test.YtchdjkidnjfcjaaGreatDoorZ
import Derived.KernelRfl
import Derived.Test.YtchdjkidnjfcjaaGreatDoorProg
set_option linter.unusedVariables false
set_option maxRecDepth 100000
namespace Go.Ab.Sh
open Go Go.Ab Go.Proofs
noncomputable section
def Q1o (G : Gt) (p0 p1 : V) (m : M) : R :=
  bp (G.tab Q4z [p0, p1] m) fun x0 m =>
  bp (pur (bin .geq true true .int x0 (.int .i64 0)) m) fun x1 m =>
  some (x1, m)
theorem Qc0 (G : Gt) (a0 a1 : V) (m : M) : evFn Tryz.prog G.tab G.rds (drOf Tryz.prog G.tab) Tryz.f216 [a0, a1] m = Q1o G a0 a1 m :=
  evFn_of (r := fun ρ m => Q1o G (ρ 0) (ρ 1) m) rfl rfl (fun ρ m => by kernel_rfl) m
def Qc1 : Entry Tryz.prog := ⟨Q3v, Tryz.f216, Tryz.func216, by kernel_rfl, arg2 (fun G a0 a1 m => Q1o G a0 a1 m), okarg2 Qc0⟩
def Qoo (G : Gt) (p0 : V) (m : M) : R :=
  bp (some (aNew Qe8 (Value.cells p0).toList m)) fun x0 m =>
  bp (pur (aFieldAddr 1 x0) m) fun x1 m =>
  bp (pur (aLoad false 1 x1 m) m) fun x2 m =>
  bp (pur (lenK 1 x2 m) m) fun x3 m =>
  bp (pur (bin .gtr true true .int x3 (.int .i64 64)) m) fun x4 m =>
  some (x4, m)
theorem Q1hn (G : Gt) (a0 : V) (m : M) : evFn Tryz.prog G.tab G.rds (drOf Tryz.prog G.tab) Tryz.f217 [a0] m = Qoo G a0 m :=
  evFn_of (r := fun ρ m => Qoo G (ρ 0) m) rfl rfl (fun ρ m => by kernel_rfl) m
def Q1ho : Entry Tryz.prog := ⟨Q113, Tryz.f217, Tryz.func217, by kernel_rfl, arg1 (fun G a0 m => Qoo G a0 m), okarg1 Q1hn⟩
def Q43 (G : Gt) (p0 p1 : V) (m : M) : R :=
  bp (G.tab Qbb [p0, p1] m) fun x0 m =>
  bp (pur (bin .geq true true .int x0 (.int .i64 0)) m) fun x1 m =>
  some (x1, m)
theorem Qop (G : Gt) (a0 a1 : V) (m : M) : evFn Tryz.prog G.tab G.rds (drOf Tryz.prog G.tab) Tryz.f218 [a0, a1] m = Q43 G a0 a1 m :=
  evFn_of (r := fun ρ m => Q43 G (ρ 0) (ρ 1) m) rfl rfl (fun ρ m => by kernel_rfl) m
def Qoq : Entry Tryz.prog := ⟨Q8u, Tryz.f218, Tryz.func218, by kernel_rfl, arg2 (fun G a0 a1 m => Q43 G a0 a1 m), okarg2 Qop⟩
def Q4a (G : Gt) (m : M) : R :=
  some ((.int .i64 (-1)), m)
def Q1x (G : Gt) : Nat → V → V → V → V → M → R
 | 0, _, _, _, _, _ => none
 | i + 1, p8, p7, p1, p0, m =>
  bp (pur (bin .lss false true .int p8 p7) m) fun x0 m =>
  brb x0
  (bp (pur (aIndexAddrSl 3 p0 p8) m) fun x1 m =>
  bp (pur (aLoad true 3 x1 m) m) fun x2 m =>
  bp (evCall G.tab p1 [x2] m) fun x3 m =>
  brb x3
  (some (p8, m))
  (bp (pur (bin .add true true .int p8 (.int .i64 1)) m) fun x4 m =>
  (Q1x G i) x4 p7 p1 p0 m))
  (Q4a G m)
def Q4b (G : Gt) (p8 p7 p1 p0 : V) (m : M) : R :=
  Q1x G G.rds p8 p7 p1 p0 m
def Q4c (G : Gt) (p0 p1 : V) (m : M) : R :=
  bp (pur (lenK 1 p0 m) m) fun x5 m =>
  Q4b G (.int .i64 0) x5 p1 p0 m
def Q2a (G : Gt) (p0 p1 : V) (m : M) : R :=
  Q4c G p0 p1 m
theorem Qdw (G : Gt) (a0 a1 : V) (m : M) : evFn Tryz.prog G.tab G.rds (drOf Tryz.prog G.tab) Tryz.f219 [a0, a1] m = Q2a G a0 a1 m :=
  evFn_of (r := fun ρ m => Q2a G (ρ 0) (ρ 1) m) rfl rfl (tr (seqQ (f := fun ρ m => Q4c G (ρ 0) (ρ 1) m) (tr (tr (seqQ (f := fun ρ m => Q4a G m) (fun ρ m => by kernel_rfl)) (seqQ (f := fun ρ m => Q4b G (ρ 8) (ρ 7) (ρ 1) (ρ 0) m) (tr (blockQ (loopQ (fun i ρ m => Q1x G i (ρ 8) (ρ 7) (ρ 1) (ρ 0) m) (fun _ _ => rfl) (fun i0 => fun ρ m => by kernel_rfl))) (fun ρ m => by kernel_rfl)))) (fun ρ m => by kernel_rfl))) (fun ρ m => by kernel_rfl)) m
def Qdx : Entry Tryz.prog := ⟨Q4y, Tryz.f219, Tryz.func219, by kernel_rfl, arg2 (fun G a0 a1 m => Q2a G a0 a1 m), okarg2 Qdw⟩
def Q7z (G : Gt) (p0 p1 p2 p3 : V) (m : M) : R :=
  bp (some (aNew Q7l (Value.cells p0).toList m)) fun x0 m =>
  bp (pur (aLoad false 1 p1 m) m) fun x1 m =>
  bp (pur (aLoad true 3 x0 m) m) fun x2 m =>
  bp (pur (aLoad false 1 p1 m) m) fun x3 m =>
  bp (pur (aLoad false 1 p2 m) m) fun x4 m =>
  bp (pur (aLoad false 1 p3 m) m) fun x5 m =>
  bp (pur (aIndexAddrSl 3 x4 x5) m) fun x6 m =>
  bp (pur (aLoad true 3 x6 m) m) fun x7 m =>
  bp (evCall G.tab x1 [x2] m) fun x8 m =>
  ckB (again (pur (aLoad false 1 p1 m) m) x3 && (again (pur (aLoad false 1 p2 m) m) x4 && (again (pur (aLoad false 1 p3 m) m) x5 && (again (pur (aLoad true 3 x6 m) m) x7 && true))))
  (bp (evCall G.tab x3 [x7] m) fun x9 m =>
  bp (pur (bin .eql false true .str x8 x9) m) fun x10 m =>
  some (x10, m))
theorem Qze (G : Gt) (a0 a1 a2 a3 : V) (m : M) : evFn Tryz.prog G.tab G.rds (drOf Tryz.prog G.tab) Tryz.f220 [a0, a1, a2, a3] m = Q7z G a0 a1 a2 a3 m :=
  evFn_of (r := fun ρ m => Q7z G (ρ 0) (ρ 1) (ρ 2) (ρ 3) m) rfl rfl (fun ρ m => by kernel_rfl) m
def Qzf : Entry Tryz.prog := ⟨Qgc, Tryz.f220, Tryz.func220, by kernel_rfl, arg4 (fun G a0 a1 a2 a3 m => Q7z G a0 a1 a2 a3 m), okarg4 Qze⟩
def Qpv (G : Gt) (p1 p9 : V) (m : M) : R :=
  bp (pur (lenK 1 p1 m) m) fun x0 m =>
  bp (pur (bin .leq true true .int x0 (.int .i64 256)) m) fun x1 m =>
  some (.tuple ⟨[x1, p9]⟩, m)
def Qd0 (G : Gt) (k0 : V → V → V → V → V → V → V → V → M → R) (p15 p14 p13 p3 p2 p9 p4 p1 : V) (m : M) : R :=
  bp (pur (bin .add true true .int p15 (.int .i64 1)) m) fun x2 m =>
  k0 x2 p14 p13 p3 p2 p9 p4 p1 m
def Q3x (G : Gt) (k0 : V → V → V → V → V → V → V → V → M → R) (p50 p9 p4 p11 p15 p14 p13 p3 p2 p1 : V) (m : M) : R :=
  brb p50
  (some (.tuple ⟨[(.bool false), (.bool true)]⟩, m))
  (brb p9
  (bp (pur (aFieldAddr 4 p4) m) fun x3 m =>
  bp (pur (aLoad false 1 x3 m) m) fun x4 m =>
  bp (pur (aFieldAddr 3 p11) m) fun x5 m =>
  bp (pur (aLoad false 1 x5 m) m) fun x6 m =>
  bp (G.tab Q1k [x4, x6] m) fun x7 m =>
  Qd0 G k0 p15 p14 p13 p3 p2 x7 p4 p1 m)
  (Qd0 G k0 p15 p14 p13 p3 p2 (.bool false) p4 p1 m))
def Q6k (G : Gt) (k0 : V → V → V → V → V → V → V → V → M → R) (p12 p11 p2 p9 p4 p15 p14 p13 p3 p1 : V) (m : M) : R :=
  bp (pur (un .not p12) m) fun x8 m =>
  brb x8
  (Q3x G k0 (.bool true) p9 p4 p11 p15 p14 p13 p3 p2 p1 m)
  (bp (pur (aFieldAddr 0 p11) m) fun x9 m =>
  bp (pur (aLoad false 1 x9 m) m) fun x10 m =>
  bp (pur (bin .eql true true .int x10 (.int .u8 0)) m) fun x11 m =>
  brb x11
  (Q3x G k0 (.bool true) p9 p4 p11 p15 p14 p13 p3 p2 p1 m)
  (bp (pur (aFieldAddr 0 p11) m) fun x12 m =>
  bp (pur (aLoad false 1 x12 m) m) fun x13 m =>
  bp (pur (bin .andNot false true .int x13 p2) m) fun x14 m =>
  bp (pur (bin .neq true true .int x14 (.int .u8 0)) m) fun x15 m =>
  brb x15
  (Q3x G k0 (.bool true) p9 p4 p11 p15 p14 p13 p3 p2 p1 m)
  (bp (pur (aFieldAddr 1 p11) m) fun x16 m =>
  bp (pur (aLoad false 1 x16 m) m) fun x17 m =>
  bp (G.tab Q1q [x17, (.int .i64 (-1)), (.int .i64 16777216)] m) fun x18 m =>
  bp (pur (un .not x18) m) fun x19 m =>
  Q3x G k0 x19 p9 p4 p11 p15 p14 p13 p3 p2 p1 m)))
def Qpw (G : Gt) (k0 : V → V → V → V → V → V → V → V → M → R) (p3 p11 p2 p9 p4 p15 p14 p13 p1 p12 : V) (m : M) : R :=
  brb p3
  (bp (pur (aFieldAddr 2 p11) m) fun x20 m =>
  bp (pur (aLoad false 1 x20 m) m) fun x21 m =>
  bp (pur (bin .eql true true .int x21 (.int .u8 1)) m) fun x22 m =>
  brb x22
  (Q6k G k0 (.bool true) p11 p2 p9 p4 p15 p14 p13 p3 p1 m)
  (bp (pur (aFieldAddr 2 p11) m) fun x23 m =>
  bp (pur (aLoad false 1 x23 m) m) fun x24 m =>
  bp (pur (bin .eql true true .int x24 (.int .u8 2)) m) fun x25 m =>
  Q6k G k0 x25 p11 p2 p9 p4 p15 p14 p13 p3 p1 m))
  (Q6k G k0 p12 p11 p2 p9 p4 p15 p14 p13 p3 p1 m)
def Qpx (G : Gt) (k0 : V → V → V → V → V → V → V → V → M → R) (p11 p3 p2 p9 p4 p15 p14 p13 p1 : V) (m : M) : R :=
  bp (pur (aFieldAddr 2 p11) m) fun x26 m =>
  bp (pur (aLoad false 1 x26 m) m) fun x27 m =>
  bp (pur (bin .eql true true .int x27 (.int .u8 0)) m) fun x28 m =>
  Qpw G k0 p3 p11 p2 p9 p4 p15 p14 p13 p1 x28 m
def Qpy (G : Gt) (k0 : V → V → V → V → V → V → V → V → M → R) (p13 p15 p3 p2 p9 p4 p14 p1 : V) (m : M) : R :=
  bp (pur (aIndexAddrSl 4 p13 p15) m) fun x29 m =>
  bp (pur (aLoad true 4 x29 m) m) fun x30 m =>
  bp (some (aNew Q4m Q60 m)) fun x31 m =>
  bp (unt (aStore 4 x31 x30 m)) fun _ m =>
  Qpx G k0 x31 p3 p2 p9 p4 p15 p14 p13 p1 m
def Qpz (G : Gt) (k0 : V → V → V → V → V → V → V → V → M → R) (p16 p13 p15 p3 p2 p9 p4 p14 p1 : V) (m : M) : R :=
  brb p16
  (Qpy G k0 p13 p15 p3 p2 p9 p4 p14 p1 m)
  (Qpv G p1 p9 m)
def Qy (G : Gt) : Nat → V → V → V → V → V → V → V → V → M → R
 | 0, _, _, _, _, _, _, _, _, _ => none
 | i + 1, p15, p14, p13, p3, p2, p9, p4, p1, m =>
  bp (pur (bin .lss false true .int p15 p14) m) fun x32 m =>
  Qpz G (Qy G i) x32 p13 p15 p3 p2 p9 p4 p14 p1 m
def Qq0 (G : Gt) (p15 p14 p13 p3 p2 p9 p4 p1 : V) (m : M) : R :=
  Qy G G.rds p15 p14 p13 p3 p2 p9 p4 p1 m
def Qq1 (G : Gt) (p1 p3 p2 p9 p4 : V) (m : M) : R :=
  bp (pur (lenK 1 p1 m) m) fun x33 m =>
  Qq0 G (.int .i64 0) x33 p1 p3 p2 p9 p4 p1 m
def Qq2 (G : Gt) (p1 p3 p2 p4 : V) (m : M) : R :=
  Qq1 G p1 p3 p2 (.bool true) p4 m
def Qhm (G : Gt) (p0 p1 p3 p2 : V) (m : M) : R :=
  bp (some (aNew Q7m (Value.cells p0).toList m)) fun x34 m =>
  Qq2 G p1 p3 p2 x34 m
theorem Q1cz (G : Gt) (a0 a1 a2 a3 : V) (m : M) : evFn Tryz.prog G.tab G.rds (drOf Tryz.prog G.tab) Tryz.f221 [a0, a1, a2, a3] m = Qhm G a0 a1 a3 a2 m :=
  evFn_of (r := fun ρ m => Qhm G (ρ 0) (ρ 1) (ρ 3) (ρ 2) m) rfl rfl (tr (seqQ (f := fun ρ m => Qq2 G (ρ 1) (ρ 3) (ρ 2) (ρ 4) m) (tr (seqQ (f := fun ρ m => Qq1 G (ρ 1) (ρ 3) (ρ 2) (ρ 9) (ρ 4) m) (tr (tr (seqQ (f := fun ρ m => Qpv G (ρ 1) (ρ 9) m) (fun ρ m => by kernel_rfl)) (seqQ (f := fun ρ m => Qq0 G (ρ 15) (ρ 14) (ρ 13) (ρ 3) (ρ 2) (ρ 9) (ρ 4) (ρ 1) m) (tr (blockQ (loopQ (fun i ρ m => Qy G i (ρ 15) (ρ 14) (ρ 13) (ρ 3) (ρ 2) (ρ 9) (ρ 4) (ρ 1) m) (fun _ _ => rfl) (fun i0 => tr (seqQ (f := fun ρ m => Qpz G (Qy G i0) (ρ 16) (ρ 13) (ρ 15) (ρ 3) (ρ 2) (ρ 9) (ρ 4) (ρ 14) (ρ 1) m) (tr (seqQ (f := fun ρ m => Qpy G (Qy G i0) (ρ 13) (ρ 15) (ρ 3) (ρ 2) (ρ 9) (ρ 4) (ρ 14) (ρ 1) m) (tr (tr (seqQ (f := fun ρ m => Qd0 G (Qy G i0) (ρ 15) (ρ 14) (ρ 13) (ρ 3) (ρ 2) (ρ 9) (ρ 4) (ρ 1) m) (fun ρ m => by kernel_rfl)) (blockQ (seqQ (f := fun ρ m => Qpx G (Qy G i0) (ρ 11) (ρ 3) (ρ 2) (ρ 9) (ρ 4) (ρ 15) (ρ 14) (ρ 13) (ρ 1) m) (tr (seqQ (f := fun ρ m => Qpw G (Qy G i0) (ρ 3) (ρ 11) (ρ 2) (ρ 9) (ρ 4) (ρ 15) (ρ 14) (ρ 13) (ρ 1) (ρ 12) m) (tr (seqQ (f := fun ρ m => Q6k G (Qy G i0) (ρ 12) (ρ 11) (ρ 2) (ρ 9) (ρ 4) (ρ 15) (ρ 14) (ρ 13) (ρ 3) (ρ 1) m) (tr (tr seqD (seqQ (f := fun ρ m => Q3x G (Qy G i0) (ρ 50) (ρ 9) (ρ 4) (ρ 11) (ρ 15) (ρ 14) (ρ 13) (ρ 3) (ρ 2) (ρ 1) m) (fun ρ m => by kernel_rfl))) (fun ρ m => by kernel_rfl))) (fun ρ m => by kernel_rfl))) (fun ρ m => by kernel_rfl))))) (fun ρ m => by kernel_rfl))) (fun ρ m => by kernel_rfl))) (fun ρ m => by kernel_rfl)))) (fun ρ m => by kernel_rfl)))) (fun ρ m => by kernel_rfl))) (fun ρ m => by kernel_rfl))) (fun ρ m => by kernel_rfl)) m
def Q1d0 : Entry Tryz.prog := ⟨Qh3, Tryz.f221, Tryz.func221, by kernel_rfl, arg4 (fun G a0 a1 a2 a3 m => Qhm G a0 a1 a3 a2 m), okarg4 Q1cz⟩
def Qc2 (G : Gt) (p0 p1 p2 : V) (m : M) : R :=
  bp (some (aNew Q1ml (Value.cells p0).toList m)) fun x0 m =>
  bp (some (aNew Q2h (Value.cells p1).toList m)) fun x1 m =>
  bp (some (aNew Q19z (Value.cells p2).toList m)) fun x2 m =>
  bp (pur (aLoad false 1 x0 m) m) fun x3 m =>
  let x4 : V := (.func (.func Qjo) ⟨[]⟩ ⟨[x2, x0, x1]⟩)
  bp (pur (aLoad false 1 x1 m) m) fun x5 m =>
  bp (G.tab Q6b [x3, x4] m) fun x6 m =>
  ckB (again (pur (aLoad false 1 x1 m) m) x5 && true)
  (bp (pur (bin .eql false true .int x6 x5) m) fun x7 m =>
  some (x7, m))
theorem Q15e (G : Gt) (a0 a1 a2 : V) (m : M) : evFn Tryz.prog G.tab G.rds (drOf Tryz.prog G.tab) Tryz.f222 [a0, a1, a2] m = Qc2 G a0 a1 a2 m :=
  evFn_of (r := fun ρ m => Qc2 G (ρ 0) (ρ 1) (ρ 2) m) rfl rfl (fun ρ m => by kernel_rfl) m
def Q15f : Entry Tryz.prog := ⟨Qmx, Tryz.f222, Tryz.func222, by kernel_rfl, arg3 (fun G a0 a1 a2 m => Qc2 G a0 a1 a2 m), okarg3 Q15e⟩
def Qjd (G : Gt) (p0 : V) (m : M) : R :=
  bp (some (aNew Qh4 (Value.cells p0).toList m)) fun x0 m =>
  bp (pur (aFieldAddr 0 x0) m) fun x1 m =>
  bp (pur (aLoad false 1 x1 m) m) fun x2 m =>
  some (x2, m)
theorem Q1f1 (G : Gt) (a0 : V) (m : M) : evFn Tryz.prog G.tab G.rds (drOf Tryz.prog G.tab) Tryz.f223 [a0] m = Qjd G a0 m :=
  evFn_of (r := fun ρ m => Qjd G (ρ 0) m) rfl rfl (fun ρ m => by kernel_rfl) m
def Q1f2 : Entry Tryz.prog := ⟨Qvv, Tryz.f223, Tryz.func223, by kernel_rfl, arg1 (fun G a0 m => Qjd G a0 m), okarg1 Q1f1⟩
def Qd1 (G : Gt) (p0 p1 p2 : V) (m : M) : R :=
  bp (some (aNew Q1o7 (Value.cells p0).toList m)) fun x0 m =>
  bp (some (aNew Q2h (Value.cells p1).toList m)) fun x1 m =>
  bp (some (aNew Q1ck (Value.cells p2).toList m)) fun x2 m =>
  bp (pur (aLoad false 1 x0 m) m) fun x3 m =>
  let x4 : V := (.func (.func Qkk) ⟨[]⟩ ⟨[x2, x0, x1]⟩)
  bp (pur (aLoad false 1 x1 m) m) fun x5 m =>
  bp (G.tab Q78 [x3, x4] m) fun x6 m =>
  ckB (again (pur (aLoad false 1 x1 m) m) x5 && true)
  (bp (pur (bin .eql false true .int x6 x5) m) fun x7 m =>
  some (x7, m))
theorem Q18o (G : Gt) (a0 a1 a2 : V) (m : M) : evFn Tryz.prog G.tab G.rds (drOf Tryz.prog G.tab) Tryz.f224 [a0, a1, a2] m = Qd1 G a0 a1 a2 m :=
  evFn_of (r := fun ρ m => Qd1 G (ρ 0) (ρ 1) (ρ 2) m) rfl rfl (fun ρ m => by kernel_rfl) m
def Q18p : Entry Tryz.prog := ⟨Qp8, Tryz.f224, Tryz.func224, by kernel_rfl, arg3 (fun G a0 a1 a2 m => Qd1 G a0 a1 a2 m), okarg3 Q18o⟩
def Qly (G : Gt) (p0 : V) (m : M) : R :=
  bp (some (aNew Qgd (Value.cells p0).toList m)) fun x0 m =>
  bp (pur (aFieldAddr 0 x0) m) fun x1 m =>
  bp (pur (aLoad false 1 x1 m) m) fun x2 m =>
  some (x2, m)
theorem Q1gg (G : Gt) (a0 : V) (m : M) : evFn Tryz.prog G.tab G.rds (drOf Tryz.prog G.tab) Tryz.f225 [a0] m = Qly G a0 m :=
  evFn_of (r := fun ρ m => Qly G (ρ 0) m) rfl rfl (fun ρ m => by kernel_rfl) m
def Q1gh : Entry Tryz.prog := ⟨Qyc, Tryz.f225, Tryz.func225, by kernel_rfl, arg1 (fun G a0 m => Qly G a0 m), okarg1 Q1gg⟩
def Q5u (G : Gt) (m : M) : R :=
  some ((.int .i64 (-1)), m)
def Q2r (G : Gt) : Nat → V → V → V → V → M → R
 | 0, _, _, _, _, _ => none
 | i + 1, p8, p7, p3, p0, m =>
  bp (pur (bin .lss false true .int p8 p7) m) fun x0 m =>
  brb x0
  (bp (pur (aLoad true 2 p3 m) m) fun x1 m =>
  bp (pur (aIndexAddrSl 2 p0 p8) m) fun x2 m =>
  bp (pur (aLoad true 2 x2 m) m) fun x3 m =>
  bp (pur (bin .eql false true (.struct [(0, 1, false, .int), (1, 1, false, .int)]) x1 x3) m) fun x4 m =>
  brb x4
  (some (p8, m))
  (bp (pur (bin .add true true .int p8 (.int .i64 1)) m) fun x5 m =>
  (Q2r G i) x5 p7 p3 p0 m))
  (Q5u G m)
def Q5v (G : Gt) (p8 p7 p3 p0 : V) (m : M) : R :=
  Q2r G G.rds p8 p7 p3 p0 m
def Q5w (G : Gt) (p0 p3 : V) (m : M) : R :=
  bp (pur (lenK 1 p0 m) m) fun x6 m =>
  Q5v G (.int .i64 0) x6 p3 p0 m
def Q3a (G : Gt) (p1 p0 : V) (m : M) : R :=
  bp (some (aNew Q3o (Value.cells p1).toList m)) fun x7 m =>
  Q5w G p0 x7 m
theorem Qig (G : Gt) (a0 a1 : V) (m : M) : evFn Tryz.prog G.tab G.rds (drOf Tryz.prog G.tab) Tryz.f226 [a0, a1] m = Q3a G a1 a0 m :=
  evFn_of (r := fun ρ m => Q3a G (ρ 1) (ρ 0) m) rfl rfl (tr (seqQ (f := fun ρ m => Q5w G (ρ 0) (ρ 3) m) (tr (tr (seqQ (f := fun ρ m => Q5u G m) (fun ρ m => by kernel_rfl)) (seqQ (f := fun ρ m => Q5v G (ρ 8) (ρ 7) (ρ 3) (ρ 0) m) (tr (blockQ (loopQ (fun i ρ m => Q2r G i (ρ 8) (ρ 7) (ρ 3) (ρ 0) m) (fun _ _ => rfl) (fun i0 => fun ρ m => by kernel_rfl))) (fun ρ m => by kernel_rfl)))) (fun ρ m => by kernel_rfl))) (fun ρ m => by kernel_rfl)) m
def Qih : Entry Tryz.prog := ⟨Q69, Tryz.f226, Tryz.func226, by kernel_rfl, arg2 (fun G a0 a1 m => Q3a G a1 a0 m), okarg2 Qig⟩
def Qor (G : Gt) (p0 p1 : V) (m : M) : R :=
  bp (pur (bin .and true true .int p0 (.int .u64 4294967295)) m) fun x0 m =>
  bp (pur (bin .shr true true .int p0 (.int .u64 32)) m) fun x1 m =>
  bp (pur (bin .and true true .int p1 (.int .u64 4294967295)) m) fun x2 m =>
  bp (pur (bin .shr true true .int p1 (.int .u64 32)) m) fun x3 m =>
  bp (pur (bin .mul false true .int x0 x2) m) fun x4 m =>
  bp (pur (bin .mul false true .int x1 x2) m) fun x5 m =>
  bp (pur (bin .shr true true .int x4 (.int .u64 32)) m) fun x6 m =>
  bp (pur (bin .add false true .int x5 x6) m) fun x7 m =>
  bp (pur (bin .and true true .int x7 (.int .u64 4294967295)) m) fun x8 m =>
  bp (pur (bin .shr true true .int x7 (.int .u64 32)) m) fun x9 m =>
  bp (pur (bin .mul false true .int x0 x3) m) fun x10 m =>
  bp (pur (bin .add false true .int x8 x10) m) fun x11 m =>
  bp (pur (bin .mul false true .int x1 x3) m) fun x12 m =>
  bp (pur (bin .add false true .int x12 x9) m) fun x13 m =>
  bp (pur (bin .shr true true .int x11 (.int .u64 32)) m) fun x14 m =>
  bp (pur (bin .add false true .int x13 x14) m) fun x15 m =>
  bp (pur (bin .mul false true .int p0 p1) m) fun x16 m =>
  some (.tuple ⟨[x15, x16]⟩, m)
theorem Q1hp (G : Gt) (a0 a1 : V) (m : M) : evFn Tryz.prog G.tab G.rds (drOf Tryz.prog G.tab) Tryz.f236 [a0, a1] m = Qor G a0 a1 m :=
  evFn_of (r := fun ρ m => Qor G (ρ 0) (ρ 1) m) rfl rfl (fun ρ m => by kernel_rfl) m
def Q1hq : Entry Tryz.prog := ⟨Q114, Tryz.f236, Tryz.func236, by kernel_rfl, arg2 (fun G a0 a1 m => Qor G a0 a1 m), okarg2 Q1hp⟩
def Q109 (G : Gt) (p0 p1 : V) (m : M) : R :=
  bp (G.tab Qi3 [p0, p1] m) fun x0 m =>
  bp (pur (aExtract x0 0) m) fun x1 m =>
  bp (pur (aExtract x0 1) m) fun x2 m =>
  bp (pur (aExtract x0 2) m) fun x3 m =>
  some (.tuple ⟨[x1, x2, x3]⟩, m)
theorem Q1lu (G : Gt) (a0 a1 : V) (m : M) : evFn Tryz.prog G.tab G.rds (drOf Tryz.prog G.tab) Tryz.f242 [a0, a1] m = Q109 G a0 a1 m :=
  evFn_of (r := fun ρ m => Q109 G (ρ 0) (ρ 1) m) rfl rfl (fun ρ m => by kernel_rfl) m
def Q1lv : Entry Tryz.prog := ⟨Qi1, Tryz.f242, Tryz.func242, by kernel_rfl, arg2 (fun G a0 a1 m => Q109 G a0 a1 m), okarg2 Q1lu⟩
def Qb0 (G : Gt) (p6 p7 p2 : V) (m : M) : R :=
  bp (conv (.int .u32) p6 m) fun x0 m =>
  bp (conv (.int .u32) p7 m) fun x1 m =>
  bp (pur (aBuild Q11o [(0, 1), (1, 1)] [(0, x0), (1, x1)]) m) fun x2 m =>
  bp (unt (aStore 2 p2 x2 m)) fun _ m =>
  ob (ob (aLoad true 2 p2 m) fun v => ob (some []) fun l => some (v :: l)) fun l => some (resVal l, m)
def Qlz (G : Gt) (p5 p0 p4 p6 p2 p7 : V) (m : M) : R :=
  brb p5
  (bp (G.tab Q4k [p0, p4, p6, (.int .i64 65535)] m) fun x3 m =>
  Qb0 G p6 x3 p2 m)
  (Qb0 G p6 p7 p2 m)
def Qm0 (G : Gt) (p6 p5 p0 p4 p2 : V) (m : M) : R :=
  Qlz G p5 p0 p4 p6 p2 p6 m
def Qm1 (G : Gt) (p0 p3 p5 p4 p2 : V) (m : M) : R :=
  bp (G.tab Q4k [p0, p3, (.int .i64 0), (.int .i64 65535)] m) fun x4 m =>
  Qm0 G x4 p5 p0 p4 p2 m
def Qm2 (G : Gt) (p0 p2 : V) (m : M) : R :=
  bp (G.tab Qi [p0] m) fun x5 m =>
  bp (G.tab Qi1 [x5, (.string ⟨#[45]⟩)] m) fun x6 m =>
  bp (pur (aExtract x6 0) m) fun x7 m =>
  bp (pur (aExtract x6 1) m) fun x8 m =>
  bp (pur (aExtract x6 2) m) fun x9 m =>
  Qm1 G p0 x7 x9 x8 p2 m
def Qd2 (G : Gt) (p0 : V) (m : M) : R :=
  bp (some (aNew Q1ci Q11o m)) fun x10 m =>
  Qm2 G p0 x10 m
theorem Q18q (G : Gt) (a0 : V) (m : M) : evFn Tryz.prog G.tab G.rds (drOf Tryz.prog G.tab) Tryz.f243 [a0] m = Qd2 G a0 m :=
  evFn_of (r := fun ρ m => Qd2 G (ρ 0) m) rfl rfl (tr (seqQ (f := fun ρ m => Qm2 G (ρ 0) (ρ 2) m) (tr (seqQ (f := fun ρ m => Qm1 G (ρ 0) (ρ 3) (ρ 5) (ρ 4) (ρ 2) m) (tr (seqQ (f := fun ρ m => Qm0 G (ρ 6) (ρ 5) (ρ 0) (ρ 4) (ρ 2) m) (tr (seqQ (f := fun ρ m => Qlz G (ρ 5) (ρ 0) (ρ 4) (ρ 6) (ρ 2) (ρ 7) m) (tr (seqQ (f := fun ρ m => Qb0 G (ρ 6) (ρ 7) (ρ 2) m) (fun ρ m => by kernel_rfl)) (fun ρ m => by kernel_rfl))) (fun ρ m => by kernel_rfl))) (fun ρ m => by kernel_rfl))) (fun ρ m => by kernel_rfl))) (fun ρ m => by kernel_rfl)) m
def Q18r : Entry Tryz.prog := ⟨Qcl, Tryz.f243, Tryz.func243, by kernel_rfl, arg1 (fun G a0 m => Qd2 G a0 m), okarg1 Q18q⟩
def Qvd (G : Gt) (p0 p1 : V) (m : M) : R :=
  bp (G.tab Qyd [p0, p1, (.int .i64 0), (.int .i64 (-1))] m) fun x0 m =>
  some (x0, m)
theorem Q1j7 (G : Gt) (a0 a1 : V) (m : M) : evFn Tryz.prog G.tab G.rds (drOf Tryz.prog G.tab) Tryz.f244 [a0, a1] m = Qvd G a0 a1 m :=
  evFn_of (r := fun ρ m => Qvd G (ρ 0) (ρ 1) m) rfl rfl (fun ρ m => by kernel_rfl) m
def Q1j8 : Entry Tryz.prog := ⟨Q15t, Tryz.f244, Tryz.func244, by kernel_rfl, arg2 (fun G a0 a1 m => Qvd G a0 a1 m), okarg2 Q1j7⟩
def Qca (G : Gt) (p4 p5 : V) (m : M) : R :=
  some (.tuple ⟨[p4, p5]⟩, m)
def Q177 (G : Gt) (p6 p7 p1 p0 : V) (m : M) : R :=
  bp (pur (bin .eql true false .iface p7 .nilIface) m) fun x0 m =>
  brb x0
  (bp (pur (bin .geq true true .int p6 (.int .i64 0)) m) fun x1 m =>
  brb x1
  (bp (pur (bin .leq false true .int p6 p1) m) fun x2 m =>
  brb x2
  (bp (G.tab Q2j [p6] m) fun x3 m =>
  bp (pur (bin .eql false true .str x3 p0) m) fun x4 m =>
  Qca G p6 x4 m)
  (Qca G p6 (.bool false) m))
  (Qca G p6 (.bool false) m))
  (Qca G p6 (.bool false) m)
def Q178 (G : Gt) (p0 p1 : V) (m : M) : R :=
  bp (G.tab Qxc [p0] m) fun x5 m =>
  bp (pur (aExtract x5 0) m) fun x6 m =>
  bp (pur (aExtract x5 1) m) fun x7 m =>
  Q177 G x6 x7 p1 p0 m
def Q10a (G : Gt) (p0 p1 : V) (m : M) : R :=
  Q178 G p0 p1 m
theorem Q1lw (G : Gt) (a0 a1 : V) (m : M) : evFn Tryz.prog G.tab G.rds (drOf Tryz.prog G.tab) Tryz.f245 [a0, a1] m = Q10a G a0 a1 m :=
  evFn_of (r := fun ρ m => Q10a G (ρ 0) (ρ 1) m) rfl rfl (tr (seqQ (f := fun ρ m => Q178 G (ρ 0) (ρ 1) m) (tr (seqQ (f := fun ρ m => Q177 G (ρ 6) (ρ 7) (ρ 1) (ρ 0) m) (tr (seqQ (f := fun ρ m => Qca G (ρ 4) (ρ 5) m) (fun ρ m => by kernel_rfl)) (fun ρ m => by kernel_rfl))) (fun ρ m => by kernel_rfl))) (fun ρ m => by kernel_rfl)) m
def Q1lx : Entry Tryz.prog := ⟨Qzq, Tryz.f245, Tryz.func245, by kernel_rfl, arg2 (fun G a0 a1 m => Q10a G a0 a1 m), okarg2 Q1lw⟩
end
end Go.Ab.Sh

set_option linter.unusedVariables false
set_option maxRecDepth 100000
namespace Go.Ab.Sh
open Go Go.Ab Go.Proofs
noncomputable section
def Qcb (G : Gt) (p2 : V) (m : M) : R :=
  some (p2, m)
def Q179 (G : Gt) (p0 : V) (m : M) : R :=
  bp (pur (bin .neq true true .str p0 (.string ⟨#[]⟩)) m) fun x0 m =>
  brb x0
  (bp (G.tab Q19r [p0, (.string ⟨#[48,49,50,51,52,53,54,55,56,57]⟩)] m) fun x1 m =>
  bp (pur (bin .eql true true .str x1 (.string ⟨#[]⟩)) m) fun x2 m =>
  brb x2
  (bp (pur (bin .eql true true .str p0 (.string ⟨#[48]⟩)) m) fun x3 m =>
  brb x3
  (Qcb G (.bool true) m)
  (bp (pur (aIndexStr p0 (.int .i64 0)) m) fun x4 m =>
  bp (pur (bin .neq true true .int x4 (.int .u8 48)) m) fun x5 m =>
  Qcb G x5 m))
  (Qcb G (.bool false) m))
  (Qcb G (.bool false) m)
def Q10b (G : Gt) (p0 : V) (m : M) : R :=
  Q179 G p0 m
theorem Q1ly (G : Gt) (a0 : V) (m : M) : evFn Tryz.prog G.tab G.rds (drOf Tryz.prog G.tab) Tryz.f246 [a0] m = Q10b G a0 m :=
  evFn_of (r := fun ρ m => Q10b G (ρ 0) m) rfl rfl (tr (seqQ (f := fun ρ m => Q179 G (ρ 0) m) (tr (seqQ (f := fun ρ m => Qcb G (ρ 2) m) (fun ρ m => by kernel_rfl)) (fun ρ m => by kernel_rfl))) (fun ρ m => by kernel_rfl)) m
def Q1lz : Entry Tryz.prog := ⟨Q1dm, Tryz.f246, Tryz.func246, by kernel_rfl, arg1 (fun G a0 m => Q10b G a0 m), okarg1 Q1ly⟩
def Qfh (G : Gt) (p29 p6 : V) (m : M) : R :=
  brb p29
  (some (.tuple ⟨[(.int .i64 0), (.bool false)]⟩, m))
  (some (.tuple ⟨[p6, (.bool true)]⟩, m))
def Q1bp (G : Gt) (p7 p6 p1 p0 : V) (m : M) : R :=
  bp (pur (bin .neq true false .iface p7 .nilIface) m) fun x0 m =>
  brb x0
  (Qfh G (.bool true) p6 m)
  (bp (pur (bin .lss true true .int p6 (.int .i64 0)) m) fun x1 m =>
  brb x1
  (Qfh G (.bool true) p6 m)
  (bp (pur (bin .gtr false true .int p6 p1) m) fun x2 m =>
  brb x2
  (Qfh G (.bool true) p6 m)
  (bp (G.tab Q2j [p6] m) fun x3 m =>
  bp (pur (bin .neq false true .str x3 p0) m) fun x4 m =>
  Qfh G x4 p6 m)))
def Q1bq (G : Gt) (p0 p1 : V) (m : M) : R :=
  bp (G.tab Qxc [p0] m) fun x5 m =>
  bp (pur (aExtract x5 0) m) fun x6 m =>
  bp (pur (aExtract x5 1) m) fun x7 m =>
  Q1bp G x7 x6 p1 p0 m
def Q148 (G : Gt) (p0 p1 : V) (m : M) : R :=
  Q1bq G p0 p1 m
theorem Q1nj (G : Gt) (a0 a1 : V) (m : M) : evFn Tryz.prog G.tab G.rds (drOf Tryz.prog G.tab) Tryz.f247 [a0, a1] m = Q148 G a0 a1 m :=
  evFn_of (r := fun ρ m => Q148 G (ρ 0) (ρ 1) m) rfl rfl (tr (seqQ (f := fun ρ m => Q1bq G (ρ 0) (ρ 1) m) (tr (seqQ (f := fun ρ m => Q1bp G (ρ 7) (ρ 6) (ρ 1) (ρ 0) m) (tr (tr seqD (seqQ (f := fun ρ m => Qfh G (ρ 29) (ρ 6) m) (fun ρ m => by kernel_rfl))) (fun ρ m => by kernel_rfl))) (fun ρ m => by kernel_rfl))) (fun ρ m => by kernel_rfl)) m
def Q1nk : Entry Tryz.prog := ⟨Q1fe, Tryz.f247, Tryz.func247, by kernel_rfl, arg2 (fun G a0 a1 m => Q148 G a0 a1 m), okarg2 Q1nj⟩
def Qk5 (G : Gt) (p45 p11 : V) (m : M) : R :=
  brb p45
  (some (.tuple ⟨[(.int .u32 0), (.int .i64 4)]⟩, m))
  (some (.tuple ⟨[p11, (.int .i64 0)]⟩, m))
def Q17a (G : Gt) (p8 p10 p11 p0 : V) (m : M) : R :=
  bp (pur (bin .neq true false .iface p8 .nilIface) m) fun x0 m =>
  brb x0
  (Qk5 G (.bool true) p11 m)
  (bp (pur (bin .neq true false .iface p10 .nilIface) m) fun x1 m =>
  brb x1
  (Qk5 G (.bool true) p11 m)
  (bp (G.tab Q12y [p11] m) fun x2 m =>
  bp (pur (bin .neq false true .str x2 p0) m) fun x3 m =>
  Qk5 G x3 p11 m))
def Q17b (G : Gt) (p7 p9 p8 p10 p0 : V) (m : M) : R :=
  bp (conv (.int .u32) p7 m) fun x4 m =>
  bp (pur (bin .shl true true .int x4 (.int .u64 16)) m) fun x5 m =>
  bp (conv (.int .u32) p9 m) fun x6 m =>
  bp (pur (bin .or false true .int x5 x6) m) fun x7 m =>
  Q17a G p8 p10 x7 p0 m
def Q17c (G : Gt) (p5 p7 p8 p0 : V) (m : M) : R :=
  bp (G.tab Qiu [p5, (.int .i64 10), (.int .i64 16)] m) fun x8 m =>
  bp (pur (aExtract x8 0) m) fun x9 m =>
  bp (pur (aExtract x8 1) m) fun x10 m =>
  Q17b G p7 x9 p8 x10 p0 m
def Q17d (G : Gt) (p4 p5 p0 : V) (m : M) : R :=
  bp (G.tab Qiu [p4, (.int .i64 10), (.int .i64 16)] m) fun x11 m =>
  bp (pur (aExtract x11 0) m) fun x12 m =>
  bp (pur (aExtract x11 1) m) fun x13 m =>
  Q17c G p5 x12 x13 p0 m
def Q17e (G : Gt) (p0 : V) (m : M) : R :=
  bp (G.tab Qi1 [p0, (.string ⟨#[58]⟩)] m) fun x14 m =>
  bp (pur (aExtract x14 0) m) fun x15 m =>
  bp (pur (aExtract x14 1) m) fun x16 m =>
  bp (pur (aExtract x14 2) m) fun x17 m =>
  Q17d G x15 x16 p0 m
def Q10c (G : Gt) (p0 : V) (m : M) : R :=
  Q17e G p0 m
theorem Q1m0 (G : Gt) (a0 : V) (m : M) : evFn Tryz.prog G.tab G.rds (drOf Tryz.prog G.tab) Tryz.f248 [a0] m = Q10c G a0 m :=
  evFn_of (r := fun ρ m => Q10c G (ρ 0) m) rfl rfl (tr (seqQ (f := fun ρ m => Q17e G (ρ 0) m) (tr (seqQ (f := fun ρ m => Q17d G (ρ 4) (ρ 5) (ρ 0) m) (tr (seqQ (f := fun ρ m => Q17c G (ρ 5) (ρ 7) (ρ 8) (ρ 0) m) (tr (seqQ (f := fun ρ m => Q17b G (ρ 7) (ρ 9) (ρ 8) (ρ 10) (ρ 0) m) (tr (seqQ (f := fun ρ m => Q17a G (ρ 8) (ρ 10) (ρ 11) (ρ 0) m) (tr (tr seqD (seqQ (f := fun ρ m => Qk5 G (ρ 45) (ρ 11) m) (fun ρ m => by kernel_rfl))) (fun ρ m => by kernel_rfl))) (fun ρ m => by kernel_rfl))) (fun ρ m => by kernel_rfl))) (fun ρ m => by kernel_rfl))) (fun ρ m => by kernel_rfl))) (fun ρ m => by kernel_rfl)) m
def Q1m1 : Entry Tryz.prog := ⟨Q1dn, Tryz.f248, Tryz.func248, by kernel_rfl, arg1 (fun G a0 m => Q10c G a0 m), okarg1 Q1m0⟩
def Q24 (G : Gt) (p8 : V) (m : M) : R :=
  some (.tuple ⟨[(.bool false), p8, .nilFunc]⟩, m)
def Qq3 (G : Gt) (p8 p7 p1 : V) (m : M) : R :=
  bp (pur (bin .eql true true .str p8 (.string ⟨#[112,114,101,102,105,120,45,108,105,115,116]⟩)) m) fun x0 m =>
  brb x0
  (bp (G.tab Q7 [p1] m) fun x1 m =>
  bp (pur (aNilCheck p7) m) fun x2 m =>
  bp (pur (aFieldAddr 2 x2) m) fun x3 m =>
  bp (unt (aStore 1 x3 x1 m)) fun _ m =>
  Q24 G p8 m)
  (bp (pur (bin .eql true true .str p8 (.string ⟨#[99,111,109,109,117,110,105,116,121]⟩)) m) fun x4 m =>
  brb x4
  (bp (G.tab Q7 [p1] m) fun x5 m =>
  bp (pur (aNilCheck p7) m) fun x6 m =>
  bp (pur (aFieldAddr 3 x6) m) fun x7 m =>
  bp (unt (aStore 1 x7 x5 m)) fun _ m =>
  Q24 G p8 m)
  (bp (pur (bin .eql true true .str p8 (.string ⟨#[116,97,103]⟩)) m) fun x8 m =>
  brb x8
  (bp (G.tab Qc [p1, (.int .i64 0), (.int .i64 16777216)] m) fun x9 m =>
  bp (pur (aNilCheck p7) m) fun x10 m =>
  bp (pur (aFieldAddr 4 x10) m) fun x11 m =>
  bp (unt (aStore 1 x11 x9 m)) fun _ m =>
  Q24 G p8 m)
  (bp (pur (bin .eql true true .str p8 (.string ⟨#[109,101,116,114,105,99]⟩)) m) fun x12 m =>
  brb x12
  (bp (G.tab Qc [p1, (.int .i64 0), (.int .i64 16777216)] m) fun x13 m =>
  bp (pur (aNilCheck p7) m) fun x14 m =>
  bp (pur (aFieldAddr 5 x14) m) fun x15 m =>
  bp (unt (aStore 1 x15 x13 m)) fun _ m =>
  Q24 G p8 m)
  (bp (pur (bin .eql true true .str p8 (.string ⟨#[97,115]⟩)) m) fun x16 m =>
  brb x16
  (bp (G.tab Q6o [p1] m) fun x17 m =>
  bp (conv (.int .i64) x17 m) fun x18 m =>
  bp (pur (aNilCheck p7) m) fun x19 m =>
  bp (pur (aFieldAddr 6 x19) m) fun x20 m =>
  bp (unt (aStore 1 x20 x18 m)) fun _ m =>
  Q24 G p8 m)
  (bp (G.tab Qe [p1, (.int .i64 130)] m) fun x21 m =>
  Q24 G p8 m)))))
def Qq4 (G : Gt) (p1 p7 : V) (m : M) : R :=
  bp (G.tab Qi [p1] m) fun x22 m =>
  Qq3 G x22 p7 p1 m
def Qq5 (G : Gt) (p0 p1 : V) (m : M) : R :=
  bp (G.tab Qbj [p0] m) fun x23 m =>
  Qq4 G p1 x23 m
def Qhn (G : Gt) (p0 p1 : V) (m : M) : R :=
  Qq5 G p0 p1 m
theorem Q1d1 (G : Gt) (a0 a1 : V) (m : M) : evFn Tryz.prog G.tab G.rds (drOf Tryz.prog G.tab) Tryz.f249 [a0, a1] m = Qhn G a0 a1 m :=
  evFn_of (r := fun ρ m => Qhn G (ρ 0) (ρ 1) m) rfl rfl (tr (seqQ (f := fun ρ m => Qq5 G (ρ 0) (ρ 1) m) (tr (seqQ (f := fun ρ m => Qq4 G (ρ 1) (ρ 7) m) (tr (seqQ (f := fun ρ m => Qq3 G (ρ 8) (ρ 7) (ρ 1) m) (tr (seqQ (f := fun ρ m => Q24 G (ρ 8) m) (fun ρ m => by kernel_rfl)) (fun ρ m => by kernel_rfl))) (fun ρ m => by kernel_rfl))) (fun ρ m => by kernel_rfl))) (fun ρ m => by kernel_rfl)) m
def Q1d2 : Entry Tryz.prog := ⟨Qt4, Tryz.f249, Tryz.func249, by kernel_rfl, arg2 (fun G a0 a1 m => Qhn G a0 a1 m), okarg2 Q1d1⟩
def Q12 (G : Gt) (p8 : V) (m : M) : R :=
  some (.tuple ⟨[(.bool false), p8, .nilFunc]⟩, m)
def Qb1 (G : Gt) : Nat → V → V → V → V → M → R
 | 0, _, _, _, _, _ => none
 | i + 1, p9, p7, p1, p8, m =>
  brb p9
  (bp (pur (aNilCheck p7) m) fun x21 m =>
  bp (pur (aFieldAddr 12 x21) m) fun x22 m =>
  bp (pur (aLoad false 1 x22 m) m) fun x23 m =>
  bp (G.tab Q6o [p1] m) fun x24 m =>
  ckB (again (pur (aLoad false 1 x22 m) m) x23 && true)
  (bp (aBuildSlice Q1ch [(.int .u32 0)] 1 1 [(0, x24)] m) fun x25 m =>
  bp (apS Q1ch 1 4 x23 x25 m) fun x26 m =>
  bp (pur (aNilCheck p7) m) fun x27 m =>
  bp (pur (aFieldAddr 12 x27) m) fun x28 m =>
  bp (unt (aStore 1 x28 x26 m)) fun _ m =>
  bp (G.tab Q2i [p1] m) fun x29 m =>
  (Qb1 G i) x29 p7 p1 p8 m))
  (Q12 G p8 m)
def Qm3 (G : Gt) (p9 p7 p1 p8 : V) (m : M) : R :=
  Qb1 G G.rds p9 p7 p1 p8 m
def Qm4 (G : Gt) (p63 p7 p1 p8 p14 : V) (m : M) : R :=
  brb p63
  (Qm3 G (.bool true) p7 p1 p8 m)
  (bp (pur (bin .eql true true .str p14 (.string ⟨#[110,101,120,116,45,104,111,112]⟩)) m) fun x30 m =>
  brb x30
  (bp (G.tab Qh2 [p1] m) fun x31 m =>
  bp (pur (aNilCheck p7) m) fun x32 m =>
  bp (pur (aFieldAddr 13 x32) m) fun x33 m =>
  bp (unt (aStore 1 x33 x31 m)) fun _ m =>
  Q12 G p8 m)
  (bp (G.tab Qe [p1, (.int .i64 130)] m) fun x34 m =>
  Q12 G p8 m))
def Qns (G : Gt) (p49 p7 p1 p8 p14 : V) (m : M) : R :=
  brb p49
  (bp (aBuildSlice Q1 [(.string ⟨#[]⟩)] 1 2 [(0, (.string ⟨#[115,101,116]⟩)), (1, (.string ⟨#[97,100,100]⟩))] m) fun x13 m =>
  bp (G.tab Q8 [p1, x13] m) fun x14 m =>
  bp (pur (bin .eql true true .int x14 (.int .i64 1)) m) fun x15 m =>
  bp (pur (aNilCheck p7) m) fun x16 m =>
  bp (pur (aFieldAddr 11 x16) m) fun x17 m =>
  bp (unt (aStore 1 x17 x15 m)) fun _ m =>
  bp (G.tab Qck [p1] m) fun x18 m =>
  bp (pur (aNilCheck p7) m) fun x19 m =>
  bp (pur (aFieldAddr 10 x19) m) fun x20 m =>
  bp (unt (aStore 1 x20 x18 m)) fun _ m =>
  Q12 G p8 m)
  (bp (pur (bin .eql true true .str p14 (.string ⟨#[112,114,101,112,101,110,100]⟩)) m) fun x35 m =>
  Qm4 G x35 p7 p1 p8 p14 m)
def Qnt (G : Gt) (p42 p7 p1 p8 p14 : V) (m : M) : R :=
  brb p42
  (bp (G.tab Qc [p1, (.int .i64 0), (.int .i64 16777216)] m) fun x10 m =>
  bp (pur (aNilCheck p7) m) fun x11 m =>
  bp (pur (aFieldAddr 9 x11) m) fun x12 m =>
  bp (unt (aStore 1 x12 x10 m)) fun _ m =>
  Q12 G p8 m)
  (bp (pur (bin .eql true true .str p14 (.string ⟨#[99,111,109,109,117,110,105,116,121]⟩)) m) fun x36 m =>
  Qns G x36 p7 p1 p8 p14 m)
def Qnu (G : Gt) (p35 p7 p1 p8 p14 : V) (m : M) : R :=
  brb p35
  (bp (G.tab Qc [p1, (.int .i64 0), (.int .i64 16777216)] m) fun x7 m =>
  bp (pur (aNilCheck p7) m) fun x8 m =>
  bp (pur (aFieldAddr 8 x8) m) fun x9 m =>
  bp (unt (aStore 1 x9 x7 m)) fun _ m =>
  Q12 G p8 m)
  (bp (pur (bin .eql true true .str p14 (.string ⟨#[116,97,103]⟩)) m) fun x37 m =>
  Qnt G x37 p7 p1 p8 p14 m)
def Qnv (G : Gt) (p28 p7 p1 p8 p14 : V) (m : M) : R :=
  brb p28
  (bp (G.tab Qc [p1, (.int .i64 0), (.int .i64 16777216)] m) fun x4 m =>
  bp (pur (aNilCheck p7) m) fun x5 m =>
  bp (pur (aFieldAddr 7 x5) m) fun x6 m =>
  bp (unt (aStore 1 x6 x4 m)) fun _ m =>
  Q12 G p8 m)
  (bp (pur (bin .eql true true .str p14 (.string ⟨#[112,114,101,102,101,114,101,110,99,101]⟩)) m) fun x38 m =>
  Qnu G x38 p7 p1 p8 p14 m)
def Q6l (G : Gt) (p17 p7 p8 p14 p1 : V) (m : M) : R :=
  brb p17
  (bp (some (aMakeMap m)) fun x0 m =>
  bp (unt (aMapUpdate .str x0 (.string ⟨#[97,99,99,101,112,116]⟩) (.int .u8 1) m)) fun _ m =>
  bp (unt (aMapUpdate .str x0 (.string ⟨#[114,101,106,101,99,116]⟩) (.int .u8 0) m)) fun _ m =>
  bp (unt (aMapUpdate .str x0 (.string ⟨#[110,101,120,116]⟩) (.int .u8 2) m)) fun _ m =>
  bp (pur (aLookup .str (.int .u8 0) false x0 p8 m) m) fun x1 m =>
  bp (pur (aNilCheck p7) m) fun x2 m =>
  bp (pur (aFieldAddr 1 x2) m) fun x3 m =>
  bp (unt (aStore 1 x3 x1 m)) fun _ m =>
  Q12 G (.string ⟨#[97,99,99,101,112,116]⟩) m)
  (bp (pur (bin .eql true true .str p14 (.string ⟨#[109,101,116,114,105,99]⟩)) m) fun x39 m =>
  Qnv G x39 p7 p1 p8 p14 m)
def Qnw (G : Gt) (p14 p7 p8 p1 : V) (m : M) : R :=
  bp (pur (bin .eql true true .str p14 (.string ⟨#[97,99,99,101,112,116]⟩)) m) fun x40 m =>
  brb x40
  (Q6l G x40 p7 p8 p14 p1 m)
  (bp (pur (bin .eql true true .str p14 (.string ⟨#[114,101,106,101,99,116]⟩)) m) fun x41 m =>
  brb x41
  (Q6l G x41 p7 p8 p14 p1 m)
  (bp (pur (bin .eql true true .str p14 (.string ⟨#[110,101,120,116]⟩)) m) fun x42 m =>
  Q6l G x42 p7 p8 p14 p1 m))
def Qnx (G : Gt) (p8 p7 p1 : V) (m : M) : R :=
  Qnw G p8 p7 p8 p1 m
def Qny (G : Gt) (p1 p7 : V) (m : M) : R :=
  bp (G.tab Qi [p1] m) fun x43 m =>
  Qnx G x43 p7 p1 m
def Qnz (G : Gt) (p0 p1 : V) (m : M) : R :=
  bp (G.tab Qbj [p0] m) fun x44 m =>
  Qny G p1 x44 m
def Qfi (G : Gt) (p0 p1 : V) (m : M) : R :=
  Qnz G p0 p1 m
theorem Q1br (G : Gt) (a0 a1 : V) (m : M) : evFn Tryz.prog G.tab G.rds (drOf Tryz.prog G.tab) Tryz.f250 [a0, a1] m = Qfi G a0 a1 m :=
  evFn_of (r := fun ρ m => Qfi G (ρ 0) (ρ 1) m) rfl rfl (tr (seqQ (f := fun ρ m => Qnz G (ρ 0) (ρ 1) m) (tr (seqQ (f := fun ρ m => Qny G (ρ 1) (ρ 7) m) (tr (seqQ (f := fun ρ m => Qnx G (ρ 8) (ρ 7) (ρ 1) m) (tr (tr (seqQ (f := fun ρ m => Q12 G (ρ 8) m) (fun ρ m => by kernel_rfl)) (seqQ (f := fun ρ m => Qnw G (ρ 14) (ρ 7) (ρ 8) (ρ 1) m) (tr (blockQ (seqQ (f := fun ρ m => Q6l G (ρ 17) (ρ 7) (ρ 8) (ρ 14) (ρ 1) m) (tr (condQ (refQ) (seqQ (f := fun ρ m => Qnv G (ρ 28) (ρ 7) (ρ 1) (ρ 8) (ρ 14) m) (tr (condQ (refQ) (seqQ (f := fun ρ m => Qnu G (ρ 35) (ρ 7) (ρ 1) (ρ 8) (ρ 14) m) (tr (condQ (refQ) (seqQ (f := fun ρ m => Qnt G (ρ 42) (ρ 7) (ρ 1) (ρ 8) (ρ 14) m) (tr (condQ (refQ) (seqQ (f := fun ρ m => Qns G (ρ 49) (ρ 7) (ρ 1) (ρ 8) (ρ 14) m) (tr (condQ (refQ) (seqQ (f := fun ρ m => Qm4 G (ρ 63) (ρ 7) (ρ 1) (ρ 8) (ρ 14) m) (tr (condQ (seqQ (f := fun ρ m => Qm3 G (ρ 9) (ρ 7) (ρ 1) (ρ 8) m) (tr (blockQ (loopQ (fun i ρ m => Qb1 G i (ρ 9) (ρ 7) (ρ 1) (ρ 8) m) (fun _ _ => rfl) (fun i0 => fun ρ m => by kernel_rfl))) (fun ρ m => by kernel_rfl))) (refQ)) (fun ρ m => by kernel_rfl)))) (fun ρ m => by kernel_rfl)))) (fun ρ m => by kernel_rfl)))) (fun ρ m => by kernel_rfl)))) (fun ρ m => by kernel_rfl)))) (fun ρ m => by kernel_rfl)))) (fun ρ m => by kernel_rfl)))) (fun ρ m => by kernel_rfl))) (fun ρ m => by kernel_rfl))) (fun ρ m => by kernel_rfl))) (fun ρ m => by kernel_rfl)) m
def Q1bs : Entry Tryz.prog := ⟨Qro, Tryz.f250, Tryz.func250, by kernel_rfl, arg2 (fun G a0 a1 m => Qfi G a0 a1 m), okarg2 Q1br⟩
def Q53 (G : Gt) (m : M) : R :=
  some ((.int .i64 (-1)), m)
def Q2b (G : Gt) : Nat → V → V → V → V → M → R
 | 0, _, _, _, _, _ => none
 | i + 1, p8, p7, p1, p0, m =>
  bp (pur (bin .lss false true .int p8 p7) m) fun x0 m =>
  brb x0
  (bp (pur (aIndexAddrSl 11 p0 p8) m) fun x1 m =>
  bp (pur (aLoad true 11 x1 m) m) fun x2 m =>
  bp (evCall G.tab p1 [x2] m) fun x3 m =>
  brb x3
  (some (p8, m))
  (bp (pur (bin .add true true .int p8 (.int .i64 1)) m) fun x4 m =>
  (Q2b G i) x4 p7 p1 p0 m))
  (Q53 G m)
def Q54 (G : Gt) (p8 p7 p1 p0 : V) (m : M) : R :=
  Q2b G G.rds p8 p7 p1 p0 m
def Q55 (G : Gt) (p0 p1 : V) (m : M) : R :=
  bp (pur (lenK 1 p0 m) m) fun x5 m =>
  Q54 G (.int .i64 0) x5 p1 p0 m
def Q2s (G : Gt) (p0 p1 : V) (m : M) : R :=
  Q55 G p0 p1 m
theorem Qfz (G : Gt) (a0 a1 : V) (m : M) : evFn Tryz.prog G.tab G.rds (drOf Tryz.prog G.tab) Tryz.f251 [a0, a1] m = Q2s G a0 a1 m :=
  evFn_of (r := fun ρ m => Q2s G (ρ 0) (ρ 1) m) rfl rfl (tr (seqQ (f := fun ρ m => Q55 G (ρ 0) (ρ 1) m) (tr (tr (seqQ (f := fun ρ m => Q53 G m) (fun ρ m => by kernel_rfl)) (seqQ (f := fun ρ m => Q54 G (ρ 8) (ρ 7) (ρ 1) (ρ 0) m) (tr (blockQ (loopQ (fun i ρ m => Q2b G i (ρ 8) (ρ 7) (ρ 1) (ρ 0) m) (fun _ _ => rfl) (fun i0 => fun ρ m => by kernel_rfl))) (fun ρ m => by kernel_rfl)))) (fun ρ m => by kernel_rfl))) (fun ρ m => by kernel_rfl)) m
def Qg0 : Entry Tryz.prog := ⟨Q5p, Tryz.f251, Tryz.func251, by kernel_rfl, arg2 (fun G a0 a1 m => Q2s G a0 a1 m), okarg2 Qfz⟩
def Q8o (G : Gt) (p0 p1 p2 p3 : V) (m : M) : R :=
  bp (some (aNew Q9v (Value.cells p0).toList m)) fun x0 m =>
  bp (pur (aLoad false 1 p1 m) m) fun x1 m =>
  bp (pur (aLoad true 11 x0 m) m) fun x2 m =>
  bp (pur (aLoad false 1 p1 m) m) fun x3 m =>
  bp (pur (aLoad false 1 p2 m) m) fun x4 m =>
  bp (pur (aLoad false 1 p3 m) m) fun x5 m =>
  bp (pur (aIndexAddrSl 11 x4 x5) m) fun x6 m =>
  bp (pur (aLoad true 11 x6 m) m) fun x7 m =>
  bp (evCall G.tab x1 [x2] m) fun x8 m =>
  ckB (again (pur (aLoad false 1 p1 m) m) x3 && (again (pur (aLoad false 1 p2 m) m) x4 && (again (pur (aLoad false 1 p3 m) m) x5 && (again (pur (aLoad true 11 x6 m) m) x7 && true))))
  (bp (evCall G.tab x3 [x7] m) fun x9 m =>
  bp (pur (bin .eql false true .str x8 x9) m) fun x10 m =>
  some (x10, m))
theorem Q10d (G : Gt) (a0 a1 a2 a3 : V) (m : M) : evFn Tryz.prog G.tab G.rds (drOf Tryz.prog G.tab) Tryz.f252 [a0, a1, a2, a3] m = Q8o G a0 a1 a2 a3 m :=
  evFn_of (r := fun ρ m => Q8o G (ρ 0) (ρ 1) (ρ 2) (ρ 3) m) rfl rfl (fun ρ m => by kernel_rfl) m
def Q10e : Entry Tryz.prog := ⟨Qi2, Tryz.f252, Tryz.func252, by kernel_rfl, arg4 (fun G a0 a1 a2 a3 m => Q8o G a0 a1 a2 a3 m), okarg4 Q10d⟩
def Q5x (G : Gt) (m : M) : R :=
  some ((.int .i64 (-1)), m)
def Q2t (G : Gt) : Nat → V → V → V → V → M → R
 | 0, _, _, _, _, _ => none
 | i + 1, p8, p7, p1, p0, m =>
  bp (pur (bin .lss false true .int p8 p7) m) fun x0 m =>
  brb x0
  (bp (pur (aIndexAddrSl 10 p0 p8) m) fun x1 m =>
  bp (pur (aLoad true 10 x1 m) m) fun x2 m =>
  bp (evCall G.tab p1 [x2] m) fun x3 m =>
  brb x3
  (some (p8, m))
  (bp (pur (bin .add true true .int p8 (.int .i64 1)) m) fun x4 m =>
  (Q2t G i) x4 p7 p1 p0 m))
  (Q5x G m)
def Q5y (G : Gt) (p8 p7 p1 p0 : V) (m : M) : R :=
  Q2t G G.rds p8 p7 p1 p0 m
def Q5z (G : Gt) (p0 p1 : V) (m : M) : R :=
  bp (pur (lenK 1 p0 m) m) fun x5 m =>
  Q5y G (.int .i64 0) x5 p1 p0 m
def Q3b (G : Gt) (p0 p1 : V) (m : M) : R :=
  Q5z G p0 p1 m
theorem Qii (G : Gt) (a0 a1 : V) (m : M) : evFn Tryz.prog G.tab G.rds (drOf Tryz.prog G.tab) Tryz.f253 [a0, a1] m = Q3b G a0 a1 m :=
  evFn_of (r := fun ρ m => Q3b G (ρ 0) (ρ 1) m) rfl rfl (tr (seqQ (f := fun ρ m => Q5z G (ρ 0) (ρ 1) m) (tr (tr (seqQ (f := fun ρ m => Q5x G m) (fun ρ m => by kernel_rfl)) (seqQ (f := fun ρ m => Q5y G (ρ 8) (ρ 7) (ρ 1) (ρ 0) m) (tr (blockQ (loopQ (fun i ρ m => Q2t G i (ρ 8) (ρ 7) (ρ 1) (ρ 0) m) (fun _ _ => rfl) (fun i0 => fun ρ m => by kernel_rfl))) (fun ρ m => by kernel_rfl)))) (fun ρ m => by kernel_rfl))) (fun ρ m => by kernel_rfl)) m
def Qij : Entry Tryz.prog := ⟨Q6a, Tryz.f253, Tryz.func253, by kernel_rfl, arg2 (fun G a0 a1 m => Q3b G a0 a1 m), okarg2 Qii⟩
def Qqz (G : Gt) (p2 : V) (m : M) : R :=
  some (p2, m)
def Q149 (G : Gt) (p1 : V) (m : M) : R :=
  bp (pur (aFieldAddr 0 p1) m) fun x0 m =>
  bp (pur (aLoad false 1 x0 m) m) fun x1 m =>
  bp (pur (aFieldAddr 1 p1) m) fun x2 m =>
  bp (pur (aLoad false 1 x2 m) m) fun x3 m =>
  bp (pur (bin .leq false true .int x1 x3) m) fun x4 m =>
  brb x4
  (bp (pur (aFieldAddr 1 p1) m) fun x5 m =>
  bp (pur (aLoad false 1 x5 m) m) fun x6 m =>
  bp (pur (bin .leq true true .int x6 (.int .u32 65535)) m) fun x7 m =>
  Qqz G x7 m)
  (Qqz G (.bool false) m)
def Qxy (G : Gt) (p0 : V) (m : M) : R :=
  bp (some (aNew Q1ci (Value.cells p0).toList m)) fun x8 m =>
  Q149 G x8 m
theorem Q1kj (G : Gt) (a0 : V) (m : M) : evFn Tryz.prog G.tab G.rds (drOf Tryz.prog G.tab) Tryz.f254 [a0] m = Qxy G a0 m :=
  evFn_of (r := fun ρ m => Qxy G (ρ 0) m) rfl rfl (tr (seqQ (f := fun ρ m => Q149 G (ρ 1) m) (tr (seqQ (f := fun ρ m => Qqz G (ρ 2) m) (fun ρ m => by kernel_rfl)) (fun ρ m => by kernel_rfl))) (fun ρ m => by kernel_rfl)) m
def Q1kk : Entry Tryz.prog := ⟨Qxb, Tryz.f254, Tryz.func254, by kernel_rfl, arg1 (fun G a0 m => Qxy G a0 m), okarg1 Q1kj⟩
def Q10f (G : Gt) (p0 : V) (m : M) : R :=
  bp (pur (bin .sub true true .int (.int .i64 32) p0) m) fun x0 m =>
  bp (pur (bin .shl true true .int (.int .u64 1) x0) m) fun x1 m =>
  bp (pur (bin .sub true true .int x1 (.int .u64 1)) m) fun x2 m =>
  bp (conv (.int .u32) x2 m) fun x3 m =>
  some (x3, m)
theorem Q1m2 (G : Gt) (a0 : V) (m : M) : evFn Tryz.prog G.tab G.rds (drOf Tryz.prog G.tab) Tryz.f255 [a0] m = Q10f G a0 m :=
  evFn_of (r := fun ρ m => Q10f G (ρ 0) m) rfl rfl (fun ρ m => by kernel_rfl) m
def Q1m3 : Entry Tryz.prog := ⟨Q1do, Tryz.f255, Tryz.func255, by kernel_rfl, arg1 (fun G a0 m => Q10f G a0 m), okarg1 Q1m2⟩
end
end Go.Ab.Sh
