/-
  Functions of the program as plain definitions, each with the theorem that it is what the evaluator makes of the code. No conditions.
-/
import Derived.Test.YtchdjkidnjfcjaaGreatDoorAb5
import Derived.Test.YtchdjkidnjfcjaaGreatDoorZ
import Derived.KernelRfl
import Derived.Test.YtchdjkidnjfcjaaGreatDoorProg
set_option linter.unusedVariables false
set_option maxRecDepth 100000
namespace Go.Ab.Sh
open Go Go.Ab Go.Proofs
noncomputable section
def Qwf (G : Gt) (p9 : V) (m : M) : R :=
  bp (G.tab Q5e [p9] m) fun x0 m =>
  some (x0, m)
def Qj0 (G : Gt) : Nat → V → V → V → M → R
 | 0, _, _, _, _ => none
 | i + 1, p9, p7, p8, m =>
  bp (G.tab Qci [p9] m) fun x1 m =>
  bp (pur (bin .lss false true .int x1 p7) m) fun x2 m =>
  brb x2
  (bp (G.tab Qci [p9] m) fun x3 m =>
  bp (pur (bin .sub false true .int p7 x3) m) fun x4 m =>
  bp (G.tab Qci [p9] m) fun x5 m =>
  bp (pur (aMin3 x4 x5 p8) m) fun x6 m =>
  bp (G.tab Q5e [p9] m) fun x7 m =>
  bp (pur (aSliceStr x7 none (some x6)) m) fun x8 m =>
  bp (G.tab Qz [p9, x8] m) fun x9 m =>
  (Qj0 G i) p9 p7 p8 m)
  (Qwf G p9 m)
def Qwg (G : Gt) (p9 p7 p8 : V) (m : M) : R :=
  Qj0 G G.rds p9 p7 p8 m
def Qwh (G : Gt) (p0 p9 p7 p8 : V) (m : M) : R :=
  bp (G.tab Qz [p9, p0] m) fun x10 m =>
  Qwg G p9 p7 p8 m
def Qwi (G : Gt) (p7 p9 p0 p8 : V) (m : M) : R :=
  bp (G.tab Q14p [p9, p7] m) fun x11 m =>
  Qwh G p0 p9 p7 p8 m
def Qc9 (G : Gt) (p7 p0 p8 : V) (m : M) : R :=
  bp (some (aNew Qo0 Q119 m)) fun x12 m =>
  Qwi G p7 x12 p0 p8 m
def Qyl (G : Gt) (p7 p0 p8 : V) (m : M) : R :=
  bp (pur (bin .gtr true true .int p7 (.int .i64 8192)) m) fun x13 m =>
  brb x13
  (bp (pur (lenK 0 p0 m) m) fun x14 m =>
  bp (pur (bin .quo true true .int (.int .i64 8192) x14) m) fun x15 m =>
  bp (pur (lenK 0 p0 m) m) fun x16 m =>
  bp (pur (bin .mul false true .int x15 x16) m) fun x17 m =>
  bp (pur (bin .eql true true .int x17 (.int .i64 0)) m) fun x18 m =>
  brb x18
  (bp (pur (lenK 0 p0 m) m) fun x19 m =>
  Qc9 G p7 p0 x19 m)
  (Qc9 G p7 p0 x17 m))
  (Qc9 G p7 p0 p8 m)
def Ql9 (G : Gt) (p7 p0 : V) (m : M) : R :=
  Qyl G p7 p0 p7 m
def Qj1 (G : Gt) (p85 p7 p0 : V) (m : M) : R :=
  brb p85
  (bp (pur (aSliceStr (.string ⟨#[9,9,9,9,9,9,9,9,9,9,9,9,9,9,9,9,9,9,9,9,9,9,9,9,9,9,9,9,9,9,9,9,9,9,9,9,9,9,9,9,9,9,9,9,9,9,9,9,9,9,9,9,9,9,9,9,9,9,9,9,9,9,9,9]⟩) none (some p7)) m) fun x24 m =>
  some (x24, m))
  (Ql9 G p7 p0 m)
def Qj2 (G : Gt) (p76 p7 p0 : V) (m : M) : R :=
  brb p76
  (bp (pur (aSliceStr (.string ⟨#[61,61,61,61,61,61,61,61,61,61,61,61,61,61,61,61,61,61,61,61,61,61,61,61,61,61,61,61,61,61,61,61,61,61,61,61,61,61,61,61,61,61,61,61,61,61,61,61,61,61,61,61,61,61,61,61,61,61,61,61,61,61,61,61,61,61,61,61,61,61,61,61,61,61,61,61,61,61,61,61,61,61,61,61,61,61,61,61,61,61,61,61,61,61,61,61,61,61,61,61,61,61,61,61,61,61,61,61,61,61,61,61,61,61,61,61,61,61,61,61,61,61,61,61,61,61,61,61]⟩) none (some p7)) m) fun x23 m =>
  some (x23, m))
  (bp (pur (bin .leq true true .int p7 (.int .i64 64)) m) fun x25 m =>
  brb x25
  (bp (G.tab Q2c [(.string ⟨#[9,9,9,9,9,9,9,9,9,9,9,9,9,9,9,9,9,9,9,9,9,9,9,9,9,9,9,9,9,9,9,9,9,9,9,9,9,9,9,9,9,9,9,9,9,9,9,9,9,9,9,9,9,9,9,9,9,9,9,9,9,9,9,9]⟩), p0] m) fun x26 m =>
  Qj1 G x26 p7 p0 m)
  (Qj1 G (.bool false) p7 p0 m))
def Qj3 (G : Gt) (p67 p7 p0 : V) (m : M) : R :=
  brb p67
  (bp (pur (aSliceStr (.string ⟨#[48,48,48,48,48,48,48,48,48,48,48,48,48,48,48,48,48,48,48,48,48,48,48,48,48,48,48,48,48,48,48,48,48,48,48,48,48,48,48,48,48,48,48,48,48,48,48,48,48,48,48,48,48,48,48,48,48,48,48,48,48,48,48,48]⟩) none (some p7)) m) fun x22 m =>
  some (x22, m))
  (bp (pur (bin .leq true true .int p7 (.int .i64 128)) m) fun x27 m =>
  brb x27
  (bp (G.tab Q2c [(.string ⟨#[61,61,61,61,61,61,61,61,61,61,61,61,61,61,61,61,61,61,61,61,61,61,61,61,61,61,61,61,61,61,61,61,61,61,61,61,61,61,61,61,61,61,61,61,61,61,61,61,61,61,61,61,61,61,61,61,61,61,61,61,61,61,61,61,61,61,61,61,61,61,61,61,61,61,61,61,61,61,61,61,61,61,61,61,61,61,61,61,61,61,61,61,61,61,61,61,61,61,61,61,61,61,61,61,61,61,61,61,61,61,61,61,61,61,61,61,61,61,61,61,61,61,61,61,61,61,61,61]⟩), p0] m) fun x28 m =>
  Qj2 G x28 p7 p0 m)
  (Qj2 G (.bool false) p7 p0 m))
def Qj4 (G : Gt) (p58 p7 p0 : V) (m : M) : R :=
  brb p58
  (bp (pur (aSliceStr (.string ⟨#[45,45,45,45,45,45,45,45,45,45,45,45,45,45,45,45,45,45,45,45,45,45,45,45,45,45,45,45,45,45,45,45,45,45,45,45,45,45,45,45,45,45,45,45,45,45,45,45,45,45,45,45,45,45,45,45,45,45,45,45,45,45,45,45,45,45,45,45,45,45,45,45,45,45,45,45,45,45,45,45,45,45,45,45,45,45,45,45,45,45,45,45,45,45,45,45,45,45,45,45,45,45,45,45,45,45,45,45,45,45,45,45,45,45,45,45,45,45,45,45,45,45,45,45,45,45,45,45]⟩) none (some p7)) m) fun x21 m =>
  some (x21, m))
  (bp (pur (bin .leq true true .int p7 (.int .i64 64)) m) fun x29 m =>
  brb x29
  (bp (G.tab Q2c [(.string ⟨#[48,48,48,48,48,48,48,48,48,48,48,48,48,48,48,48,48,48,48,48,48,48,48,48,48,48,48,48,48,48,48,48,48,48,48,48,48,48,48,48,48,48,48,48,48,48,48,48,48,48,48,48,48,48,48,48,48,48,48,48,48,48,48,48]⟩), p0] m) fun x30 m =>
  Qj3 G x30 p7 p0 m)
  (Qj3 G (.bool false) p7 p0 m))
def Qj5 (G : Gt) (p49 p7 p0 : V) (m : M) : R :=
  brb p49
  (bp (pur (aSliceStr (.string ⟨#[32,32,32,32,32,32,32,32,32,32,32,32,32,32,32,32,32,32,32,32,32,32,32,32,32,32,32,32,32,32,32,32,32,32,32,32,32,32,32,32,32,32,32,32,32,32,32,32,32,32,32,32,32,32,32,32,32,32,32,32,32,32,32,32,32,32,32,32,32,32,32,32,32,32,32,32,32,32,32,32,32,32,32,32,32,32,32,32,32,32,32,32,32,32,32,32,32,32,32,32,32,32,32,32,32,32,32,32,32,32,32,32,32,32,32,32,32,32,32,32,32,32,32,32,32,32,32,32]⟩) none (some p7)) m) fun x20 m =>
  some (x20, m))
  (bp (pur (bin .leq true true .int p7 (.int .i64 128)) m) fun x31 m =>
  brb x31
  (bp (G.tab Q2c [(.string ⟨#[45,45,45,45,45,45,45,45,45,45,45,45,45,45,45,45,45,45,45,45,45,45,45,45,45,45,45,45,45,45,45,45,45,45,45,45,45,45,45,45,45,45,45,45,45,45,45,45,45,45,45,45,45,45,45,45,45,45,45,45,45,45,45,45,45,45,45,45,45,45,45,45,45,45,45,45,45,45,45,45,45,45,45,45,45,45,45,45,45,45,45,45,45,45,45,45,45,45,45,45,45,45,45,45,45,45,45,45,45,45,45,45,45,45,45,45,45,45,45,45,45,45,45,45,45,45,45,45]⟩), p0] m) fun x32 m =>
  Qj4 G x32 p7 p0 m)
  (Qj4 G (.bool false) p7 p0 m))
def Q4e (G : Gt) (p43 p7 p0 : V) (m : M) : R :=
  brb p43
  (bp (pur (bin .leq true true .int p7 (.int .i64 128)) m) fun x33 m =>
  brb x33
  (bp (G.tab Q2c [(.string ⟨#[32,32,32,32,32,32,32,32,32,32,32,32,32,32,32,32,32,32,32,32,32,32,32,32,32,32,32,32,32,32,32,32,32,32,32,32,32,32,32,32,32,32,32,32,32,32,32,32,32,32,32,32,32,32,32,32,32,32,32,32,32,32,32,32,32,32,32,32,32,32,32,32,32,32,32,32,32,32,32,32,32,32,32,32,32,32,32,32,32,32,32,32,32,32,32,32,32,32,32,32,32,32,32,32,32,32,32,32,32,32,32,32,32,32,32,32,32,32,32,32,32,32,32,32,32,32,32,32]⟩), p0] m) fun x34 m =>
  Qj5 G x34 p7 p0 m)
  (Qj5 G (.bool false) p7 p0 m))
  (Ql9 G p7 p0 m)
def Qwj (G : Gt) (p42 p7 p0 : V) (m : M) : R :=
  bp (pur (bin .eql true true .int p42 (.int .u8 32)) m) fun x35 m =>
  brb x35
  (Q4e G x35 p7 p0 m)
  (bp (pur (bin .eql true true .int p42 (.int .u8 45)) m) fun x36 m =>
  brb x36
  (Q4e G x36 p7 p0 m)
  (bp (pur (bin .eql true true .int p42 (.int .u8 48)) m) fun x37 m =>
  brb x37
  (Q4e G x37 p7 p0 m)
  (bp (pur (bin .eql true true .int p42 (.int .u8 61)) m) fun x38 m =>
  brb x38
  (Q4e G x38 p7 p0 m)
  (bp (pur (bin .eql true true .int p42 (.int .u8 9)) m) fun x39 m =>
  Q4e G x39 p7 p0 m))))
def Qym (G : Gt) (p0 p7 : V) (m : M) : R :=
  bp (pur (aIndexStr p0 (.int .i64 0)) m) fun x40 m =>
  Qwj G x40 p7 p0 m
def Qyn (G : Gt) (p0 p7 : V) (m : M) : R :=
  bp (pur (lenK 0 p0 m) m) fun x41 m =>
  bp (pur (bin .eql true true .int x41 (.int .i64 0)) m) fun x42 m =>
  brb x42
  (some ((.string ⟨#[]⟩), m))
  (Qym G p0 p7 m)
def Qyo (G : Gt) (p6 p0 : V) (m : M) : R :=
  bp (conv (.int .i64) p6 m) fun x43 m =>
  Qyn G p0 x43 m
def Qj6 (G : Gt) (p34 p6 p0 : V) (m : M) : R :=
  brb p34
  (let x44 : V := (.iface Q1 (.string ⟨#[115,116,114,105,110,103,115,58,32,82,101,112,101,97,116,32,111,117,116,112,117,116,32,108,101,110,103,116,104,32,111,118,101,114,102,108,111,119]⟩))
  none)
  (Qyo G p6 p0 m)
def Qyp (G : Gt) (p5 p6 p0 : V) (m : M) : R :=
  bp (pur (bin .gtr true true .int p5 (.int .u64 0)) m) fun x45 m =>
  brb x45
  (Qj6 G (.bool true) p6 p0 m)
  (bp (pur (bin .gtr true true .int p6 (.int .u64 9223372036854775807)) m) fun x46 m =>
  Qj6 G x46 p6 p0 m)
def Qyq (G : Gt) (p0 p1 : V) (m : M) : R :=
  bp (pur (lenK 0 p0 m) m) fun x47 m =>
  bp (conv (.int .u64) x47 m) fun x48 m =>
  bp (conv (.int .u64) p1 m) fun x49 m =>
  bp (G.tab Q15r [x48, x49] m) fun x50 m =>
  bp (pur (aExtract x50 0) m) fun x51 m =>
  bp (pur (aExtract x50 1) m) fun x52 m =>
  Qyp G x51 x52 p0 m
def Qyr (G : Gt) (p1 p0 : V) (m : M) : R :=
  bp (pur (bin .lss true true .int p1 (.int .i64 0)) m) fun x53 m =>
  brb x53
  (let x54 : V := (.iface Q1 (.string ⟨#[115,116,114,105,110,103,115,58,32,110,101,103,97,116,105,118,101,32,82,101,112,101,97,116,32,99,111,117,110,116]⟩))
  none)
  (Qyq G p0 p1 m)
def Qys (G : Gt) (p1 p0 : V) (m : M) : R :=
  bp (pur (bin .eql true true .int p1 (.int .i64 0)) m) fun x55 m =>
  brb x55
  (some ((.string ⟨#[]⟩), m))
  (bp (pur (bin .eql true true .int p1 (.int .i64 1)) m) fun x56 m =>
  brb x56
  (some (p0, m))
  (Qyr G p1 p0 m))
def Qqo (G : Gt) (p1 p0 : V) (m : M) : R :=
  Qys G p1 p0 m
theorem Q1i5 (G : Gt) (a0 a1 : V) (m : M) : evFn Tryz.prog G.tab G.rds (drOf Tryz.prog G.tab) Tryz.f98 [a0, a1] m = Qqo G a1 a0 m :=
  evFn_of (r := fun ρ m => Qqo G (ρ 1) (ρ 0) m) rfl rfl (tr (seqQ (f := fun ρ m => Qys G (ρ 1) (ρ 0) m) (tr (seqQ (f := fun ρ m => Qyr G (ρ 1) (ρ 0) m) (tr (seqQ (f := fun ρ m => Qyq G (ρ 0) (ρ 1) m) (tr (seqQ (f := fun ρ m => Qyp G (ρ 5) (ρ 6) (ρ 0) m) (tr (tr (seqQ (f := fun ρ m => Qyo G (ρ 6) (ρ 0) m) (tr (seqQ (f := fun ρ m => Qyn G (ρ 0) (ρ 7) m) (tr (seqQ (f := fun ρ m => Qym G (ρ 0) (ρ 7) m) (tr (tr (seqQ (f := fun ρ m => Ql9 G (ρ 7) (ρ 0) m) (tr (seqQ (f := fun ρ m => Qyl G (ρ 7) (ρ 0) (ρ 8) m) (tr (seqQ (f := fun ρ m => Qc9 G (ρ 7) (ρ 0) (ρ 8) m) (tr (seqQ (f := fun ρ m => Qwi G (ρ 7) (ρ 9) (ρ 0) (ρ 8) m) (tr (seqQ (f := fun ρ m => Qwh G (ρ 0) (ρ 9) (ρ 7) (ρ 8) m) (tr (seqQ (f := fun ρ m => Qwg G (ρ 9) (ρ 7) (ρ 8) m) (tr (tr (seqQ (f := fun ρ m => Qwf G (ρ 9) m) (fun ρ m => by kernel_rfl)) (blockQ (loopQ (fun i ρ m => Qj0 G i (ρ 9) (ρ 7) (ρ 8) m) (fun _ _ => rfl) (fun i0 => fun ρ m => by kernel_rfl)))) (fun ρ m => by kernel_rfl))) (fun ρ m => by kernel_rfl))) (fun ρ m => by kernel_rfl))) (fun ρ m => by kernel_rfl))) (fun ρ m => by kernel_rfl))) (fun ρ m => by kernel_rfl))) (seqQ (f := fun ρ m => Qwj G (ρ 42) (ρ 7) (ρ 0) m) (tr (blockQ (seqQ (f := fun ρ m => Q4e G (ρ 43) (ρ 7) (ρ 0) m) (tr (condQ (blockQ (seqQ (f := fun ρ m => Qj5 G (ρ 49) (ρ 7) (ρ 0) m) (tr (condQ (refQ) (seqQ (f := fun ρ m => Qj4 G (ρ 58) (ρ 7) (ρ 0) m) (tr (condQ (refQ) (seqQ (f := fun ρ m => Qj3 G (ρ 67) (ρ 7) (ρ 0) m) (tr (condQ (refQ) (seqQ (f := fun ρ m => Qj2 G (ρ 76) (ρ 7) (ρ 0) m) (tr (condQ (refQ) (seqQ (f := fun ρ m => Qj1 G (ρ 85) (ρ 7) (ρ 0) m) (fun ρ m => by kernel_rfl))) (fun ρ m => by kernel_rfl)))) (fun ρ m => by kernel_rfl)))) (fun ρ m => by kernel_rfl)))) (fun ρ m => by kernel_rfl)))) (refQ)) (fun ρ m => by kernel_rfl)))) (fun ρ m => by kernel_rfl)))) (fun ρ m => by kernel_rfl))) (fun ρ m => by kernel_rfl))) (fun ρ m => by kernel_rfl))) (seqQ (f := fun ρ m => Qj6 G (ρ 34) (ρ 6) (ρ 0) m) (fun ρ m => by kernel_rfl))) (fun ρ m => by kernel_rfl))) (fun ρ m => by kernel_rfl))) (fun ρ m => by kernel_rfl))) (fun ρ m => by kernel_rfl))) (fun ρ m => by kernel_rfl)) m
def Q1i6 : Entry Tryz.prog := ⟨Q12w, Tryz.f98, Tryz.func98, by kernel_rfl, arg2 (fun G a0 a1 m => Qqo G a1 a0 m), okarg2 Q1i5⟩
def Qnd (G : Gt) (p0 p3 : V) (m : M) : R :=
  bp (pur (bin .add true true .int (.int .u64 48) p0) m) fun x0 m =>
  bp (conv (.int .u8) x0 m) fun x1 m =>
  bp (aBuildSlice Q6x [(.int .u8 0)] 1 1 [(0, x1)] m) fun x2 m =>
  bp (conv .str x2 m) fun x3 m =>
  bp (pur (bin .add false true .str x3 p3) m) fun x4 m =>
  some (x4, m)
def Qbr (G : Gt) : Nat → V → V → M → R
 | 0, _, _, _ => none
 | i + 1, p0, p3, m =>
  bp (pur (bin .gtr true true .int p0 (.int .u64 9)) m) fun x5 m =>
  brb x5
  (bp (pur (bin .rem true true .int p0 (.int .u64 10)) m) fun x6 m =>
  bp (pur (bin .add true true .int (.int .u64 48) x6) m) fun x7 m =>
  bp (conv (.int .u8) x7 m) fun x8 m =>
  bp (aBuildSlice Q6x [(.int .u8 0)] 1 1 [(0, x8)] m) fun x9 m =>
  bp (conv .str x9 m) fun x10 m =>
  bp (pur (bin .add false true .str x10 p3) m) fun x11 m =>
  bp (pur (bin .quo true true .int p0 (.int .u64 10)) m) fun x12 m =>
  (Qbr G i) x12 x11 m)
  (Qnd G p0 p3 m)
def Qne (G : Gt) (p0 p3 : V) (m : M) : R :=
  Qbr G G.rds p0 p3 m
def Qnf (G : Gt) (p0 : V) (m : M) : R :=
  Qne G p0 (.string ⟨#[]⟩) m
def Qep (G : Gt) (p0 : V) (m : M) : R :=
  Qnf G p0 m
theorem Q1am (G : Gt) (a0 : V) (m : M) : evFn Tryz.prog G.tab G.rds (drOf Tryz.prog G.tab) Tryz.f99 [a0] m = Qep G a0 m :=
  evFn_of (r := fun ρ m => Qep G (ρ 0) m) rfl rfl (tr (seqQ (f := fun ρ m => Qnf G (ρ 0) m) (tr (seqQ (f := fun ρ m => Qne G (ρ 0) (ρ 3) m) (tr (tr (seqQ (f := fun ρ m => Qnd G (ρ 0) (ρ 3) m) (fun ρ m => by kernel_rfl)) (blockQ (loopQ (fun i ρ m => Qbr G i (ρ 0) (ρ 3) m) (fun _ _ => rfl) (fun i0 => fun ρ m => by kernel_rfl)))) (fun ρ m => by kernel_rfl))) (fun ρ m => by kernel_rfl))) (fun ρ m => by kernel_rfl)) m
def Q1an : Entry Tryz.prog := ⟨Qe6, Tryz.f99, Tryz.func99, by kernel_rfl, arg1 (fun G a0 m => Qep G a0 m), okarg1 Q1am⟩
def Qj7 (G : Gt) (p0 p1 : V) (m : M) : R :=
  bp (G.tab Qaf [p0, p1] m) fun x0 m =>
  some (x0, m)
theorem Q1et (G : Gt) (a0 a1 : V) (m : M) : evFn Tryz.prog G.tab G.rds (drOf Tryz.prog G.tab) Tryz.f100 [a0, a1] m = Qj7 G a0 a1 m :=
  evFn_of (r := fun ρ m => Qj7 G (ρ 0) (ρ 1) m) rfl rfl (fun ρ m => by kernel_rfl) m
def Q1eu : Entry Tryz.prog := ⟨Qip, Tryz.f100, Tryz.func100, by kernel_rfl, arg2 (fun G a0 a1 m => Qj7 G a0 a1 m), okarg2 Q1et⟩
def Qub (G : Gt) (p5 : V) (m : M) : R :=
  some (p5, m)
def Qhc (G : Gt) (k0 : V → V → V → V → M → R) (p23 p22 p0 p5 : V) (m : M) : R :=
  bp (pur (bin .add true true .int p23 (.int .i64 1)) m) fun x0 m =>
  k0 x0 p22 p0 p5 m
def Quc (G : Gt) (k0 : V → V → V → V → M → R) (p23 p0 p5 p22 : V) (m : M) : R :=
  bp (pur (aNilCheck p0) m) fun x1 m =>
  bp (pur (aFieldAddr 1 x1) m) fun x2 m =>
  bp (pur (aFieldAddr 1 x2) m) fun x3 m =>
  bp (pur (aLoad false 1 x3 m) m) fun x4 m =>
  bp (pur (bin .add true true .int x4 (.int .i64 1)) m) fun x5 m =>
  bp (pur (aNilCheck p0) m) fun x6 m =>
  bp (pur (aFieldAddr 1 x6) m) fun x7 m =>
  bp (pur (aFieldAddr 1 x7) m) fun x8 m =>
  bp (unt (aStore 1 x8 x5 m)) fun _ m =>
  bp (pur (aIndexStr p5 p23) m) fun x9 m =>
  bp (pur (bin .eql true true .int x9 (.int .u8 10)) m) fun x10 m =>
  brb x10
  (bp (pur (aNilCheck p0) m) fun x11 m =>
  bp (pur (aFieldAddr 1 x11) m) fun x12 m =>
  bp (pur (aFieldAddr 0 x12) m) fun x13 m =>
  bp (pur (aLoad false 1 x13 m) m) fun x14 m =>
  bp (pur (bin .add true true .int x14 (.int .i64 1)) m) fun x15 m =>
  bp (pur (aBuild Q5 [(0, 1), (1, 1)] [(0, x15), (1, (.int .i64 1))]) m) fun x16 m =>
  bp (pur (aNilCheck p0) m) fun x17 m =>
  bp (pur (aFieldAddr 1 x17) m) fun x18 m =>
  bp (unt (aStore 2 x18 x16 m)) fun _ m =>
  Qhc G k0 p23 p22 p0 p5 m)
  (Qhc G k0 p23 p22 p0 p5 m)
def Qud (G : Gt) (k0 : V → V → V → V → M → R) (p24 p23 p0 p5 p22 : V) (m : M) : R :=
  brb p24
  (Quc G k0 p23 p0 p5 p22 m)
  (Qub G p5 m)
def Q3t (G : Gt) : Nat → V → V → V → V → M → R
 | 0, _, _, _, _, _ => none
 | i + 1, p23, p22, p0, p5, m =>
  bp (pur (bin .lss false true .int p23 p22) m) fun x19 m =>
  Qud G (Q3t G i) x19 p23 p0 p5 p22 m
def Que (G : Gt) (p23 p22 p0 p5 : V) (m : M) : R :=
  Q3t G G.rds p23 p22 p0 p5 m
def Quf (G : Gt) (p1 p0 p5 : V) (m : M) : R :=
  Que G (.int .i64 0) p1 p0 p5 m
def Qug (G : Gt) (p0 p1 p5 : V) (m : M) : R :=
  bp (pur (aNilCheck p0) m) fun x20 m =>
  bp (pur (aFieldAddr 0 x20) m) fun x21 m =>
  bp (pur (aLoad false 1 x21 m) m) fun x22 m =>
  bp (pur (aSliceStr x22 (some p1) none) m) fun x23 m =>
  bp (pur (aNilCheck p0) m) fun x24 m =>
  bp (pur (aFieldAddr 0 x24) m) fun x25 m =>
  bp (unt (aStore 1 x25 x23 m)) fun _ m =>
  Quf G p1 p0 p5 m
def Quh (G : Gt) (p0 p1 : V) (m : M) : R :=
  bp (pur (aNilCheck p0) m) fun x26 m =>
  bp (pur (aFieldAddr 0 x26) m) fun x27 m =>
  bp (pur (aLoad false 1 x27 m) m) fun x28 m =>
  bp (pur (aSliceStr x28 none (some p1)) m) fun x29 m =>
  Qug G p0 p1 x29 m
def Qla (G : Gt) (p0 p1 : V) (m : M) : R :=
  Quh G p0 p1 m
theorem Q1fv (G : Gt) (a0 a1 : V) (m : M) : evFn Tryz.prog G.tab G.rds (drOf Tryz.prog G.tab) Tryz.f101 [a0, a1] m = Qla G a0 a1 m :=
  evFn_of (r := fun ρ m => Qla G (ρ 0) (ρ 1) m) rfl rfl (tr (seqQ (f := fun ρ m => Quh G (ρ 0) (ρ 1) m) (tr (seqQ (f := fun ρ m => Qug G (ρ 0) (ρ 1) (ρ 5) m) (tr (seqQ (f := fun ρ m => Quf G (ρ 1) (ρ 0) (ρ 5) m) (tr (tr (seqQ (f := fun ρ m => Qub G (ρ 5) m) (fun ρ m => by kernel_rfl)) (seqQ (f := fun ρ m => Que G (ρ 23) (ρ 22) (ρ 0) (ρ 5) m) (tr (blockQ (loopQ (fun i ρ m => Q3t G i (ρ 23) (ρ 22) (ρ 0) (ρ 5) m) (fun _ _ => rfl) (fun i0 => tr (seqQ (f := fun ρ m => Qud G (Q3t G i0) (ρ 24) (ρ 23) (ρ 0) (ρ 5) (ρ 22) m) (tr (seqQ (f := fun ρ m => Quc G (Q3t G i0) (ρ 23) (ρ 0) (ρ 5) (ρ 22) m) (tr (seqQ (f := fun ρ m => Qhc G (Q3t G i0) (ρ 23) (ρ 22) (ρ 0) (ρ 5) m) (fun ρ m => by kernel_rfl)) (fun ρ m => by kernel_rfl))) (fun ρ m => by kernel_rfl))) (fun ρ m => by kernel_rfl)))) (fun ρ m => by kernel_rfl)))) (fun ρ m => by kernel_rfl))) (fun ρ m => by kernel_rfl))) (fun ρ m => by kernel_rfl))) (fun ρ m => by kernel_rfl)) m
def Q1fw : Entry Tryz.prog := ⟨Q3m, Tryz.f101, Tryz.func101, by kernel_rfl, arg2 (fun G a0 a1 m => Qla G a0 a1 m), okarg2 Q1fv⟩
def Qsa (G : Gt) (p5 : V) (m : M) : R :=
  some (p5, m)
def Qeq (G : Gt) (k0 : V → V → V → M → R) (p18 p5 p0 p1 : V) (m : M) : R :=
  brb p18
  (bp (pur (bin .add true true .int p5 (.int .i64 1)) m) fun x0 m =>
  k0 x0 p0 p1 m)
  (Qsa G p5 m)
def Q5b (G : Gt) : Nat → V → V → V → M → R
 | 0, _, _, _, _ => none
 | i + 1, p5, p0, p1, m =>
  bp (pur (aNilCheck p0) m) fun x1 m =>
  bp (pur (aFieldAddr 0 x1) m) fun x2 m =>
  bp (pur (aLoad false 1 x2 m) m) fun x3 m =>
  bp (pur (lenK 0 x3 m) m) fun x4 m =>
  bp (pur (bin .lss false true .int p5 x4) m) fun x5 m =>
  brb x5
  (bp (evCall G.tab p1 [p5] m) fun x6 m =>
  bp (pur (un .not x6) m) fun x7 m =>
  Qeq G (Q5b G i) x7 p5 p0 p1 m)
  (Qeq G (Q5b G i) (.bool false) p5 p0 p1 m)
def Qsb (G : Gt) (p5 p0 p1 : V) (m : M) : R :=
  Q5b G G.rds p5 p0 p1 m
def Qsc (G : Gt) (p0 p1 : V) (m : M) : R :=
  Qsb G (.int .i64 0) p0 p1 m
def Qj8 (G : Gt) (p0 p1 : V) (m : M) : R :=
  Qsc G p0 p1 m
theorem Q1ev (G : Gt) (a0 a1 : V) (m : M) : evFn Tryz.prog G.tab G.rds (drOf Tryz.prog G.tab) Tryz.f102 [a0, a1] m = Qj8 G a0 a1 m :=
  evFn_of (r := fun ρ m => Qj8 G (ρ 0) (ρ 1) m) rfl rfl (tr (seqQ (f := fun ρ m => Qsc G (ρ 0) (ρ 1) m) (tr (seqQ (f := fun ρ m => Qsb G (ρ 5) (ρ 0) (ρ 1) m) (tr (tr (seqQ (f := fun ρ m => Qsa G (ρ 5) m) (fun ρ m => by kernel_rfl)) (blockQ (loopQ (fun i ρ m => Q5b G i (ρ 5) (ρ 0) (ρ 1) m) (fun _ _ => rfl) (fun i0 => tr (tr seqD (seqQ (f := fun ρ m => Qeq G (Q5b G i0) (ρ 18) (ρ 5) (ρ 0) (ρ 1) m) (fun ρ m => by kernel_rfl))) (fun ρ m => by kernel_rfl))))) (fun ρ m => by kernel_rfl))) (fun ρ m => by kernel_rfl))) (fun ρ m => by kernel_rfl)) m
def Q1ew : Entry Tryz.prog := ⟨Qio, Tryz.f102, Tryz.func102, by kernel_rfl, arg2 (fun G a0 a1 m => Qj8 G a0 a1 m), okarg2 Q1ev⟩
def Qj9 (G : Gt) (p0 p1 : V) (m : M) : R :=
  bp (G.tab Q1i [p0, p1] m) fun x0 m =>
  some (x0, m)
theorem Q1ex (G : Gt) (a0 a1 : V) (m : M) : evFn Tryz.prog G.tab G.rds (drOf Tryz.prog G.tab) Tryz.f104 [a0, a1] m = Qj9 G a0 a1 m :=
  evFn_of (r := fun ρ m => Qj9 G (ρ 0) (ρ 1) m) rfl rfl (fun ρ m => by kernel_rfl) m
def Q1ey : Entry Tryz.prog := ⟨Q2c, Tryz.f104, Tryz.func104, by kernel_rfl, arg2 (fun G a0 a1 m => Qj9 G a0 a1 m), okarg2 Q1ex⟩
def Qui (G : Gt) (p0 p1 : V) (m : M) : R :=
  bp (G.tab Q6y [p0, p1] m) fun x0 m =>
  some (x0, m)
theorem Q1iz (G : Gt) (a0 a1 : V) (m : M) : evFn Tryz.prog G.tab G.rds (drOf Tryz.prog G.tab) Tryz.f105 [a0, a1] m = Qui G a0 a1 m :=
  evFn_of (r := fun ρ m => Qui G (ρ 0) (ρ 1) m) rfl rfl (fun ρ m => by kernel_rfl) m
def Q1j0 : Entry Tryz.prog := ⟨Qje, Tryz.f105, Tryz.func105, by kernel_rfl, arg2 (fun G a0 a1 m => Qui G a0 a1 m), okarg2 Q1iz⟩
end
end Go.Ab.Sh

set_option linter.unusedVariables false
set_option maxRecDepth 100000
namespace Go.Ab.Sh
open Go Go.Ab Go.Proofs
noncomputable section
def Quj (G : Gt) (m : M) : R :=
  some ((.int .i64 (-1)), m)
def Qhd (G : Gt) : Nat → V → V → M → R
 | 0, _, _, _ => none
 | i + 1, p45, p1, m =>
  bp (aNextStr p45 m) fun x0 m =>
  bp (pur (aExtract x0 0) m) fun x1 m =>
  brb x1
  (bp (pur (aExtract x0 1) m) fun x2 m =>
  bp (pur (aExtract x0 2) m) fun x3 m =>
  bp (G.tab Q6n [p1, x3] m) fun x4 m =>
  bp (pur (bin .geq true true .int x4 (.int .i64 0)) m) fun x5 m =>
  brb x5
  (some (x2, m))
  ((Qhd G i) p45 p1 m))
  (Quj G m)
def Quk (G : Gt) (p45 p1 : V) (m : M) : R :=
  Qhd G G.rds p45 p1 m
def Qhe (G : Gt) (p0 p1 : V) (m : M) : R :=
  bp (aRangeStr p0 m) fun x6 m =>
  Quk G x6 p1 m
def Qsd (G : Gt) (m : M) : R :=
  some ((.int .i64 (-1)), m)
def Qer (G : Gt) : Nat → V → V → V → M → R
 | 0, _, _, _, _ => none
 | i + 1, p8, p0, p6, m =>
  bp (pur (lenK 0 p0 m) m) fun x7 m =>
  bp (pur (bin .lss false true .int p8 x7) m) fun x8 m =>
  brb x8
  (bp (pur (aIndexStr p0 p8) m) fun x9 m =>
  bp (G.tab Q3r [p6, x9] m) fun x10 m =>
  brb x10
  (some (p8, m))
  (bp (pur (bin .add true true .int p8 (.int .i64 1)) m) fun x11 m =>
  (Qer G i) x11 p0 p6 m))
  (Qsd G m)
def Qse (G : Gt) (p8 p0 p6 : V) (m : M) : R :=
  Qer G G.rds p8 p0 p6 m
def Qul (G : Gt) (p32 p0 p6 p1 : V) (m : M) : R :=
  brb p32
  (Qse G (.int .i64 0) p0 p6 m)
  (Qhe G p0 p1 m)
def Qum (G : Gt) (p7 p0 p6 p1 : V) (m : M) : R :=
  Qul G p7 p0 p6 p1 m
def Qun (G : Gt) (p26 p1 p0 : V) (m : M) : R :=
  brb p26
  (bp (G.tab Qcj [p1] m) fun x12 m =>
  bp (pur (aExtract x12 0) m) fun x13 m =>
  bp (pur (aExtract x12 1) m) fun x14 m =>
  bp (some (aNew Qkn Qko m)) fun x15 m =>
  bp (unt (aStore 256 x15 x13 m)) fun _ m =>
  Qum G x14 p0 x15 p1 m)
  (Qhe G p0 p1 m)
def Quo (G : Gt) (p0 p1 : V) (m : M) : R :=
  bp (pur (lenK 0 p0 m) m) fun x16 m =>
  bp (G.tab Qg9 [x16] m) fun x17 m =>
  Qun G x17 p1 p0 m
def Qes (G : Gt) (p0 p5 : V) (m : M) : R :=
  bp (G.tab Q6n [p0, p5] m) fun x18 m =>
  some (x18, m)
def Qsf (G : Gt) (p5 p0 : V) (m : M) : R :=
  bp (pur (bin .geq true true .int p5 (.int .i32 128)) m) fun x19 m =>
  brb x19
  (Qes G p0 (.int .i32 65533) m)
  (Qes G p0 p5 m)
def Qsg (G : Gt) (p15 p1 p0 : V) (m : M) : R :=
  brb p15
  (bp (pur (aIndexStr p1 (.int .i64 0)) m) fun x20 m =>
  bp (conv (.int .i32) x20 m) fun x21 m =>
  Qsf G x21 p0 m)
  (Quo G p0 p1 m)
def Qup (G : Gt) (p1 p0 : V) (m : M) : R :=
  bp (pur (lenK 0 p1 m) m) fun x22 m =>
  bp (pur (bin .eql true true .int x22 (.int .i64 1)) m) fun x23 m =>
  Qsg G x23 p1 p0 m
def Quq (G : Gt) (p1 p0 : V) (m : M) : R :=
  bp (pur (bin .eql true true .str p1 (.string ⟨#[]⟩)) m) fun x24 m =>
  brb x24
  (some ((.int .i64 (-1)), m))
  (Qup G p1 p0 m)
def Qlb (G : Gt) (p1 p0 : V) (m : M) : R :=
  Quq G p1 p0 m
theorem Q1fx (G : Gt) (a0 a1 : V) (m : M) : evFn Tryz.prog G.tab G.rds (drOf Tryz.prog G.tab) Tryz.f106 [a0, a1] m = Qlb G a1 a0 m :=
  evFn_of (r := fun ρ m => Qlb G (ρ 1) (ρ 0) m) rfl rfl (tr (seqQ (f := fun ρ m => Quq G (ρ 1) (ρ 0) m) (tr (seqQ (f := fun ρ m => Qup G (ρ 1) (ρ 0) m) (tr (tr (seqQ (f := fun ρ m => Quo G (ρ 0) (ρ 1) m) (tr (tr (seqQ (f := fun ρ m => Qhe G (ρ 0) (ρ 1) m) (tr (tr (seqQ (f := fun ρ m => Quj G m) (fun ρ m => by kernel_rfl)) (seqQ (f := fun ρ m => Quk G (ρ 45) (ρ 1) m) (tr (blockQ (loopQ (fun i ρ m => Qhd G i (ρ 45) (ρ 1) m) (fun _ _ => rfl) (fun i0 => fun ρ m => by kernel_rfl))) (fun ρ m => by kernel_rfl)))) (fun ρ m => by kernel_rfl))) (seqQ (f := fun ρ m => Qun G (ρ 26) (ρ 1) (ρ 0) m) (tr (condQ (seqQ (f := fun ρ m => Qum G (ρ 7) (ρ 0) (ρ 6) (ρ 1) m) (tr (seqQ (f := fun ρ m => Qul G (ρ 32) (ρ 0) (ρ 6) (ρ 1) m) (tr (condQ (tr (seqQ (f := fun ρ m => Qsd G m) (fun ρ m => by kernel_rfl)) (seqQ (f := fun ρ m => Qse G (ρ 8) (ρ 0) (ρ 6) m) (tr (blockQ (loopQ (fun i ρ m => Qer G i (ρ 8) (ρ 0) (ρ 6) m) (fun _ _ => rfl) (fun i0 => fun ρ m => by kernel_rfl))) (fun ρ m => by kernel_rfl)))) (refQ)) (fun ρ m => by kernel_rfl))) (fun ρ m => by kernel_rfl))) (refQ)) (fun ρ m => by kernel_rfl)))) (fun ρ m => by kernel_rfl))) (seqQ (f := fun ρ m => Qsg G (ρ 15) (ρ 1) (ρ 0) m) (tr (condQ (seqQ (f := fun ρ m => Qsf G (ρ 5) (ρ 0) m) (tr (seqQ (f := fun ρ m => Qes G (ρ 0) (ρ 5) m) (fun ρ m => by kernel_rfl)) (fun ρ m => by kernel_rfl))) (refQ)) (fun ρ m => by kernel_rfl)))) (fun ρ m => by kernel_rfl))) (fun ρ m => by kernel_rfl))) (fun ρ m => by kernel_rfl)) m
def Q1fy : Entry Tryz.prog := ⟨Qkf, Tryz.f106, Tryz.func106, by kernel_rfl, arg2 (fun G a0 a1 m => Qlb G a1 a0 m), okarg2 Q1fx⟩
def Qhf (G : Gt) (p4 : V) (m : M) : R :=
  some (p4, m)
def Qur (G : Gt) (p0 p1 : V) (m : M) : R :=
  bp (pur (aNilCheck p0) m) fun x0 m =>
  bp (pur (aFieldAddr 0 x0) m) fun x1 m =>
  bp (pur (aLoad false 1 x1 m) m) fun x2 m =>
  bp (pur (aIndexStr x2 p1) m) fun x3 m =>
  bp (G.tab Qip [(.string ⟨#[32,10,123,125,59,91,93,34,35]⟩), x3] m) fun x4 m =>
  bp (pur (bin .geq true true .int x4 (.int .i64 0)) m) fun x5 m =>
  brb x5
  (Qhf G (.bool true) m)
  (bp (pur (aNilCheck p0) m) fun x6 m =>
  bp (pur (aFieldAddr 0 x6) m) fun x7 m =>
  bp (pur (aLoad false 1 x7 m) m) fun x8 m =>
  bp (pur (aSliceStr x8 (some p1) none) m) fun x9 m =>
  bp (G.tab Q2c [x9, (.string ⟨#[47,42]⟩)] m) fun x10 m =>
  Qhf G x10 m)
def Qlc (G : Gt) (p0 p1 : V) (m : M) : R :=
  Qur G p0 p1 m
theorem Q1fz (G : Gt) (a0 a1 : V) (m : M) : evFn Tryz.prog G.tab G.rds (drOf Tryz.prog G.tab) Tryz.f107 [a0, a1] m = Qlc G a0 a1 m :=
  evFn_of (r := fun ρ m => Qlc G (ρ 0) (ρ 1) m) rfl rfl (tr (seqQ (f := fun ρ m => Qur G (ρ 0) (ρ 1) m) (tr (seqQ (f := fun ρ m => Qhf G (ρ 4) m) (fun ρ m => by kernel_rfl)) (fun ρ m => by kernel_rfl))) (fun ρ m => by kernel_rfl)) m
def Q1g0 : Entry Tryz.prog := ⟨Qy7, Tryz.f107, Tryz.func107, by kernel_rfl, arg2 (fun G a0 a1 m => Qlc G a0 a1 m), okarg2 Q1fz⟩
def Qpj (G : Gt) (p2 : V) (m : M) : R :=
  bp (pur (aLoad true 4 p2 m) m) fun x0 m =>
  bp (unt (aStore 4 p2 x0 m)) fun _ m =>
  ob (ob (aLoad true 4 p2 m) fun v => ob (some []) fun l => some (v :: l)) fun l => some (resVal l, m)
def Qcr (G : Gt) : Nat → V → V → M → R
 | 0, _, _, _ => none
 | i + 1, p0, p2, m =>
  bp (G.tab Q1c [p0] m) fun x1 m =>
  bp (pur (bin .eql true true .int x1 (.int .u8 1)) m) fun x2 m =>
  brb x2
  (bp (G.tab Q3n [p0] m) fun x3 m =>
  bp (some (aNew Q7d Q7c m)) fun x4 m =>
  bp (unt (aStore 4 x4 x3 m)) fun _ m =>
  bp (pur (aFieldAddr 0 p2) m) fun x5 m =>
  bp (pur (aLoad false 1 x5 m) m) fun x6 m =>
  bp (pur (aFieldAddr 1 x4) m) fun x7 m =>
  bp (pur (aLoad false 1 x7 m) m) fun x8 m =>
  bp (aBuildSlice Q1 [(.string ⟨#[]⟩)] 1 1 [(0, x8)] m) fun x9 m =>
  bp (pur (aFieldAddr 1 p2) m) fun x10 m =>
  bp (pur (aLoad false 1 x10 m) m) fun x11 m =>
  bp (pur (aFieldAddr 2 x4) m) fun x12 m =>
  bp (pur (aLoad true 2 x12 m) m) fun x13 m =>
  bp (aBuildSlice Q9 Q5 2 1 [(0, x13)] m) fun x14 m =>
  bp (apS Q1 1 16 x6 x9 m) fun x15 m =>
  ckB (again (pur (aLoad false 1 x10 m) m) x11 && (again (pur (aLoad true 2 x12 m) m) x13 && true))
  (bp (pur (aFieldAddr 0 p2) m) fun x16 m =>
  bp (apS Q9 2 16 x11 x14 m) fun x17 m =>
  bp (unt (aStore 1 x16 x15 m)) fun _ m =>
  bp (pur (aFieldAddr 1 p2) m) fun x18 m =>
  bp (unt (aStore 1 x18 x17 m)) fun _ m =>
  (Qcr G i) p0 p2 m))
  (Qpj G p2 m)
def Qpk (G : Gt) (p0 p2 : V) (m : M) : R :=
  Qcr G G.rds p0 p2 m
def Qhg (G : Gt) (p0 : V) (m : M) : R :=
  bp (some (aNew Q2 Q4 m)) fun x19 m =>
  Qpk G p0 x19 m
theorem Q1co (G : Gt) (a0 : V) (m : M) : evFn Tryz.prog G.tab G.rds (drOf Tryz.prog G.tab) Tryz.f108 [a0] m = Qhg G a0 m :=
  evFn_of (r := fun ρ m => Qhg G (ρ 0) m) rfl rfl (tr (seqQ (f := fun ρ m => Qpk G (ρ 0) (ρ 2) m) (tr (tr (seqQ (f := fun ρ m => Qpj G (ρ 2) m) (fun ρ m => by kernel_rfl)) (blockQ (loopQ (fun i ρ m => Qcr G i (ρ 0) (ρ 2) m) (fun _ _ => rfl) (fun i0 => fun ρ m => by kernel_rfl)))) (fun ρ m => by kernel_rfl))) (fun ρ m => by kernel_rfl)) m
def Q1cp : Entry Tryz.prog := ⟨Qh0, Tryz.f108, Tryz.func108, by kernel_rfl, arg1 (fun G a0 m => Qhg G a0 m), okarg1 Q1co⟩
def Q5n (G : Gt) (p0 : V) (m : M) : R :=
  bp (pur (bin .eql true true .slice p0 (.slice none 0 0)) m) fun x0 m =>
  brb x0
  (some ((.slice none 0 0), m))
  (bp (aBuildSlice Q1 [(.string ⟨#[]⟩)] 1 0 [] m) fun x1 m =>
  bp (apS Q1 1 16 x1 p0 m) fun x2 m =>
  some (x2, m))
theorem Qso (G : Gt) (a0 : V) (m : M) : evFn Tryz.prog G.tab G.rds (drOf Tryz.prog G.tab) Tryz.f109 [a0] m = Q5n G a0 m :=
  evFn_of (r := fun ρ m => Q5n G (ρ 0) m) rfl rfl (fun ρ m => by kernel_rfl) m
def Qsp : Entry Tryz.prog := ⟨Q5g, Tryz.f109, Tryz.func109, by kernel_rfl, arg1 (fun G a0 m => Q5n G a0 m), okarg1 Qso⟩
def Q4p (G : Gt) (p0 : V) (m : M) : R :=
  bp (pur (bin .eql true true .slice p0 (.slice none 0 0)) m) fun x0 m =>
  brb x0
  (some ((.slice none 0 0), m))
  (bp (aBuildSlice Q9 Q5 2 0 [] m) fun x1 m =>
  bp (apS Q9 2 16 x1 p0 m) fun x2 m =>
  some (x2, m))
theorem Qpl (G : Gt) (a0 : V) (m : M) : evFn Tryz.prog G.tab G.rds (drOf Tryz.prog G.tab) Tryz.f110 [a0] m = Q4p G a0 m :=
  evFn_of (r := fun ρ m => Q4p G (ρ 0) m) rfl rfl (fun ρ m => by kernel_rfl) m
def Qpm : Entry Tryz.prog := ⟨Q4g, Tryz.f110, Tryz.func110, by kernel_rfl, arg1 (fun G a0 m => Q4p G a0 m), okarg1 Qpl⟩
def Q22 (G : Gt) (p0 p1 : V) (m : M) : R :=
  bp (G.tab Q2o [p0, p1] m) fun x0 m =>
  bp (pur (bin .geq true true .int x0 (.int .i64 0)) m) fun x1 m =>
  some (x1, m)
theorem Qcs (G : Gt) (a0 a1 : V) (m : M) : evFn Tryz.prog G.tab G.rds (drOf Tryz.prog G.tab) Tryz.f111 [a0, a1] m = Q22 G a0 a1 m :=
  evFn_of (r := fun ρ m => Q22 G (ρ 0) (ρ 1) m) rfl rfl (fun ρ m => by kernel_rfl) m
def Qct : Entry Tryz.prog := ⟨Q4i, Tryz.f111, Tryz.func111, by kernel_rfl, arg2 (fun G a0 a1 m => Q22 G a0 a1 m), okarg2 Qcs⟩
def Qzu (G : Gt) (p0 p1 : V) (m : M) : R :=
  bp (some (aNew Q2 (Value.cells p0).toList m)) fun x0 m =>
  bp (pur (aLoad true 4 x0 m) m) fun x1 m =>
  bp (pur (aLoad true 4 p1 m) m) fun x2 m =>
  bp (G.tab Q19n [x1, x2] m) fun x3 m =>
  some (x3, m)
theorem Q1li (G : Gt) (a0 a1 : V) (m : M) : evFn Tryz.prog G.tab G.rds (drOf Tryz.prog G.tab) Tryz.f112 [a0, a1] m = Qzu G a0 a1 m :=
  evFn_of (r := fun ρ m => Qzu G (ρ 0) (ρ 1) m) rfl rfl (fun ρ m => by kernel_rfl) m
def Q1lj : Entry Tryz.prog := ⟨Q1dc, Tryz.f112, Tryz.func112, by kernel_rfl, arg2 (fun G a0 a1 m => Qzu G a0 a1 m), okarg2 Q1li⟩
def Qqp (G : Gt) (p4 : V) (m : M) : R :=
  some (p4, m)
def Q13n (G : Gt) (p2 p5 p3 : V) (m : M) : R :=
  bp (pur (aFieldAddr 0 p2) m) fun x0 m =>
  bp (pur (aLoad false 1 x0 m) m) fun x1 m =>
  bp (pur (lenK 1 x1 m) m) fun x2 m =>
  bp (pur (bin .eql false true .int x2 p5) m) fun x3 m =>
  brt x3
  (bp (pur (aFieldAddr 0 p2) m) fun x4 m =>
  bp (pur (aLoad false 1 x4 m) m) fun x5 m =>
  bp (pur (bin .sub true true .int p5 (.int .i64 1)) m) fun x6 m =>
  bp (pur (aMax x6 (.int .i64 1)) m) fun x7 m =>
  bp (pur (aSliceSl 1 x5 none (some x7)) m) fun x8 m =>
  bp (pur (aFieldAddr 0 p3) m) fun x9 m =>
  bp (pur (aLoad false 1 x9 m) m) fun x10 m =>
  bp (pur (bin .sub true true .int p5 (.int .i64 1)) m) fun x11 m =>
  bp (pur (aMax x11 (.int .i64 1)) m) fun x12 m =>
  bp (pur (aSliceSl 1 x10 none (some x12)) m) fun x13 m =>
  bp (G.tab Q5h [x8, x13] m) fun x14 m =>
  Qqp G x14 m)
  (Qqp G (.bool false) m)
  (none)
def Q13o (G : Gt) (p3 p2 : V) (m : M) : R :=
  bp (pur (aFieldAddr 0 p3) m) fun x15 m =>
  bp (pur (aLoad false 1 x15 m) m) fun x16 m =>
  bp (pur (lenK 1 x16 m) m) fun x17 m =>
  Q13n G p2 x17 p3 m
def Qxk (G : Gt) (p0 p1 : V) (m : M) : R :=
  bp (some (aNew Q2 (Value.cells p0).toList m)) fun x18 m =>
  bp (some (aNew Q2 (Value.cells p1).toList m)) fun x19 m =>
  Q13o G x19 x18 m
theorem Q1k5 (G : Gt) (a0 a1 : V) (m : M) : evFn Tryz.prog G.tab G.rds (drOf Tryz.prog G.tab) Tryz.f113 [a0, a1] m = Qxk G a0 a1 m :=
  evFn_of (r := fun ρ m => Qxk G (ρ 0) (ρ 1) m) rfl rfl (tr (seqQ (f := fun ρ m => Q13o G (ρ 3) (ρ 2) m) (tr (seqQ (f := fun ρ m => Q13n G (ρ 2) (ρ 5) (ρ 3) m) (tr (seqQ (f := fun ρ m => Qqp G (ρ 4) m) (fun ρ m => by kernel_rfl)) (fun ρ m => by kernel_rfl))) (fun ρ m => by kernel_rfl))) (fun ρ m => by kernel_rfl)) m
def Q1k6 : Entry Tryz.prog := ⟨Q19n, Tryz.f113, Tryz.func113, by kernel_rfl, arg2 (fun G a0 a1 m => Qxk G a0 a1 m), okarg2 Q1k5⟩
def Qzv (G : Gt) (p4 : V) (m : M) : R :=
  some (p4, m)
def Q1ds (G : Gt) (p2 p3 : V) (m : M) : R :=
  bp (pur (aFieldAddr 2 p2) m) fun x0 m =>
  bp (pur (aLoad false 1 x0 m) m) fun x1 m =>
  brb x1
  (bp (pur (aFieldAddr 0 p2) m) fun x2 m =>
  bp (pur (aLoad false 1 x2 m) m) fun x3 m =>
  bp (pur (aFieldAddr 0 p3) m) fun x4 m =>
  bp (pur (aLoad false 1 x4 m) m) fun x5 m =>
  bp (G.tab Q3d [x3, x5, (.func (.func Q1dl) #[] #[])] m) fun x6 m =>
  Qzv G x6 m)
  (Qzv G (.bool false) m)
def Q18b (G : Gt) (p0 p1 : V) (m : M) : R :=
  bp (some (aNew Q2 (Value.cells p0).toList m)) fun x7 m =>
  bp (some (aNew Q2 (Value.cells p1).toList m)) fun x8 m =>
  Q1ds G x7 x8 m
theorem Q1oh (G : Gt) (a0 a1 : V) (m : M) : evFn Tryz.prog G.tab G.rds (drOf Tryz.prog G.tab) Tryz.f114 [a0, a1] m = Q18b G a0 a1 m :=
  evFn_of (r := fun ρ m => Q18b G (ρ 0) (ρ 1) m) rfl rfl (tr (seqQ (f := fun ρ m => Q1ds G (ρ 2) (ρ 3) m) (tr (seqQ (f := fun ρ m => Qzv G (ρ 4) m) (fun ρ m => by kernel_rfl)) (fun ρ m => by kernel_rfl))) (fun ρ m => by kernel_rfl)) m
def Q1oi : Entry Tryz.prog := ⟨Q1hs, Tryz.f114, Tryz.func114, by kernel_rfl, arg2 (fun G a0 a1 m => Q18b G a0 a1 m), okarg2 Q1oh⟩
def Qap (G : Gt) (p16 p4 p0 p1 : V) (m : M) : R :=
  brb p16
  (bp (pur (aBuild Q5 [(0, 1), (1, 1)] []) m) fun x0 m =>
  bp (unt (aStore 2 p4 x0 m)) fun _ m =>
  ob (ob (aLoad true 2 p4 m) fun v => ob (some []) fun l => some (v :: l)) fun l => some (resVal l, m))
  (bp (pur (aNilCheck p0) m) fun x1 m =>
  bp (pur (aFieldAddr 0 x1) m) fun x2 m =>
  bp (pur (aFieldAddr 1 x2) m) fun x3 m =>
  bp (pur (aLoad false 1 x3 m) m) fun x4 m =>
  bp (pur (aIndexAddrSl 2 x4 p1) m) fun x5 m =>
  bp (pur (aLoad true 2 x5 m) m) fun x6 m =>
  bp (unt (aStore 2 p4 x6 m)) fun _ m =>
  ob (ob (aLoad true 2 p4 m) fun v => ob (some []) fun l => some (v :: l)) fun l => some (resVal l, m))
def Qld (G : Gt) (p1 p0 p4 : V) (m : M) : R :=
  bp (pur (bin .lss true true .int p1 (.int .i64 0)) m) fun x7 m =>
  brb x7
  (Qap G (.bool true) p4 p0 p1 m)
  (bp (pur (aNilCheck p0) m) fun x8 m =>
  bp (pur (aFieldAddr 0 x8) m) fun x9 m =>
  bp (pur (aFieldAddr 1 x9) m) fun x10 m =>
  bp (pur (aLoad false 1 x10 m) m) fun x11 m =>
  bp (pur (lenK 1 x11 m) m) fun x12 m =>
  bp (pur (bin .geq false true .int p1 x12) m) fun x13 m =>
  Qap G x13 p4 p0 p1 m)
def Qcu (G : Gt) (p1 p0 : V) (m : M) : R :=
  bp (some (aNew Q9 Q5 m)) fun x14 m =>
  Qld G p1 p0 x14 m
theorem Q18c (G : Gt) (a0 a1 : V) (m : M) : evFn Tryz.prog G.tab G.rds (drOf Tryz.prog G.tab) Tryz.f115 [a0, a1] m = Qcu G a1 a0 m :=
  evFn_of (r := fun ρ m => Qcu G (ρ 1) (ρ 0) m) rfl rfl (tr (seqQ (f := fun ρ m => Qld G (ρ 1) (ρ 0) (ρ 4) m) (tr (tr seqD (seqQ (f := fun ρ m => Qap G (ρ 16) (ρ 4) (ρ 0) (ρ 1) m) (fun ρ m => by kernel_rfl))) (fun ρ m => by kernel_rfl))) (fun ρ m => by kernel_rfl)) m
def Q18d : Entry Tryz.prog := ⟨Qcf, Tryz.f115, Tryz.func115, by kernel_rfl, arg2 (fun G a0 a1 m => Qcu G a1 a0 m), okarg2 Q18c⟩
def Qbs (G : Gt) (p3 : V) (m : M) : R :=
  some (p3, m)
def Qng (G : Gt) (p3 p0 : V) (m : M) : R :=
  bp (G.tab Q1in [p3] m) fun x0 m =>
  bp (pur (un .not x0) m) fun x1 m =>
  brb x1
  (bp (G.tab Qe [p0, (.int .i64 130)] m) fun x2 m =>
  Qbs G p3 m)
  (Qbs G p3 m)
def Qnh (G : Gt) (p0 : V) (m : M) : R :=
  bp (G.tab Qi [p0] m) fun x3 m =>
  Qng G x3 p0 m
def Qet (G : Gt) (p0 : V) (m : M) : R :=
  Qnh G p0 m
theorem Q1ao (G : Gt) (a0 : V) (m : M) : evFn Tryz.prog G.tab G.rds (drOf Tryz.prog G.tab) Tryz.f116 [a0] m = Qet G a0 m :=
  evFn_of (r := fun ρ m => Qet G (ρ 0) m) rfl rfl (tr (seqQ (f := fun ρ m => Qnh G (ρ 0) m) (tr (seqQ (f := fun ρ m => Qng G (ρ 3) (ρ 0) m) (tr (seqQ (f := fun ρ m => Qbs G (ρ 3) m) (fun ρ m => by kernel_rfl)) (fun ρ m => by kernel_rfl))) (fun ρ m => by kernel_rfl))) (fun ρ m => by kernel_rfl)) m
def Q1ap : Entry Tryz.prog := ⟨Q7, Tryz.f116, Tryz.func116, by kernel_rfl, arg1 (fun G a0 m => Qet G a0 m), okarg1 Q1ao⟩
def Qr (G : Gt) (p8 : V) (m : M) : R :=
  some (.tuple ⟨[(.bool false), p8, .nilFunc]⟩, m)
def Qle (G : Gt) (p8 p7 p1 : V) (m : M) : R :=
  bp (pur (bin .eql true true .str p8 (.string ⟨#[105,110,115,116,97,110,99,101]⟩)) m) fun x0 m =>
  brb x0
  (bp (G.tab Q7 [p1] m) fun x1 m =>
  bp (pur (aNilCheck p7) m) fun x2 m =>
  bp (pur (aFieldAddr 1 x2) m) fun x3 m =>
  bp (unt (aStore 1 x3 x1 m)) fun _ m =>
  Qr G p8 m)
  (bp (pur (bin .eql true true .str p8 (.string ⟨#[97,100,100,114,101,115,115]⟩)) m) fun x4 m =>
  brb x4
  (bp (G.tab Qmv [p1] m) fun x5 m =>
  bp (pur (aExtract x5 0) m) fun x6 m =>
  bp (pur (aExtract x5 1) m) fun x7 m =>
  bp (pur (aNilCheck p7) m) fun x8 m =>
  bp (pur (aFieldAddr 2 x8) m) fun x9 m =>
  bp (unt (aStore 1 x9 x6 m)) fun _ m =>
  bp (pur (aNilCheck p7) m) fun x10 m =>
  bp (pur (aFieldAddr 3 x10) m) fun x11 m =>
  bp (unt (aStore 1 x11 x7 m)) fun _ m =>
  Qr G p8 m)
  (bp (pur (bin .eql true true .str p8 (.string ⟨#[102,105,108,116,101,114]⟩)) m) fun x12 m =>
  brb x12
  (bp (aBuildSlice Q1 [(.string ⟨#[]⟩)] 1 2 [(0, (.string ⟨#[105,110,112,117,116]⟩)), (1, (.string ⟨#[111,117,116,112,117,116]⟩))] m) fun x13 m =>
  bp (G.tab Q8 [p1, x13] m) fun x14 m =>
  bp (pur (bin .eql true true .int x14 (.int .i64 0)) m) fun x15 m =>
  brb x15
  (bp (G.tab Q7 [p1] m) fun x16 m =>
  bp (pur (aNilCheck p7) m) fun x17 m =>
  bp (pur (aFieldAddr 5 x17) m) fun x18 m =>
  bp (unt (aStore 1 x18 x16 m)) fun _ m =>
  let x19 : V := (.string ⟨#[102,105,108,116,101,114,32,105,110,112,117,116]⟩)
  some (.tuple ⟨[(.bool false), x19, .nilFunc]⟩, m))
  (bp (G.tab Q7 [p1] m) fun x20 m =>
  bp (pur (aNilCheck p7) m) fun x21 m =>
  bp (pur (aFieldAddr 6 x21) m) fun x22 m =>
  bp (unt (aStore 1 x22 x20 m)) fun _ m =>
  Qr G p8 m))
  (bp (pur (bin .eql true true .str p8 (.string ⟨#[110,97,116]⟩)) m) fun x23 m =>
  brb x23
  (bp (pur (aBuildArr [(.int .u8 0), (.int .u8 0)] 1 [(0, (.int .u8 1)), (1, (.int .u8 2))]) m) fun x24 m =>
  bp (aBuildSlice Q1 [(.string ⟨#[]⟩)] 1 2 [(0, (.string ⟨#[105,110,115,105,100,101]⟩)), (1, (.string ⟨#[111,117,116,115,105,100,101]⟩))] m) fun x25 m =>
  bp (G.tab Q8 [p1, x25] m) fun x26 m =>
  bp (pur (aIndexArr 2 1 false x24 x26) m) fun x27 m =>
  bp (pur (aNilCheck p7) m) fun x28 m =>
  bp (pur (aFieldAddr 7 x28) m) fun x29 m =>
  bp (unt (aStore 1 x29 x27 m)) fun _ m =>
  Qr G p8 m)
  (bp (pur (bin .eql true true .str p8 (.string ⟨#[97,114,101,97]⟩)) m) fun x30 m =>
  brb x30
  (bp (G.tab Qc [p1, (.int .i64 0), (.int .i64 16777216)] m) fun x31 m =>
  bp (pur (aNilCheck p7) m) fun x32 m =>
  bp (pur (aFieldAddr 8 x32) m) fun x33 m =>
  bp (unt (aStore 1 x33 x31 m)) fun _ m =>
  Qr G p8 m)
  (bp (pur (bin .eql true true .str p8 (.string ⟨#[109,101,116,114,105,99]⟩)) m) fun x34 m =>
  brb x34
  (bp (G.tab Qc [p1, (.int .i64 1), (.int .i64 65535)] m) fun x35 m =>
  bp (pur (aNilCheck p7) m) fun x36 m =>
  bp (pur (aFieldAddr 9 x36) m) fun x37 m =>
  bp (unt (aStore 1 x37 x35 m)) fun _ m =>
  Qr G p8 m)
  (bp (pur (bin .eql true true .str p8 (.string ⟨#[112,97,115,115,105,118,101]⟩)) m) fun x38 m =>
  brb x38
  (bp (pur (aNilCheck p7) m) fun x39 m =>
  bp (pur (aFieldAddr 10 x39) m) fun x40 m =>
  bp (unt (aStore 1 x40 (.bool true) m)) fun _ m =>
  Qr G p8 m)
  (bp (pur (bin .eql true true .str p8 (.string ⟨#[100,105,115,97,98,108,101]⟩)) m) fun x41 m =>
  brb x41
  (bp (pur (aNilCheck p7) m) fun x42 m =>
  bp (pur (aFieldAddr 4 x42) m) fun x43 m =>
  bp (unt (aStore 1 x43 (.bool true) m)) fun _ m =>
  Qr G p8 m)
  (bp (G.tab Qe [p1, (.int .i64 130)] m) fun x44 m =>
  Qr G p8 m))))))))
def Qlf (G : Gt) (p1 p7 : V) (m : M) : R :=
  bp (G.tab Qi [p1] m) fun x45 m =>
  Qle G x45 p7 p1 m
def Qlg (G : Gt) (p0 p1 : V) (m : M) : R :=
  bp (pur (aNilCheck p0) m) fun x46 m =>
  bp (pur (aFieldAddr 0 x46) m) fun x47 m =>
  bp (pur (aFieldAddr 3 x47) m) fun x48 m =>
  bp (pur (aLoad false 1 x48 m) m) fun x49 m =>
  bp (pur (aNilCheck p0) m) fun x50 m =>
  bp (pur (aFieldAddr 0 x50) m) fun x51 m =>
  bp (pur (aFieldAddr 3 x51) m) fun x52 m =>
  bp (pur (aLoad false 1 x52 m) m) fun x53 m =>
  bp (pur (lenK 1 x53 m) m) fun x54 m =>
  bp (pur (bin .sub true true .int x54 (.int .i64 1)) m) fun x55 m =>
  bp (pur (aIndexAddrSl 11 x49 x55) m) fun x56 m =>
  Qlf G p1 x56 m
def Qcv (G : Gt) (p0 p1 : V) (m : M) : R :=
  Qlg G p0 p1 m
theorem Q18e (G : Gt) (a0 a1 : V) (m : M) : evFn Tryz.prog G.tab G.rds (drOf Tryz.prog G.tab) Tryz.f117 [a0, a1] m = Qcv G a0 a1 m :=
  evFn_of (r := fun ρ m => Qcv G (ρ 0) (ρ 1) m) rfl rfl (tr (seqQ (f := fun ρ m => Qlg G (ρ 0) (ρ 1) m) (tr (seqQ (f := fun ρ m => Qlf G (ρ 1) (ρ 7) m) (tr (seqQ (f := fun ρ m => Qle G (ρ 8) (ρ 7) (ρ 1) m) (tr (seqQ (f := fun ρ m => Qr G (ρ 8) m) (fun ρ m => by kernel_rfl)) (fun ρ m => by kernel_rfl))) (fun ρ m => by kernel_rfl))) (fun ρ m => by kernel_rfl))) (fun ρ m => by kernel_rfl)) m
def Q18f : Entry Tryz.prog := ⟨Qp6, Tryz.f117, Tryz.func117, by kernel_rfl, arg2 (fun G a0 a1 m => Qcv G a0 a1 m), okarg2 Q18e⟩
end
end Go.Ab.Sh
