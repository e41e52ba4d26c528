/-
  Functions of the program as plain definitions, each with the theorem that it is what the evaluator makes of the code. No conditions.
-/
import Derived.Test.YtchdjkidnjfcjaaGreatDoorAb5
import Derived.Test.YtchdjkidnjfcjaaGreatDoorZ
import Derived.KernelRfl
import Derived.Test.YtchdjkidnjfcjaaGreatDoorProg
set_option linter.unusedVariables false
set_option maxRecDepth 100000
namespace Go.Ab.Sh
open Go Go.Ab Go.Proofs
noncomputable section
def Qlo (G : Gt) (p6 : V) (m : M) : R :=
  some (p6, m)
def Qyt (G : Gt) (p8 p9 p3 p7 : V) (m : M) : R :=
  brb p9
  (bp (pur (aFieldAddr 0 p3) m) fun x0 m =>
  bp (pur (aLoad false 1 x0 m) m) fun x1 m =>
  bp (pur (aFieldAddr 0 p7) m) fun x2 m =>
  bp (pur (aLoad false 1 x2 m) m) fun x3 m =>
  bp (G.tab Q1k [x1, x3] m) fun x4 m =>
  bp (G.tab Qf [p8, x4] m) fun x5 m =>
  Qlo G x5 m)
  (bp (G.tab Qf [p8, (.bool false)] m) fun x6 m =>
  Qlo G x6 m)
def Qb8 (G : Gt) (k0 : V → V → V → V → V → V → V → V → M → R) (p83 p82 p81 p12 p8 p9 p3 p7 : V) (m : M) : R :=
  bp (pur (bin .add true true .int p83 (.int .i64 1)) m) fun x7 m =>
  k0 x7 p82 p81 p12 p8 p9 p3 p7 m
def Q6u (G : Gt) (k0 : V → V → V → V → V → V → V → V → M → R) (p9 p3 p14 p83 p82 p81 p12 p8 p7 : V) (m : M) : R :=
  brb p9
  (bp (pur (aFieldAddr 4 p3) m) fun x8 m =>
  bp (pur (aLoad false 1 x8 m) m) fun x9 m =>
  bp (pur (aFieldAddr 2 p14) m) fun x10 m =>
  bp (pur (aLoad false 1 x10 m) m) fun x11 m =>
  bp (G.tab Q1k [x9, x11] m) fun x12 m =>
  brb x12
  (bp (pur (aFieldAddr 4 p3) m) fun x13 m =>
  bp (pur (aLoad false 1 x13 m) m) fun x14 m =>
  bp (pur (aFieldAddr 3 p14) m) fun x15 m =>
  bp (pur (aLoad false 1 x15 m) m) fun x16 m =>
  bp (G.tab Q1k [x14, x16] m) fun x17 m =>
  Qb8 G k0 p83 p82 p81 p12 p8 x17 p3 p7 m)
  (Qb8 G k0 p83 p82 p81 p12 p8 (.bool false) p3 p7 m))
  (Qb8 G k0 p83 p82 p81 p12 p8 (.bool false) p3 p7 m)
def Qwm (G : Gt) (k0 : V → V → V → V → V → V → V → V → M → R) (p8 p14 p12 p9 p3 p83 p82 p81 p7 : V) (m : M) : R :=
  brb p8
  (bp (pur (aFieldAddr 0 p14) m) fun x18 m =>
  bp (pur (aLoad false 1 x18 m) m) fun x19 m =>
  bp (pur (bin .neq true true .int x19 (.int .u32 0)) m) fun x20 m =>
  brb x20
  (bp (pur (aFieldAddr 1 p14) m) fun x21 m =>
  bp (pur (aLoad false 1 x21 m) m) fun x22 m =>
  bp (pur (bin .neq true true .int x22 (.int .u32 0)) m) fun x23 m =>
  brb x23
  (bp (pur (aFieldAddr 0 p14) m) fun x24 m =>
  bp (pur (aLoad false 1 x24 m) m) fun x25 m =>
  bp (pur (aLookup .int (.int .i64 0) false p12 x25 m) m) fun x26 m =>
  bp (pur (bin .eql true true .int x26 (.int .i64 1)) m) fun x27 m =>
  Q6u G k0 p9 p3 p14 p83 p82 p81 p12 x27 p7 m)
  (Q6u G k0 p9 p3 p14 p83 p82 p81 p12 (.bool false) p7 m))
  (Q6u G k0 p9 p3 p14 p83 p82 p81 p12 (.bool false) p7 m))
  (Q6u G k0 p9 p3 p14 p83 p82 p81 p12 (.bool false) p7 m)
def Qwn (G : Gt) (k0 : V → V → V → V → V → V → V → V → M → R) (p12 p14 p8 p9 p3 p83 p82 p81 p7 : V) (m : M) : R :=
  bp (pur (aFieldAddr 0 p14) m) fun x28 m =>
  bp (pur (aLoad false 1 x28 m) m) fun x29 m =>
  bp (pur (aLookup .int (.int .i64 0) false p12 x29 m) m) fun x30 m =>
  bp (pur (bin .add true true .int x30 (.int .i64 1)) m) fun x31 m =>
  bp (unt (aMapUpdate .int p12 x29 x31 m)) fun _ m =>
  Qwm G k0 p8 p14 p12 p9 p3 p83 p82 p81 p7 m
def Qwo (G : Gt) (k0 : V → V → V → V → V → V → V → V → M → R) (p81 p83 p12 p8 p9 p3 p82 p7 : V) (m : M) : R :=
  bp (pur (aIndexAddrSl 6 p81 p83) m) fun x32 m =>
  bp (pur (aLoad true 6 x32 m) m) fun x33 m =>
  bp (some (aNew Qt6 Qta m)) fun x34 m =>
  bp (unt (aStore 6 x34 x33 m)) fun _ m =>
  Qwn G k0 p12 x34 p8 p9 p3 p83 p82 p81 p7 m
def Qwp (G : Gt) (k0 : V → V → V → V → V → V → V → V → M → R) (p84 p81 p83 p12 p8 p9 p3 p82 p7 : V) (m : M) : R :=
  brb p84
  (Qwo G k0 p81 p83 p12 p8 p9 p3 p82 p7 m)
  (Qyt G p8 p9 p3 p7 m)
def Q1w (G : Gt) : Nat → V → V → V → V → V → V → V → V → M → R
 | 0, _, _, _, _, _, _, _, _, _ => none
 | i + 1, p83, p82, p81, p12, p8, p9, p3, p7, m =>
  bp (pur (bin .lss false true .int p83 p82) m) fun x35 m =>
  Qwp G (Q1w G i) x35 p81 p83 p12 p8 p9 p3 p82 p7 m
def Qyu (G : Gt) (p83 p82 p81 p12 p8 p9 p3 p7 : V) (m : M) : R :=
  Q1w G G.rds p83 p82 p81 p12 p8 p9 p3 p7 m
def Qyv (G : Gt) (p7 p12 p8 p9 p3 : V) (m : M) : R :=
  bp (pur (aFieldAddr 4 p7) m) fun x36 m =>
  bp (pur (aLoad false 1 x36 m) m) fun x37 m =>
  bp (pur (lenK 1 x37 m) m) fun x38 m =>
  Qyu G (.int .i64 0) x38 x37 p12 p8 p9 p3 p7 m
def Qyw (G : Gt) (p7 p8 p9 p3 : V) (m : M) : R :=
  bp (some (aMakeMap m)) fun x39 m =>
  Qyv G p7 x39 p8 p9 p3 m
def Qb9 (G : Gt) (k0 : V → V → V → V → V → V → V → M → R) (p59 p58 p57 p8 p7 p9 p3 : V) (m : M) : R :=
  bp (pur (bin .add true true .int p59 (.int .i64 1)) m) fun x40 m =>
  k0 x40 p58 p57 p8 p7 p9 p3 m
def Qwq (G : Gt) (k0 : V → V → V → V → V → V → V → M → R) (p59 p57 p8 p7 p58 p9 p3 : V) (m : M) : R :=
  bp (pur (aIndexAddrSl 2 p57 p59) m) fun x41 m =>
  bp (pur (aLoad true 2 x41 m) m) fun x42 m =>
  bp (some (aNew Q3o Q4n m)) fun x43 m =>
  bp (unt (aStore 2 x43 x42 m)) fun _ m =>
  brb p8
  (bp (pur (aLoad true 2 x43 m) m) fun x44 m =>
  bp (G.tab Qah [x44] m) fun x45 m =>
  bp (pur (bin .eql true true .int x45 (.int .i64 0)) m) fun x46 m =>
  brb x46
  (bp (pur (aFieldAddr 3 p7) m) fun x47 m =>
  bp (pur (aLoad false 1 x47 m) m) fun x48 m =>
  bp (pur (aLoad true 2 x43 m) m) fun x49 m =>
  bp (G.tab Q69 [x48, x49] m) fun x50 m =>
  bp (pur (bin .eql false true .int x50 p59) m) fun x51 m =>
  Qb9 G k0 p59 p58 p57 x51 p7 p9 p3 m)
  (Qb9 G k0 p59 p58 p57 (.bool false) p7 p9 p3 m))
  (Qb9 G k0 p59 p58 p57 (.bool false) p7 p9 p3 m)
def Qwr (G : Gt) (k0 : V → V → V → V → V → V → V → M → R) (p60 p59 p57 p8 p7 p58 p9 p3 : V) (m : M) : R :=
  brb p60
  (Qwq G k0 p59 p57 p8 p7 p58 p9 p3 m)
  (Qyw G p7 p8 p9 p3 m)
def Q4f (G : Gt) : Nat → V → V → V → V → V → V → V → M → R
 | 0, _, _, _, _, _, _, _, _ => none
 | i + 1, p59, p58, p57, p8, p7, p9, p3, m =>
  bp (pur (bin .lss false true .int p59 p58) m) fun x52 m =>
  Qwr G (Q4f G i) x52 p59 p57 p8 p7 p58 p9 p3 m
def Qws (G : Gt) (p59 p58 p57 p8 p7 p9 p3 : V) (m : M) : R :=
  Q4f G G.rds p59 p58 p57 p8 p7 p9 p3 m
def Q3q (G : Gt) (p7 p8 p9 p3 : V) (m : M) : R :=
  bp (pur (aFieldAddr 3 p7) m) fun x53 m =>
  bp (pur (aLoad false 1 x53 m) m) fun x54 m =>
  bp (pur (lenK 1 x54 m) m) fun x55 m =>
  Qws G (.int .i64 0) x55 x54 p8 p7 p9 p3 m
def Qyx (G : Gt) (p8 p7 p4 p2 p9 p3 : V) (m : M) : R :=
  brb p8
  (bp (pur (aFieldAddr 1 p7) m) fun x56 m =>
  bp (pur (aLoad false 1 x56 m) m) fun x57 m =>
  bp (pur (bin .neq true true .int x57 (.int .u32 0)) m) fun x58 m =>
  brb x58
  (bp (pur (aFieldAddr 2 p7) m) fun x59 m =>
  bp (pur (aLoad false 1 x59 m) m) fun x60 m =>
  bp (pur (bin .neq true true .int x60 (.int .u32 0)) m) fun x61 m =>
  brb x61
  (bp (pur (aFieldAddr 11 p4) m) fun x62 m =>
  bp (pur (aLoad false 1 x62 m) m) fun x63 m =>
  bp (G.tab Qp8 [x63, p2, (.func (.func Qyc) #[] #[])] m) fun x64 m =>
  brb x64
  (bp (pur (aFieldAddr 3 p7) m) fun x65 m =>
  bp (pur (aLoad false 1 x65 m) m) fun x66 m =>
  bp (pur (lenK 1 x66 m) m) fun x67 m =>
  bp (pur (bin .leq true true .int x67 (.int .i64 256)) m) fun x68 m =>
  brb x68
  (bp (pur (aFieldAddr 4 p7) m) fun x69 m =>
  bp (pur (aLoad false 1 x69 m) m) fun x70 m =>
  bp (pur (lenK 1 x70 m) m) fun x71 m =>
  bp (pur (bin .leq true true .int x71 (.int .i64 256)) m) fun x72 m =>
  Q3q G p7 x72 p9 p3 m)
  (Q3q G p7 (.bool false) p9 p3 m))
  (Q3q G p7 (.bool false) p9 p3 m))
  (Q3q G p7 (.bool false) p9 p3 m))
  (Q3q G p7 (.bool false) p9 p3 m))
  (Q3q G p7 (.bool false) p9 p3 m)
def Qyy (G : Gt) (p3 p7 p4 p2 : V) (m : M) : R :=
  bp (pur (aLoad true 5 p3 m) m) fun x73 m =>
  bp (pur (aFieldAddr 5 p7) m) fun x74 m =>
  bp (pur (aLoad false 1 x74 m) m) fun x75 m =>
  bp (G.tab Qh3 [x73, x75, (.int .u8 7), (.bool false)] m) fun x76 m =>
  bp (pur (aExtract x76 0) m) fun x77 m =>
  bp (pur (aExtract x76 1) m) fun x78 m =>
  Qyx G x77 p7 p4 p2 x78 p3 m
def Qyz (G : Gt) (p4 p2 p3 : V) (m : M) : R :=
  bp (pur (aFieldAddr 11 p4) m) fun x79 m =>
  bp (pur (aLoad false 1 x79 m) m) fun x80 m =>
  bp (pur (aIndexAddrSl 6 x80 p2) m) fun x81 m =>
  bp (pur (aLoad true 6 x81 m) m) fun x82 m =>
  bp (some (aNew Qgd Qrp m)) fun x83 m =>
  bp (unt (aStore 6 x83 x82 m)) fun _ m =>
  Qyy G p3 x83 p4 p2 m
def Qqt (G : Gt) (p0 p1 p2 : V) (m : M) : R :=
  bp (some (aNew Q7m (Value.cells p0).toList m)) fun x84 m =>
  bp (some (aNew Ql (Value.cells p1).toList m)) fun x85 m =>
  Qyz G x85 p2 x84 m
theorem Q1i9 (G : Gt) (a0 a1 a2 : V) (m : M) : evFn Tryz.prog G.tab G.rds (drOf Tryz.prog G.tab) Tryz.f162 [a0, a1, a2] m = Qqt G a0 a1 a2 m :=
  evFn_of (r := fun ρ m => Qqt G (ρ 0) (ρ 1) (ρ 2) m) rfl rfl (tr (seqQ (f := fun ρ m => Qyz G (ρ 4) (ρ 2) (ρ 3) m) (tr (seqQ (f := fun ρ m => Qyy G (ρ 3) (ρ 7) (ρ 4) (ρ 2) m) (tr (seqQ (f := fun ρ m => Qyx G (ρ 8) (ρ 7) (ρ 4) (ρ 2) (ρ 9) (ρ 3) m) (tr (seqQ (f := fun ρ m => Q3q G (ρ 7) (ρ 8) (ρ 9) (ρ 3) m) (tr (tr (seqQ (f := fun ρ m => Qyw G (ρ 7) (ρ 8) (ρ 9) (ρ 3) m) (tr (seqQ (f := fun ρ m => Qyv G (ρ 7) (ρ 12) (ρ 8) (ρ 9) (ρ 3) m) (tr (tr (seqQ (f := fun ρ m => Qyt G (ρ 8) (ρ 9) (ρ 3) (ρ 7) m) (tr (seqQ (f := fun ρ m => Qlo G (ρ 6) m) (fun ρ m => by kernel_rfl)) (fun ρ m => by kernel_rfl))) (seqQ (f := fun ρ m => Qyu G (ρ 83) (ρ 82) (ρ 81) (ρ 12) (ρ 8) (ρ 9) (ρ 3) (ρ 7) m) (tr (blockQ (loopQ (fun i ρ m => Q1w G i (ρ 83) (ρ 82) (ρ 81) (ρ 12) (ρ 8) (ρ 9) (ρ 3) (ρ 7) m) (fun _ _ => rfl) (fun i0 => tr (seqQ (f := fun ρ m => Qwp G (Q1w G i0) (ρ 84) (ρ 81) (ρ 83) (ρ 12) (ρ 8) (ρ 9) (ρ 3) (ρ 82) (ρ 7) m) (tr (seqQ (f := fun ρ m => Qwo G (Q1w G i0) (ρ 81) (ρ 83) (ρ 12) (ρ 8) (ρ 9) (ρ 3) (ρ 82) (ρ 7) m) (tr (tr (seqQ (f := fun ρ m => Qb8 G (Q1w G i0) (ρ 83) (ρ 82) (ρ 81) (ρ 12) (ρ 8) (ρ 9) (ρ 3) (ρ 7) m) (fun ρ m => by kernel_rfl)) (blockQ (seqQ (f := fun ρ m => Qwn G (Q1w G i0) (ρ 12) (ρ 14) (ρ 8) (ρ 9) (ρ 3) (ρ 83) (ρ 82) (ρ 81) (ρ 7) m) (tr (seqQ (f := fun ρ m => Qwm G (Q1w G i0) (ρ 8) (ρ 14) (ρ 12) (ρ 9) (ρ 3) (ρ 83) (ρ 82) (ρ 81) (ρ 7) m) (tr (seqQ (f := fun ρ m => Q6u G (Q1w G i0) (ρ 9) (ρ 3) (ρ 14) (ρ 83) (ρ 82) (ρ 81) (ρ 12) (ρ 8) (ρ 7) m) (fun ρ m => by kernel_rfl)) (fun ρ m => by kernel_rfl))) (fun ρ m => by kernel_rfl))))) (fun ρ m => by kernel_rfl))) (fun ρ m => by kernel_rfl))) (fun ρ m => by kernel_rfl)))) (fun ρ m => by kernel_rfl)))) (fun ρ m => by kernel_rfl))) (fun ρ m => by kernel_rfl))) (seqQ (f := fun ρ m => Qws G (ρ 59) (ρ 58) (ρ 57) (ρ 8) (ρ 7) (ρ 9) (ρ 3) m) (tr (blockQ (loopQ (fun i ρ m => Q4f G i (ρ 59) (ρ 58) (ρ 57) (ρ 8) (ρ 7) (ρ 9) (ρ 3) m) (fun _ _ => rfl) (fun i0 => tr (seqQ (f := fun ρ m => Qwr G (Q4f G i0) (ρ 60) (ρ 59) (ρ 57) (ρ 8) (ρ 7) (ρ 58) (ρ 9) (ρ 3) m) (tr (seqQ (f := fun ρ m => Qwq G (Q4f G i0) (ρ 59) (ρ 57) (ρ 8) (ρ 7) (ρ 58) (ρ 9) (ρ 3) m) (tr (seqQ (f := fun ρ m => Qb9 G (Q4f G i0) (ρ 59) (ρ 58) (ρ 57) (ρ 8) (ρ 7) (ρ 9) (ρ 3) m) (fun ρ m => by kernel_rfl)) (fun ρ m => by kernel_rfl))) (fun ρ m => by kernel_rfl))) (fun ρ m => by kernel_rfl)))) (fun ρ m => by kernel_rfl)))) (fun ρ m => by kernel_rfl))) (fun ρ m => by kernel_rfl))) (fun ρ m => by kernel_rfl))) (fun ρ m => by kernel_rfl))) (fun ρ m => by kernel_rfl)) m
def Q1ia : Entry Tryz.prog := ⟨Q12x, Tryz.f162, Tryz.func162, by kernel_rfl, arg3 (fun G a0 a1 a2 m => Qqt G a0 a1 a2 m), okarg3 Q1i9⟩
def Q13z (G : Gt) (p0 : V) (m : M) : R :=
  bp (pur (bin .shr true true .int p0 (.int .u64 16)) m) fun x0 m =>
  bp (conv (.int .i64) x0 m) fun x1 m =>
  bp (G.tab Q2j [x1] m) fun x2 m =>
  bp (pur (bin .add true true .str x2 (.string ⟨#[58]⟩)) m) fun x3 m =>
  bp (pur (bin .and true true .int p0 (.int .u32 65535)) m) fun x4 m =>
  bp (conv (.int .i64) x4 m) fun x5 m =>
  bp (G.tab Q2j [x5] m) fun x6 m =>
  bp (pur (bin .add false true .str x3 x6) m) fun x7 m =>
  some (x7, m)
theorem Q1n9 (G : Gt) (a0 : V) (m : M) : evFn Tryz.prog G.tab G.rds (drOf Tryz.prog G.tab) Tryz.f163 [a0] m = Q13z G a0 m :=
  evFn_of (r := fun ρ m => Q13z G (ρ 0) m) rfl rfl (fun ρ m => by kernel_rfl) m
def Q1na : Entry Tryz.prog := ⟨Q12y, Tryz.f163, Tryz.func163, by kernel_rfl, arg1 (fun G a0 m => Q13z G a0 m), okarg1 Q1n9⟩
def Q71 (G : Gt) (p0 : V) (m : M) : R :=
  bp (pur (aNilCheck p0) m) fun x0 m =>
  bp (pur (aFieldAddr 0 x0) m) fun x1 m =>
  bp (pur (aLoad false 1 x1 m) m) fun x2 m =>
  bp (pur (binP m .eql true true .ptr x2 (.pointer none)) m) fun x3 m =>
  brb x3
  (bp (conv (.toU 2) p0 m) fun x4 m =>
  bp (G.tab Qmy [x4] m) fun x5 m =>
  bp (conv (.fromU (liesF Tryz.prog Qo0)) x5 m) fun x6 m =>
  bp (pur (aNilCheck p0) m) fun x7 m =>
  bp (pur (aFieldAddr 0 x7) m) fun x8 m =>
  bp (unt (aStore 1 x8 x6 m)) fun _ m =>
  some (.tuple ⟨[]⟩, m))
  (bp (pur (aNilCheck p0) m) fun x9 m =>
  bp (pur (aFieldAddr 0 x9) m) fun x10 m =>
  bp (pur (aLoad false 1 x10 m) m) fun x11 m =>
  bp (pur (binP m .neq false true .ptr x11 p0) m) fun x12 m =>
  brb x12
  (none)
  (some (.tuple ⟨[]⟩, m)))
theorem Qxq (G : Gt) (a0 : V) (m : M) : evFn Tryz.prog G.tab G.rds (drOf Tryz.prog G.tab) Tryz.f165 [a0] m = Q71 G a0 m :=
  evFn_of (r := fun ρ m => Q71 G (ρ 0) m) rfl rfl (fun ρ m => by kernel_rfl) m
def Qxr : Entry Tryz.prog := ⟨Qe7, Tryz.f165, Tryz.func165, by kernel_rfl, arg1 (fun G a0 m => Q71 G a0 m), okarg1 Qxq⟩
def Qf9 (G : Gt) (p0 p1 : V) (m : M) : R :=
  bp (G.tab Qkf [p0, p1] m) fun x0 m =>
  bp (pur (bin .geq true true .int x0 (.int .i64 0)) m) fun x1 m =>
  some (x1, m)
theorem Q1ay (G : Gt) (a0 a1 : V) (m : M) : evFn Tryz.prog G.tab G.rds (drOf Tryz.prog G.tab) Tryz.f168 [a0, a1] m = Qf9 G a0 a1 m :=
  evFn_of (r := fun ρ m => Qf9 G (ρ 0) (ρ 1) m) rfl rfl (fun ρ m => by kernel_rfl) m
def Q1az : Entry Tryz.prog := ⟨Qrk, Tryz.f168, Tryz.func168, by kernel_rfl, arg2 (fun G a0 a1 m => Qf9 G a0 a1 m), okarg2 Q1ay⟩
def Quu (G : Gt) (p0 p1 : V) (m : M) : R :=
  brb (.bool false)
  (bp (conv (.int .u32) p0 m) fun x0 m =>
  bp (conv (.int .u32) p1 m) fun x1 m =>
  bp (G.tab Q1gp [x0, x1] m) fun x2 m =>
  bp (pur (aExtract x2 0) m) fun x3 m =>
  bp (pur (aExtract x2 1) m) fun x4 m =>
  bp (conv (.int .u64) x3 m) fun x5 m =>
  bp (conv (.int .u64) x4 m) fun x6 m =>
  some (.tuple ⟨[x5, x6]⟩, m))
  (bp (G.tab Q114 [p0, p1] m) fun x7 m =>
  bp (pur (aExtract x7 0) m) fun x8 m =>
  bp (pur (aExtract x7 1) m) fun x9 m =>
  some (.tuple ⟨[x8, x9]⟩, m))
theorem Q1j1 (G : Gt) (a0 a1 : V) (m : M) : evFn Tryz.prog G.tab G.rds (drOf Tryz.prog G.tab) Tryz.f169 [a0, a1] m = Quu G a0 a1 m :=
  evFn_of (r := fun ρ m => Quu G (ρ 0) (ρ 1) m) rfl rfl (fun ρ m => by kernel_rfl) m
def Q1j2 : Entry Tryz.prog := ⟨Q15r, Tryz.f169, Tryz.func169, by kernel_rfl, arg2 (fun G a0 a1 m => Quu G a0 a1 m), okarg2 Q1j1⟩
def Q2g (G : Gt) (p4 : V) (m : M) : R :=
  some (p4, m)
def Q3y (G : Gt) (p0 p1 : V) (m : M) : R :=
  bp (pur (lenK 0 p0 m) m) fun x0 m =>
  bp (pur (lenK 0 p1 m) m) fun x1 m =>
  bp (pur (bin .geq false true .int x0 x1) m) fun x2 m =>
  brb x2
  (bp (pur (lenK 0 p1 m) m) fun x3 m =>
  bp (pur (aSliceStr p0 none (some x3)) m) fun x4 m =>
  bp (pur (bin .eql false true .str x4 p1) m) fun x5 m =>
  Q2g G x5 m)
  (Q2g G (.bool false) m)
def Q1j (G : Gt) (p0 p1 : V) (m : M) : R :=
  Q3y G p0 p1 m
theorem Qqu (G : Gt) (a0 a1 : V) (m : M) : evFn Tryz.prog G.tab G.rds (drOf Tryz.prog G.tab) Tryz.f172 [a0, a1] m = Q1j G a0 a1 m :=
  evFn_of (r := fun ρ m => Q1j G (ρ 0) (ρ 1) m) rfl rfl (tr (seqQ (f := fun ρ m => Q3y G (ρ 0) (ρ 1) m) (tr (seqQ (f := fun ρ m => Q2g G (ρ 4) m) (fun ρ m => by kernel_rfl)) (fun ρ m => by kernel_rfl))) (fun ρ m => by kernel_rfl)) m
def Q2x : Entry Tryz.prog := ⟨Q1i, Tryz.f172, Tryz.func172, by kernel_rfl, arg2 (fun G a0 a1 m => Q1j G a0 a1 m), okarg2 Qqu⟩
def Q7t (G : Gt) (p0 : V) (m : M) : R :=
  bp (pur (bin .gtr true true .int p0 (.int .i64 8)) m) fun x0 m =>
  some (x0, m)
theorem Qz0 (G : Gt) (a0 : V) (m : M) : evFn Tryz.prog G.tab G.rds (drOf Tryz.prog G.tab) Tryz.f175 [a0] m = Q7t G a0 m :=
  evFn_of (r := fun ρ m => Q7t G (ρ 0) m) rfl rfl (fun ρ m => by kernel_rfl) m
def Qz1 : Entry Tryz.prog := ⟨Qg9, Tryz.f175, Tryz.func175, by kernel_rfl, arg1 (fun G a0 m => Q7t G a0 m), okarg1 Qz0⟩
def Qlp (G : Gt) (p2 : V) (m : M) : R :=
  bp (pur (aLoad true 256 p2 m) m) fun x0 m =>
  bp (unt (aStore 256 p2 x0 m)) fun _ m =>
  ob (ob (aLoad true 256 p2 m) fun v => ob (some [(.bool true)]) fun l => some (v :: l)) fun l => some (resVal l, m)
def Qat (G : Gt) : Nat → V → V → V → M → R
 | 0, _, _, _, _ => none
 | i + 1, p4, p0, p2, m =>
  bp (pur (lenK 0 p0 m) m) fun x1 m =>
  bp (pur (bin .lss false true .int p4 x1) m) fun x2 m =>
  brb x2
  (bp (pur (aIndexStr p0 p4) m) fun x3 m =>
  bp (pur (bin .geq true true .int x3 (.int .u8 128)) m) fun x4 m =>
  brb x4
  (bp (pur (aLoad true 256 p2 m) m) fun x5 m =>
  bp (unt (aStore 256 p2 x5 m)) fun _ m =>
  ob (ob (aLoad true 256 p2 m) fun v => ob (some [(.bool false)]) fun l => some (v :: l)) fun l => some (resVal l, m))
  (bp (pur (aIndexAddrArr 256 1 p2 x3) m) fun x6 m =>
  bp (unt (aStore 1 x6 (.bool true) m)) fun _ m =>
  bp (pur (bin .add true true .int p4 (.int .i64 1)) m) fun x7 m =>
  (Qat G i) x7 p0 p2 m))
  (Qlp G p2 m)
def Qlq (G : Gt) (p4 p0 p2 : V) (m : M) : R :=
  Qat G G.rds p4 p0 p2 m
def Qlr (G : Gt) (p0 p2 : V) (m : M) : R :=
  Qlq G (.int .i64 0) p0 p2 m
def Qcy (G : Gt) (p0 : V) (m : M) : R :=
  bp (some (aNew Qkn Qko m)) fun x8 m =>
  Qlr G p0 x8 m
theorem Q18i (G : Gt) (a0 : V) (m : M) : evFn Tryz.prog G.tab G.rds (drOf Tryz.prog G.tab) Tryz.f176 [a0] m = Qcy G a0 m :=
  evFn_of (r := fun ρ m => Qcy G (ρ 0) m) rfl rfl (tr (seqQ (f := fun ρ m => Qlr G (ρ 0) (ρ 2) m) (tr (tr (seqQ (f := fun ρ m => Qlp G (ρ 2) m) (fun ρ m => by kernel_rfl)) (seqQ (f := fun ρ m => Qlq G (ρ 4) (ρ 0) (ρ 2) m) (tr (blockQ (loopQ (fun i ρ m => Qat G i (ρ 4) (ρ 0) (ρ 2) m) (fun _ _ => rfl) (fun i0 => fun ρ m => by kernel_rfl))) (fun ρ m => by kernel_rfl)))) (fun ρ m => by kernel_rfl))) (fun ρ m => by kernel_rfl)) m
def Q18j : Entry Tryz.prog := ⟨Qcj, Tryz.f176, Tryz.func176, by kernel_rfl, arg1 (fun G a0 m => Qcy G a0 m), okarg1 Q18i⟩
def Q72 (G : Gt) (p0 p1 : V) (m : M) : R :=
  bp (pur (aNilCheck p0) m) fun x0 m =>
  bp (pur (aIndexAddrArr 256 1 x0 p1) m) fun x1 m =>
  bp (pur (aLoad false 1 x1 m) m) fun x2 m =>
  some (x2, m)
theorem Qxs (G : Gt) (a0 a1 : V) (m : M) : evFn Tryz.prog G.tab G.rds (drOf Tryz.prog G.tab) Tryz.f177 [a0, a1] m = Q72 G a0 a1 m :=
  evFn_of (r := fun ρ m => Q72 G (ρ 0) (ρ 1) m) rfl rfl (fun ρ m => by kernel_rfl) m
def Qxt : Entry Tryz.prog := ⟨Q3r, Tryz.f177, Tryz.func177, by kernel_rfl, arg2 (fun G a0 a1 m => Q72 G a0 a1 m), okarg2 Qxs⟩
def Q33 (G : Gt) (m : M) : R :=
  some ((.bool true), m)
def Q1a (G : Gt) : Nat → V → V → V → V → V → M → R
 | 0, _, _, _, _, _, _ => none
 | i + 1, p17, p16, p15, p1, p2, m =>
  bp (pur (bin .lss false true .int p17 p16) m) fun x0 m =>
  brb x0
  (bp (pur (aIndexAddrSl 1 p15 p17) m) fun x1 m =>
  bp (pur (aLoad false 1 x1 m) m) fun x2 m =>
  bp (pur (aIndexAddrSl 1 p1 p17) m) fun x3 m =>
  bp (pur (aLoad false 1 x3 m) m) fun x4 m =>
  bp (evCall G.tab p2 [x2, x4] m) fun x5 m =>
  bp (pur (un .not x5) m) fun x6 m =>
  brb x6
  (some ((.bool false), m))
  (bp (pur (bin .add true true .int p17 (.int .i64 1)) m) fun x7 m =>
  (Q1a G i) x7 p16 p15 p1 p2 m))
  (Q33 G m)
def Q34 (G : Gt) (p17 p16 p15 p1 p2 : V) (m : M) : R :=
  Q1a G G.rds p17 p16 p15 p1 p2 m
def Q35 (G : Gt) (p0 p1 p2 : V) (m : M) : R :=
  bp (pur (lenK 1 p0 m) m) fun x8 m =>
  Q34 G (.int .i64 0) x8 p0 p1 p2 m
def Q36 (G : Gt) (p0 p1 p2 : V) (m : M) : R :=
  bp (pur (lenK 1 p0 m) m) fun x9 m =>
  bp (pur (lenK 1 p1 m) m) fun x10 m =>
  bp (pur (bin .neq false true .int x9 x10) m) fun x11 m =>
  brb x11
  (some ((.bool false), m))
  (Q35 G p0 p1 p2 m)
def Q1g (G : Gt) (p0 p1 p2 : V) (m : M) : R :=
  Q36 G p0 p1 p2 m
theorem Q91 (G : Gt) (a0 a1 a2 : V) (m : M) : evFn Tryz.prog G.tab G.rds (drOf Tryz.prog G.tab) Tryz.f178 [a0, a1, a2] m = Q1g G a0 a1 a2 m :=
  evFn_of (r := fun ρ m => Q1g G (ρ 0) (ρ 1) (ρ 2) m) rfl rfl (tr (seqQ (f := fun ρ m => Q36 G (ρ 0) (ρ 1) (ρ 2) m) (tr (seqQ (f := fun ρ m => Q35 G (ρ 0) (ρ 1) (ρ 2) m) (tr (tr (seqQ (f := fun ρ m => Q33 G m) (fun ρ m => by kernel_rfl)) (seqQ (f := fun ρ m => Q34 G (ρ 17) (ρ 16) (ρ 15) (ρ 1) (ρ 2) m) (tr (blockQ (loopQ (fun i ρ m => Q1a G i (ρ 17) (ρ 16) (ρ 15) (ρ 1) (ρ 2) m) (fun _ _ => rfl) (fun i0 => fun ρ m => by kernel_rfl))) (fun ρ m => by kernel_rfl)))) (fun ρ m => by kernel_rfl))) (fun ρ m => by kernel_rfl))) (fun ρ m => by kernel_rfl)) m
def Q92 : Entry Tryz.prog := ⟨Q3d, Tryz.f178, Tryz.func178, by kernel_rfl, arg3 (fun G a0 a1 a2 m => Q1g G a0 a1 a2 m), okarg3 Q91⟩
def Quv (G : Gt) (p4 : V) (m : M) : R :=
  some (p4, m)
def Q15y (G : Gt) (p0 p1 : V) (m : M) : R :=
  bp (pur (bin .eql false true .str p0 p1) m) fun x0 m =>
  brb x0
  (Quv G (.bool true) m)
  (bp (pur (bin .eql true true .str p1 (.string ⟨#[60,42,62]⟩)) m) fun x1 m =>
  Quv G x1 m)
def Q101 (G : Gt) (p0 p1 : V) (m : M) : R :=
  Q15y G p0 p1 m
theorem Q1lm (G : Gt) (a0 a1 : V) (m : M) : evFn Tryz.prog G.tab G.rds (drOf Tryz.prog G.tab) Tryz.f179 [a0, a1] m = Q101 G a0 a1 m :=
  evFn_of (r := fun ρ m => Q101 G (ρ 0) (ρ 1) m) rfl rfl (tr (seqQ (f := fun ρ m => Q15y G (ρ 0) (ρ 1) m) (tr (seqQ (f := fun ρ m => Quv G (ρ 4) m) (fun ρ m => by kernel_rfl)) (fun ρ m => by kernel_rfl))) (fun ρ m => by kernel_rfl)) m
def Q1ln : Entry Tryz.prog := ⟨Q1dl, Tryz.f179, Tryz.func179, by kernel_rfl, arg2 (fun G a0 a1 m => Q101 G a0 a1 m), okarg2 Q1lm⟩
end
end Go.Ab.Sh

set_option linter.unusedVariables false
set_option maxRecDepth 100000
namespace Go.Ab.Sh
open Go Go.Ab Go.Proofs
noncomputable section
def Q1g5 (G : Gt) (m : M) : R :=
  some ((.bool true), m)
def Qfa (G : Gt) (k0 : V → M → R) (p51 p14 : V) (m : M) : R :=
  brb p51
  (some ((.bool false), m))
  (k0 p14 m)
def Qfb (G : Gt) (k0 : V → M → R) (p5 p3 p4 p14 : V) (m : M) : R :=
  bp (pur (un .not p5) m) fun x0 m =>
  brb x0
  (bp (pur (bin .eql true true .int p3 (.int .i64 0)) m) fun x1 m =>
  brb x1
  (Qfa G k0 (.bool true) p14 m)
  (bp (pur (bin .lss true true .int p4 (.int .i32 48)) m) fun x2 m =>
  brb x2
  (bp (G.tab Q6n [(.string ⟨#[45,95,46,47]⟩), p4] m) fun x3 m =>
  bp (pur (bin .lss true true .int x3 (.int .i64 0)) m) fun x4 m =>
  Qfa G k0 x4 p14 m)
  (bp (pur (bin .gtr true true .int p4 (.int .i32 57)) m) fun x5 m =>
  brb x5
  (bp (G.tab Q6n [(.string ⟨#[45,95,46,47]⟩), p4] m) fun x6 m =>
  bp (pur (bin .lss true true .int x6 (.int .i64 0)) m) fun x7 m =>
  Qfa G k0 x7 p14 m)
  (Qfa G k0 (.bool false) p14 m))))
  (Qfa G k0 (.bool false) p14 m)
def Q1g6 (G : Gt) (k0 : V → M → R) (p4 p3 p14 : V) (m : M) : R :=
  bp (pur (bin .geq true true .int p4 (.int .i32 97)) m) fun x8 m =>
  brb x8
  (bp (pur (bin .leq true true .int p4 (.int .i32 122)) m) fun x9 m =>
  brb x9
  (Qfb G k0 (.bool true) p3 p4 p14 m)
  (bp (pur (bin .geq true true .int p4 (.int .i32 65)) m) fun x10 m =>
  brb x10
  (bp (pur (bin .leq true true .int p4 (.int .i32 90)) m) fun x11 m =>
  Qfb G k0 x11 p3 p4 p14 m)
  (Qfb G k0 (.bool false) p3 p4 p14 m)))
  (bp (pur (bin .geq true true .int p4 (.int .i32 65)) m) fun x12 m =>
  brb x12
  (bp (pur (bin .leq true true .int p4 (.int .i32 90)) m) fun x13 m =>
  Qfb G k0 x13 p3 p4 p14 m)
  (Qfb G k0 (.bool false) p3 p4 p14 m))
def Q1g7 (G : Gt) (k0 : V → M → R) (p15 p14 : V) (m : M) : R :=
  bp (pur (aExtract p15 1) m) fun x14 m =>
  bp (pur (aExtract p15 2) m) fun x15 m =>
  Q1g6 G k0 x15 x14 p14 m
def Q1g8 (G : Gt) (k0 : V → M → R) (p16 p15 p14 : V) (m : M) : R :=
  brb p16
  (Q1g7 G k0 p15 p14 m)
  (Q1g5 G m)
def Q7u (G : Gt) : Nat → V → M → R
 | 0, _, _ => none
 | i + 1, p14, m =>
  bp (aNextStr p14 m) fun x16 m =>
  bp (pur (aExtract x16 0) m) fun x17 m =>
  Q1g8 G (Q7u G i) x17 x16 p14 m
def Q1g9 (G : Gt) (p14 : V) (m : M) : R :=
  Q7u G G.rds p14 m
def Q1ga (G : Gt) (p0 : V) (m : M) : R :=
  bp (aRangeStr p0 m) fun x18 m =>
  Q1g9 G x18 m
def Q102 (G : Gt) (p12 p0 : V) (m : M) : R :=
  brb p12
  (some ((.bool false), m))
  (Q1ga G p0 m)
def Q1gb (G : Gt) (p0 : V) (m : M) : R :=
  bp (pur (bin .eql true true .str p0 (.string ⟨#[]⟩)) m) fun x19 m =>
  brb x19
  (Q102 G (.bool true) p0 m)
  (bp (pur (lenK 0 p0 m) m) fun x20 m =>
  bp (pur (bin .gtr true true .int x20 (.int .i64 32)) m) fun x21 m =>
  Q102 G x21 p0 m)
def Q1cw (G : Gt) (p0 : V) (m : M) : R :=
  Q1gb G p0 m
theorem Q1pn (G : Gt) (a0 : V) (m : M) : evFn Tryz.prog G.tab G.rds (drOf Tryz.prog G.tab) Tryz.f180 [a0] m = Q1cw G a0 m :=
  evFn_of (r := fun ρ m => Q1cw G (ρ 0) m) rfl rfl (tr (seqQ (f := fun ρ m => Q1gb G (ρ 0) m) (tr (tr (seqQ (f := fun ρ m => Q1ga G (ρ 0) m) (tr (tr (seqQ (f := fun ρ m => Q1g5 G m) (fun ρ m => by kernel_rfl)) (seqQ (f := fun ρ m => Q1g9 G (ρ 14) m) (tr (blockQ (loopQ (fun i ρ m => Q7u G i (ρ 14) m) (fun _ _ => rfl) (fun i0 => tr (seqQ (f := fun ρ m => Q1g8 G (Q7u G i0) (ρ 16) (ρ 15) (ρ 14) m) (tr (seqQ (f := fun ρ m => Q1g7 G (Q7u G i0) (ρ 15) (ρ 14) m) (tr (blockQ (seqQ (f := fun ρ m => Q1g6 G (Q7u G i0) (ρ 4) (ρ 3) (ρ 14) m) (tr (seqQ (f := fun ρ m => Qfb G (Q7u G i0) (ρ 5) (ρ 3) (ρ 4) (ρ 14) m) (tr (seqQ (f := fun ρ m => Qfa G (Q7u G i0) (ρ 51) (ρ 14) m) (fun ρ m => by kernel_rfl)) (fun ρ m => by kernel_rfl))) (fun ρ m => by kernel_rfl)))) (fun ρ m => by kernel_rfl))) (fun ρ m => by kernel_rfl))) (fun ρ m => by kernel_rfl)))) (fun ρ m => by kernel_rfl)))) (fun ρ m => by kernel_rfl))) (seqQ (f := fun ρ m => Q102 G (ρ 12) (ρ 0) m) (fun ρ m => by kernel_rfl))) (fun ρ m => by kernel_rfl))) (fun ρ m => by kernel_rfl)) m
def Q1po : Entry Tryz.prog := ⟨Q1in, Tryz.f180, Tryz.func180, by kernel_rfl, arg1 (fun G a0 m => Q1cw G a0 m), okarg1 Q1pn⟩
def Q9j (G : Gt) (p7 p0 p5 : V) (m : M) : R :=
  bp (G.tab Q4k [p0, p5, (.int .i64 1), (.int .i64 32)] m) fun x0 m =>
  some (.tuple ⟨[p7, x0]⟩, m)
def Q9k (G : Gt) (p26 p0 p7 p5 : V) (m : M) : R :=
  brb p26
  (bp (G.tab Qe [p0, (.int .i64 130)] m) fun x1 m =>
  Q9j G p7 p0 p5 m)
  (Q9j G p7 p0 p5 m)
def Qk1 (G : Gt) (p6 p8 p0 p7 p5 : V) (m : M) : R :=
  bp (pur (un .not p6) m) fun x2 m =>
  brb x2
  (Q9k G (.bool true) p0 p7 p5 m)
  (bp (pur (bin .neq true true .int p8 (.int .i64 0)) m) fun x3 m =>
  Q9k G x3 p0 p7 p5 m)
def Qk2 (G : Gt) (p4 p6 p0 p5 : V) (m : M) : R :=
  bp (G.tab Qt3 [p4] m) fun x4 m =>
  bp (pur (aExtract x4 0) m) fun x5 m =>
  bp (pur (aExtract x4 1) m) fun x6 m =>
  Qk1 G p6 x6 p0 x5 p5 m
def Qk3 (G : Gt) (p0 : V) (m : M) : R :=
  bp (G.tab Qi [p0] m) fun x7 m =>
  bp (G.tab Qi1 [x7, (.string ⟨#[47]⟩)] m) fun x8 m =>
  bp (pur (aExtract x8 0) m) fun x9 m =>
  bp (pur (aExtract x8 1) m) fun x10 m =>
  bp (pur (aExtract x8 2) m) fun x11 m =>
  Qk2 G x9 x11 p0 x10 m
def Qby (G : Gt) (p0 : V) (m : M) : R :=
  Qk3 G p0 m
theorem Q15c (G : Gt) (a0 : V) (m : M) : evFn Tryz.prog G.tab G.rds (drOf Tryz.prog G.tab) Tryz.f181 [a0] m = Qby G a0 m :=
  evFn_of (r := fun ρ m => Qby G (ρ 0) m) rfl rfl (tr (seqQ (f := fun ρ m => Qk3 G (ρ 0) m) (tr (seqQ (f := fun ρ m => Qk2 G (ρ 4) (ρ 6) (ρ 0) (ρ 5) m) (tr (seqQ (f := fun ρ m => Qk1 G (ρ 6) (ρ 8) (ρ 0) (ρ 7) (ρ 5) m) (tr (tr (seqQ (f := fun ρ m => Q9j G (ρ 7) (ρ 0) (ρ 5) m) (fun ρ m => by kernel_rfl)) (seqQ (f := fun ρ m => Q9k G (ρ 26) (ρ 0) (ρ 7) (ρ 5) m) (fun ρ m => by kernel_rfl))) (fun ρ m => by kernel_rfl))) (fun ρ m => by kernel_rfl))) (fun ρ m => by kernel_rfl))) (fun ρ m => by kernel_rfl)) m
def Q15d : Entry Tryz.prog := ⟨Qmv, Tryz.f181, Tryz.func181, by kernel_rfl, arg1 (fun G a0 m => Qby G a0 m), okarg1 Q15c⟩
def Q7v (G : Gt) (p18 p1 p3 : V) (m : M) : R :=
  brb p18
  (bp (pur (aLoad false 1 p1 m) m) fun x0 m =>
  bp (pur (aLoad false 1 p1 m) m) fun x1 m =>
  bp (pur (aLoad true 2 p3 m) m) fun x2 m =>
  bp (pur (aNilCheck x0) m) fun x3 m =>
  bp (pur (aFieldAddr 12 x3) m) fun x4 m =>
  bp (unt (aStore 2 x4 x2 m)) fun _ m =>
  ckB (again (pur (aLoad false 1 p1 m) m) x1 && true)
  (bp (pur (aNilCheck x1) m) fun x5 m =>
  bp (pur (aFieldAddr 14 x5) m) fun x6 m =>
  bp (unt (aStore 1 x6 (.int .i64 5) m)) fun _ m =>
  some (.tuple ⟨[]⟩, m)))
  (some (.tuple ⟨[]⟩, m))
def Qgt (G : Gt) (p1 p5 p3 : V) (m : M) : R :=
  bp (pur (aLoad false 1 p1 m) m) fun x7 m =>
  bp (pur (aNilCheck x7) m) fun x8 m =>
  bp (pur (aFieldAddr 14 x8) m) fun x9 m =>
  bp (pur (aLoad false 1 x9 m) m) fun x10 m =>
  bp (pur (bin .eql true true .int x10 (.int .i64 0)) m) fun x11 m =>
  brb x11
  (bp (pur (aLoad false 1 p5 m) m) fun x12 m =>
  bp (pur (un .not x12) m) fun x13 m =>
  Q7v G x13 p1 p3 m)
  (Q7v G (.bool false) p1 p3 m)
def Qgu (G : Gt) (p1 p0 p2 p5 p3 : V) (m : M) : R :=
  bp (pur (aLoad false 1 p1 m) m) fun x14 m =>
  let x15 : V := (.func (.func Qga) ⟨[]⟩ ⟨[p2, p1, p5]⟩)
  bp (G.tab Q81 [x14, p0, x15] m) fun x16 m =>
  Qgt G p1 p5 p3 m
def Q9l (G : Gt) (p1 p0 p2 p3 : V) (m : M) : R :=
  bp (some (aNew Q1s5 [(.bool false)] m)) fun x17 m =>
  bp (unt (aStore 1 x17 (.bool false) m)) fun _ m =>
  Qgu G p1 p0 p2 x17 p3 m
theorem Q121 (G : Gt) (a0 a1 a2 a3 : V) (m : M) : evFn Tryz.prog G.tab G.rds (drOf Tryz.prog G.tab) Tryz.f182 [a0, a1, a2, a3] m = Q9l G a1 a0 a2 a3 m :=
  evFn_of (r := fun ρ m => Q9l G (ρ 1) (ρ 0) (ρ 2) (ρ 3) m) rfl rfl (tr (seqQ (f := fun ρ m => Qgu G (ρ 1) (ρ 0) (ρ 2) (ρ 5) (ρ 3) m) (tr (seqQ (f := fun ρ m => Qgt G (ρ 1) (ρ 5) (ρ 3) m) (tr (seqQ (f := fun ρ m => Q7v G (ρ 18) (ρ 1) (ρ 3) m) (fun ρ m => by kernel_rfl)) (fun ρ m => by kernel_rfl))) (fun ρ m => by kernel_rfl))) (fun ρ m => by kernel_rfl)) m
def Q122 : Entry Tryz.prog := ⟨Qjl, Tryz.f182, Tryz.func182, by kernel_rfl, arg4 (fun G a0 a1 a2 a3 m => Q9l G a1 a0 a2 a3 m), okarg4 Q121⟩
def Q7w (G : Gt) (p1 p0 p2 p3 : V) (m : M) : R :=
  bp (pur (aLoad false 1 p1 m) m) fun x0 m =>
  bp (pur (aNilCheck x0) m) fun x1 m =>
  bp (pur (aFieldAddr 1 x1) m) fun x2 m =>
  bp (pur (aLoad false 1 x2 m) m) fun x3 m =>
  bp (pur (aLoad false 1 p1 m) m) fun x4 m =>
  bp (pur (aNilCheck x4) m) fun x5 m =>
  bp (pur (aFieldAddr 1 x5) m) fun x6 m =>
  bp (pur (aLoad false 1 x6 m) m) fun x7 m =>
  bp (pur (lenK 1 x7 m) m) fun x8 m =>
  bp (pur (bin .sub true true .int x8 (.int .i64 1)) m) fun x9 m =>
  bp (pur (aIndexAddrSl 10 x3 x9) m) fun x10 m =>
  bp (some (aNew Q1oc [(.pointer none)] m)) fun x11 m =>
  bp (unt (aStore 1 x11 x10 m)) fun _ m =>
  bp (aBuildSlice Q1 [(.string ⟨#[]⟩)] 1 2 [(0, (.string ⟨#[102,114,111,109]⟩)), (1, (.string ⟨#[116,104,101,110]⟩))] m) fun x12 m =>
  bp (G.tab Q8 [p0, x12] m) fun x13 m =>
  bp (pur (bin .eql true true .int x13 (.int .i64 0)) m) fun x14 m =>
  brb x14
  (bp (pur (aLoad false 1 p2 m) m) fun x15 m =>
  bp (G.tab Qj [x15, (.func (.func Qd9) ⟨[]⟩ ⟨[x11]⟩)] m) fun x16 m =>
  some (.tuple ⟨[(.bool true), (.string ⟨#[]⟩), x16]⟩, m))
  (bp (pur (aLoad false 1 x11 m) m) fun x17 m =>
  bp (aBuildSlice Q1 [(.string ⟨#[]⟩)] 1 2 [(0, (.string ⟨#[97,99,99,101,112,116]⟩)), (1, (.string ⟨#[100,105,115,99,97,114,100]⟩))] m) fun x18 m =>
  bp (G.tab Q8 [p0, x18] m) fun x19 m =>
  ckB (again (pur (aLoad false 1 x11 m) m) x17 && true)
  (bp (pur (bin .eql true true .int x19 (.int .i64 0)) m) fun x20 m =>
  bp (pur (aNilCheck x17) m) fun x21 m =>
  bp (pur (aFieldAddr 0 x21) m) fun x22 m =>
  bp (unt (aStore 1 x22 x20 m)) fun _ m =>
  bp (unt (aStore 1 p3 (.bool true) m)) fun _ m =>
  some (.tuple ⟨[(.bool false), (.string ⟨#[116,104,101,110]⟩), .nilFunc]⟩, m)))
theorem Qz2 (G : Gt) (a0 a1 a2 a3 : V) (m : M) : evFn Tryz.prog G.tab G.rds (drOf Tryz.prog G.tab) Tryz.f183 [a0, a1, a2, a3] m = Q7w G a1 a0 a2 a3 m :=
  evFn_of (r := fun ρ m => Q7w G (ρ 1) (ρ 0) (ρ 2) (ρ 3) m) rfl rfl (fun ρ m => by kernel_rfl) m
def Qz3 : Entry Tryz.prog := ⟨Qga, Tryz.f183, Tryz.func183, by kernel_rfl, arg4 (fun G a0 a1 a2 a3 m => Q7w G a1 a0 a2 a3 m), okarg4 Qz2⟩
def Q6h (G : Gt) (p0 p1 : V) (m : M) : R :=
  bp (pur (aLoad false 1 p1 m) m) fun x0 m =>
  bp (G.tab Q19q [p0, x0] m) fun x1 m =>
  bp (pur (aExtract x1 0) m) fun x2 m =>
  bp (pur (aExtract x1 1) m) fun x3 m =>
  bp (pur (aExtract x1 2) m) fun x4 m =>
  some (.tuple ⟨[x2, x3, x4]⟩, m)
theorem Qvr (G : Gt) (a0 a1 : V) (m : M) : evFn Tryz.prog G.tab G.rds (drOf Tryz.prog G.tab) Tryz.f184 [a0, a1] m = Q6h G a0 a1 m :=
  evFn_of (r := fun ρ m => Q6h G (ρ 0) (ρ 1) m) rfl rfl (fun ρ m => by kernel_rfl) m
def Qvs : Entry Tryz.prog := ⟨Qd9, Tryz.f184, Tryz.func184, by kernel_rfl, arg2 (fun G a0 a1 m => Q6h G a0 a1 m), okarg2 Qvr⟩
def Q23 (G : Gt) (p7 : V) (m : M) : R :=
  some (.tuple ⟨[(.bool false), p7, .nilFunc]⟩, m)
def Q140 (G : Gt) (p7 p0 p1 : V) (m : M) : R :=
  bp (pur (bin .eql true true .str p7 (.string ⟨#[112,114,111,116,111,99,111,108]⟩)) m) fun x0 m =>
  brb x0
  (bp (G.tab Qq [p0, (.string ⟨#[116,99,112]⟩)] m) fun x1 m =>
  brb x1
  (bp (pur (aNilCheck p1) m) fun x2 m =>
  bp (pur (aFieldAddr 1 x2) m) fun x3 m =>
  bp (unt (aStore 1 x3 (.int .i64 6) m)) fun _ m =>
  Q23 G p7 m)
  (bp (G.tab Qq [p0, (.string ⟨#[117,100,112]⟩)] m) fun x4 m =>
  brb x4
  (bp (pur (aNilCheck p1) m) fun x5 m =>
  bp (pur (aFieldAddr 1 x5) m) fun x6 m =>
  bp (unt (aStore 1 x6 (.int .i64 17) m)) fun _ m =>
  Q23 G p7 m)
  (bp (G.tab Qq [p0, (.string ⟨#[105,99,109,112]⟩)] m) fun x7 m =>
  brb x7
  (bp (pur (aNilCheck p1) m) fun x8 m =>
  bp (pur (aFieldAddr 1 x8) m) fun x9 m =>
  bp (unt (aStore 1 x9 (.int .i64 1) m)) fun _ m =>
  Q23 G p7 m)
  (bp (G.tab Qc [p0, (.int .i64 0), (.int .i64 255)] m) fun x10 m =>
  bp (pur (aNilCheck p1) m) fun x11 m =>
  bp (pur (aFieldAddr 1 x11) m) fun x12 m =>
  bp (unt (aStore 1 x12 x10 m)) fun _ m =>
  Q23 G p7 m))))
  (bp (pur (bin .eql true true .str p7 (.string ⟨#[115,111,117,114,99,101]⟩)) m) fun x13 m =>
  brb x13
  (bp (G.tab Q2u [p0] m) fun x14 m =>
  bp (pur (aNilCheck p1) m) fun x15 m =>
  bp (pur (aFieldAddr 2 x15) m) fun x16 m =>
  bp (unt (aStore 2 x16 x14 m)) fun _ m =>
  Q23 G p7 m)
  (bp (pur (bin .eql true true .str p7 (.string ⟨#[100,101,115,116,105,110,97,116,105,111,110]⟩)) m) fun x17 m =>
  brb x17
  (bp (G.tab Q2u [p0] m) fun x18 m =>
  bp (pur (aNilCheck p1) m) fun x19 m =>
  bp (pur (aFieldAddr 4 x19) m) fun x20 m =>
  bp (unt (aStore 2 x20 x18 m)) fun _ m =>
  Q23 G p7 m)
  (bp (pur (bin .eql true true .str p7 (.string ⟨#[115,111,117,114,99,101,45,112,111,114,116]⟩)) m) fun x21 m =>
  brb x21
  (bp (G.tab Qcl [p0] m) fun x22 m =>
  bp (pur (aNilCheck p1) m) fun x23 m =>
  bp (pur (aFieldAddr 6 x23) m) fun x24 m =>
  bp (unt (aStore 2 x24 x22 m)) fun _ m =>
  Q23 G p7 m)
  (bp (pur (bin .eql true true .str p7 (.string ⟨#[100,101,115,116,105,110,97,116,105,111,110,45,112,111,114,116]⟩)) m) fun x25 m =>
  brb x25
  (bp (G.tab Qcl [p0] m) fun x26 m =>
  bp (pur (aNilCheck p1) m) fun x27 m =>
  bp (pur (aFieldAddr 8 x27) m) fun x28 m =>
  bp (unt (aStore 2 x28 x26 m)) fun _ m =>
  Q23 G p7 m)
  (bp (G.tab Qe [p0, (.int .i64 130)] m) fun x29 m =>
  Q23 G p7 m)))))
def Q141 (G : Gt) (p0 p1 : V) (m : M) : R :=
  bp (G.tab Qi [p0] m) fun x30 m =>
  Q140 G x30 p0 p1 m
def Qxu (G : Gt) (p0 p1 : V) (m : M) : R :=
  Q141 G p0 p1 m
theorem Q1kh (G : Gt) (a0 a1 : V) (m : M) : evFn Tryz.prog G.tab G.rds (drOf Tryz.prog G.tab) Tryz.f185 [a0, a1] m = Qxu G a0 a1 m :=
  evFn_of (r := fun ρ m => Qxu G (ρ 0) (ρ 1) m) rfl rfl (tr (seqQ (f := fun ρ m => Q141 G (ρ 0) (ρ 1) m) (tr (seqQ (f := fun ρ m => Q140 G (ρ 7) (ρ 0) (ρ 1) m) (tr (seqQ (f := fun ρ m => Q23 G (ρ 7) m) (fun ρ m => by kernel_rfl)) (fun ρ m => by kernel_rfl))) (fun ρ m => by kernel_rfl))) (fun ρ m => by kernel_rfl)) m
def Q1ki : Entry Tryz.prog := ⟨Q19q, Tryz.f185, Tryz.func185, by kernel_rfl, arg2 (fun G a0 a1 m => Qxu G a0 a1 m), okarg2 Q1kh⟩
def Q1b0 (G : Gt) (p5 : V) (m : M) : R :=
  some (.tuple ⟨[p5, (.int .i64 0)]⟩, m)
def Qxv (G : Gt) : Nat → V → V → V → M → R
 | 0, _, _, _, _ => none
 | i + 1, p14, p4, p5, m =>
  bp (pur (bin .lss true true .int p14 (.int .i64 4)) m) fun x0 m =>
  brb x0
  (bp (pur (aIndexAddrSl 1 p4 p14) m) fun x1 m =>
  bp (pur (aLoad false 1 x1 m) m) fun x2 m =>
  bp (G.tab Qzq [x2, (.int .i64 255)] m) fun x3 m =>
  bp (pur (aExtract x3 0) m) fun x4 m =>
  bp (pur (aExtract x3 1) m) fun x5 m =>
  bp (pur (un .not x5) m) fun x6 m =>
  brb x6
  (some (.tuple ⟨[(.int .u32 0), (.int .i64 4)]⟩, m))
  (bp (pur (bin .shl true true .int p5 (.int .u64 8)) m) fun x7 m =>
  bp (conv (.int .u32) x4 m) fun x8 m =>
  bp (pur (bin .or false true .int x7 x8) m) fun x9 m =>
  bp (pur (bin .add true true .int p14 (.int .i64 1)) m) fun x10 m =>
  (Qxv G i) x10 p4 x9 m))
  (Q1b0 G p5 m)
def Q1b1 (G : Gt) (p14 p4 p5 : V) (m : M) : R :=
  Qxv G G.rds p14 p4 p5 m
def Q1b2 (G : Gt) (p4 p5 : V) (m : M) : R :=
  Q1b1 G (.int .i64 0) p4 p5 m
def Q1b3 (G : Gt) (p4 : V) (m : M) : R :=
  Q1b2 G p4 (.int .u32 0) m
def Q1b4 (G : Gt) (p4 : V) (m : M) : R :=
  bp (pur (lenK 1 p4 m) m) fun x11 m =>
  bp (pur (bin .neq true true .int x11 (.int .i64 4)) m) fun x12 m =>
  brb x12
  (some (.tuple ⟨[(.int .u32 0), (.int .i64 4)]⟩, m))
  (Q1b3 G p4 m)
def Q1b5 (G : Gt) (p0 : V) (m : M) : R :=
  bp (G.tab Q15t [p0, (.string ⟨#[46]⟩)] m) fun x13 m =>
  Q1b4 G x13 m
def Q142 (G : Gt) (p0 : V) (m : M) : R :=
  Q1b5 G p0 m
theorem Q1nb (G : Gt) (a0 : V) (m : M) : evFn Tryz.prog G.tab G.rds (drOf Tryz.prog G.tab) Tryz.f186 [a0] m = Q142 G a0 m :=
  evFn_of (r := fun ρ m => Q142 G (ρ 0) m) rfl rfl (tr (seqQ (f := fun ρ m => Q1b5 G (ρ 0) m) (tr (seqQ (f := fun ρ m => Q1b4 G (ρ 4) m) (tr (seqQ (f := fun ρ m => Q1b3 G (ρ 4) m) (tr (seqQ (f := fun ρ m => Q1b2 G (ρ 4) (ρ 5) m) (tr (tr (seqQ (f := fun ρ m => Q1b0 G (ρ 5) m) (fun ρ m => by kernel_rfl)) (seqQ (f := fun ρ m => Q1b1 G (ρ 14) (ρ 4) (ρ 5) m) (tr (blockQ (loopQ (fun i ρ m => Qxv G i (ρ 14) (ρ 4) (ρ 5) m) (fun _ _ => rfl) (fun i0 => fun ρ m => by kernel_rfl))) (fun ρ m => by kernel_rfl)))) (fun ρ m => by kernel_rfl))) (fun ρ m => by kernel_rfl))) (fun ρ m => by kernel_rfl))) (fun ρ m => by kernel_rfl))) (fun ρ m => by kernel_rfl)) m
def Q1nc : Entry Tryz.prog := ⟨Qt3, Tryz.f186, Tryz.func186, by kernel_rfl, arg1 (fun G a0 m => Q142 G a0 m), okarg1 Q1nb⟩
def Q9m (G : Gt) (p38 p2 p7 p9 : V) (m : M) : R :=
  brb p38
  (bp (pur (aBuild Q4n [(0, 1), (1, 1)] []) m) fun x0 m =>
  bp (unt (aStore 2 p2 x0 m)) fun _ m =>
  ob (ob (aLoad true 2 p2 m) fun v => ob (some [(.int .i64 4)]) fun l => some (v :: l)) fun l => some (resVal l, m))
  (bp (pur (aBuild Q4n [(0, 1), (1, 1)] [(0, p7), (1, p9)]) m) fun x1 m =>
  bp (some (aNew Q3o Q4n m)) fun x2 m =>
  bp (unt (aStore 2 x2 x1 m)) fun _ m =>
  bp (pur (aLoad true 2 x2 m) m) fun x3 m =>
  bp (G.tab Qah [x3] m) fun x4 m =>
  bp (pur (bin .neq true true .int x4 (.int .i64 0)) m) fun x5 m =>
  brb x5
  (bp (pur (aBuild Q4n [(0, 1), (1, 1)] []) m) fun x6 m =>
  bp (unt (aStore 2 p2 x6 m)) fun _ m =>
  ob (ob (aLoad true 2 p2 m) fun v => ob (some [x4]) fun l => some (v :: l)) fun l => some (resVal l, m))
  (bp (pur (aLoad true 2 x2 m) m) fun x7 m =>
  bp (unt (aStore 2 p2 x7 m)) fun _ m =>
  ob (ob (aLoad true 2 p2 m) fun v => ob (some [(.int .i64 0)]) fun l => some (v :: l)) fun l => some (resVal l, m)))
def Quw (G : Gt) (p6 p10 p8 p2 p7 p9 : V) (m : M) : R :=
  bp (pur (un .not p6) m) fun x8 m =>
  brb x8
  (Q9m G (.bool true) p2 p7 p9 m)
  (bp (pur (un .not p10) m) fun x9 m =>
  brb x9
  (Q9m G (.bool true) p2 p7 p9 m)
  (bp (pur (bin .neq true true .int p8 (.int .i64 0)) m) fun x10 m =>
  Q9m G x10 p2 p7 p9 m))
def Qux (G : Gt) (p5 p6 p8 p2 p7 : V) (m : M) : R :=
  bp (G.tab Qzq [p5, (.int .i64 32)] m) fun x11 m =>
  bp (pur (aExtract x11 0) m) fun x12 m =>
  bp (pur (aExtract x11 1) m) fun x13 m =>
  Quw G p6 x13 p8 p2 p7 x12 m
def Quy (G : Gt) (p4 p5 p6 p2 : V) (m : M) : R :=
  bp (G.tab Qt3 [p4] m) fun x14 m =>
  bp (pur (aExtract x14 0) m) fun x15 m =>
  bp (pur (aExtract x14 1) m) fun x16 m =>
  Qux G p5 p6 x16 p2 x15 m
def Quz (G : Gt) (p0 p2 : V) (m : M) : R :=
  bp (G.tab Qi1 [p0, (.string ⟨#[47]⟩)] m) fun x17 m =>
  bp (pur (aExtract x17 0) m) fun x18 m =>
  bp (pur (aExtract x17 1) m) fun x19 m =>
  bp (pur (aExtract x17 2) m) fun x20 m =>
  Quy G x18 x19 x20 p2 m
def Qls (G : Gt) (p0 : V) (m : M) : R :=
  bp (some (aNew Q3o Q4n m)) fun x21 m =>
  Quz G p0 x21 m
theorem Q1gc (G : Gt) (a0 : V) (m : M) : evFn Tryz.prog G.tab G.rds (drOf Tryz.prog G.tab) Tryz.f187 [a0] m = Qls G a0 m :=
  evFn_of (r := fun ρ m => Qls G (ρ 0) m) rfl rfl (tr (seqQ (f := fun ρ m => Quz G (ρ 0) (ρ 2) m) (tr (seqQ (f := fun ρ m => Quy G (ρ 4) (ρ 5) (ρ 6) (ρ 2) m) (tr (seqQ (f := fun ρ m => Qux G (ρ 5) (ρ 6) (ρ 8) (ρ 2) (ρ 7) m) (tr (seqQ (f := fun ρ m => Quw G (ρ 6) (ρ 10) (ρ 8) (ρ 2) (ρ 7) (ρ 9) m) (tr (tr seqD (seqQ (f := fun ρ m => Q9m G (ρ 38) (ρ 2) (ρ 7) (ρ 9) m) (fun ρ m => by kernel_rfl))) (fun ρ m => by kernel_rfl))) (fun ρ m => by kernel_rfl))) (fun ρ m => by kernel_rfl))) (fun ρ m => by kernel_rfl))) (fun ρ m => by kernel_rfl)) m
def Q1gd : Entry Tryz.prog := ⟨Qyb, Tryz.f187, Tryz.func187, by kernel_rfl, arg1 (fun G a0 m => Qls G a0 m), okarg1 Q1gc⟩
def Qau (G : Gt) (p9 : V) (m : M) : R :=
  some (p9, m)
def Qav (G : Gt) (p28 p0 p9 : V) (m : M) : R :=
  brb p28
  (bp (G.tab Qe [p0, (.int .i64 131)] m) fun x0 m =>
  Qau G p9 m)
  (Qau G p9 m)
def Qlt (G : Gt) (p10 p9 p2 p0 : V) (m : M) : R :=
  bp (pur (un .not p10) m) fun x1 m =>
  brb x1
  (Qav G (.bool true) p0 p9 m)
  (bp (pur (bin .lss false true .int p9 p2) m) fun x2 m =>
  Qav G x2 p0 p9 m)
def Qlu (G : Gt) (p1 p3 p2 p0 : V) (m : M) : R :=
  bp (G.tab Q1fe [p1, p3] m) fun x3 m =>
  bp (pur (aExtract x3 0) m) fun x4 m =>
  bp (pur (aExtract x3 1) m) fun x5 m =>
  Qlt G x5 x4 p2 p0 m
def Qlv (G : Gt) (p1 p0 p3 p2 : V) (m : M) : R :=
  bp (G.tab Q1dm [p1] m) fun x6 m =>
  bp (pur (un .not x6) m) fun x7 m =>
  brb x7
  (bp (G.tab Qe [p0, (.int .i64 130)] m) fun x8 m =>
  some ((.int .i64 0), m))
  (Qlu G p1 p3 p2 p0 m)
def Qcz (G : Gt) (p1 p0 p3 p2 : V) (m : M) : R :=
  Qlv G p1 p0 p3 p2 m
theorem Q18k (G : Gt) (a0 a1 a2 a3 : V) (m : M) : evFn Tryz.prog G.tab G.rds (drOf Tryz.prog G.tab) Tryz.f188 [a0, a1, a2, a3] m = Qcz G a1 a0 a3 a2 m :=
  evFn_of (r := fun ρ m => Qcz G (ρ 1) (ρ 0) (ρ 3) (ρ 2) m) rfl rfl (tr (seqQ (f := fun ρ m => Qlv G (ρ 1) (ρ 0) (ρ 3) (ρ 2) m) (tr (seqQ (f := fun ρ m => Qlu G (ρ 1) (ρ 3) (ρ 2) (ρ 0) m) (tr (seqQ (f := fun ρ m => Qlt G (ρ 10) (ρ 9) (ρ 2) (ρ 0) m) (tr (tr (seqQ (f := fun ρ m => Qau G (ρ 9) m) (fun ρ m => by kernel_rfl)) (seqQ (f := fun ρ m => Qav G (ρ 28) (ρ 0) (ρ 9) m) (fun ρ m => by kernel_rfl))) (fun ρ m => by kernel_rfl))) (fun ρ m => by kernel_rfl))) (fun ρ m => by kernel_rfl))) (fun ρ m => by kernel_rfl)) m
def Q18l : Entry Tryz.prog := ⟨Q4k, Tryz.f188, Tryz.func188, by kernel_rfl, arg4 (fun G a0 a1 a2 a3 m => Qcz G a1 a0 a3 a2 m), okarg4 Q18k⟩
end
end Go.Ab.Sh
