/-
  Functions of the program as plain definitions, each with the theorem that it is what the evaluator makes of the code. No conditions.
-/
import Derived.Test.YtchdjkidnjfcjaaGreatDoorAb5
import Derived.Test.YtchdjkidnjfcjaaGreatDoorZ
import Derived.KernelRfl
import Derived.Test.YtchdjkidnjfcjaaGreatDoorProg
set_option linter.unusedVariables false
set_option maxRecDepth 100000
namespace Go.Ab.Sh
open Go Go.Ab Go.Proofs
noncomputable section
def Q50 (G : Gt) (m : M) : R :=
  some ((.int .i64 (-1)), m)
def Q27 (G : Gt) : Nat → V → V → V → V → M → R
 | 0, _, _, _, _, _ => none
 | i + 1, p8, p7, p1, p0, m =>
  bp (pur (bin .lss false true .int p8 p7) m) fun x0 m =>
  brb x0
  (bp (pur (aIndexAddrSl 5 p0 p8) m) fun x1 m =>
  bp (pur (aLoad true 5 x1 m) m) fun x2 m =>
  bp (evCall G.tab p1 [x2] m) fun x3 m =>
  brb x3
  (some (p8, m))
  (bp (pur (bin .add true true .int p8 (.int .i64 1)) m) fun x4 m =>
  (Q27 G i) x4 p7 p1 p0 m))
  (Q50 G m)
def Q51 (G : Gt) (p8 p7 p1 p0 : V) (m : M) : R :=
  Q27 G G.rds p8 p7 p1 p0 m
def Q52 (G : Gt) (p0 p1 : V) (m : M) : R :=
  bp (pur (lenK 1 p0 m) m) fun x5 m =>
  Q51 G (.int .i64 0) x5 p1 p0 m
def Q2p (G : Gt) (p0 p1 : V) (m : M) : R :=
  Q52 G p0 p1 m
theorem Qfx (G : Gt) (a0 a1 : V) (m : M) : evFn Tryz.prog G.tab G.rds (drOf Tryz.prog G.tab) Tryz.f256 [a0, a1] m = Q2p G a0 a1 m :=
  evFn_of (r := fun ρ m => Q2p G (ρ 0) (ρ 1) m) rfl rfl (tr (seqQ (f := fun ρ m => Q52 G (ρ 0) (ρ 1) m) (tr (tr (seqQ (f := fun ρ m => Q50 G m) (fun ρ m => by kernel_rfl)) (seqQ (f := fun ρ m => Q51 G (ρ 8) (ρ 7) (ρ 1) (ρ 0) m) (tr (blockQ (loopQ (fun i ρ m => Q27 G i (ρ 8) (ρ 7) (ρ 1) (ρ 0) m) (fun _ _ => rfl) (fun i0 => fun ρ m => by kernel_rfl))) (fun ρ m => by kernel_rfl)))) (fun ρ m => by kernel_rfl))) (fun ρ m => by kernel_rfl)) m
def Qfy : Entry Tryz.prog := ⟨Q5q, Tryz.f256, Tryz.func256, by kernel_rfl, arg2 (fun G a0 a1 m => Q2p G a0 a1 m), okarg2 Qfx⟩
def Q44 (G : Gt) (m : M) : R :=
  some ((.int .i64 (-1)), m)
def Q1u (G : Gt) : Nat → V → V → V → V → M → R
 | 0, _, _, _, _, _ => none
 | i + 1, p8, p7, p1, p0, m =>
  bp (pur (bin .lss false true .int p8 p7) m) fun x0 m =>
  brb x0
  (bp (pur (aIndexAddrSl 2 p0 p8) m) fun x1 m =>
  bp (pur (aLoad true 2 x1 m) m) fun x2 m =>
  bp (evCall G.tab p1 [x2] m) fun x3 m =>
  brb x3
  (some (p8, m))
  (bp (pur (bin .add true true .int p8 (.int .i64 1)) m) fun x4 m =>
  (Q1u G i) x4 p7 p1 p0 m))
  (Q44 G m)
def Q45 (G : Gt) (p8 p7 p1 p0 : V) (m : M) : R :=
  Q1u G G.rds p8 p7 p1 p0 m
def Q46 (G : Gt) (p0 p1 : V) (m : M) : R :=
  bp (pur (lenK 1 p0 m) m) fun x5 m =>
  Q45 G (.int .i64 0) x5 p1 p0 m
def Q28 (G : Gt) (p0 p1 : V) (m : M) : R :=
  Q46 G p0 p1 m
theorem Qds (G : Gt) (a0 a1 : V) (m : M) : evFn Tryz.prog G.tab G.rds (drOf Tryz.prog G.tab) Tryz.f257 [a0, a1] m = Q28 G a0 a1 m :=
  evFn_of (r := fun ρ m => Q28 G (ρ 0) (ρ 1) m) rfl rfl (tr (seqQ (f := fun ρ m => Q46 G (ρ 0) (ρ 1) m) (tr (tr (seqQ (f := fun ρ m => Q44 G m) (fun ρ m => by kernel_rfl)) (seqQ (f := fun ρ m => Q45 G (ρ 8) (ρ 7) (ρ 1) (ρ 0) m) (tr (blockQ (loopQ (fun i ρ m => Q1u G i (ρ 8) (ρ 7) (ρ 1) (ρ 0) m) (fun _ _ => rfl) (fun i0 => fun ρ m => by kernel_rfl))) (fun ρ m => by kernel_rfl)))) (fun ρ m => by kernel_rfl))) (fun ρ m => by kernel_rfl)) m
def Qdt : Entry Tryz.prog := ⟨Q4z, Tryz.f257, Tryz.func257, by kernel_rfl, arg2 (fun G a0 a1 m => Q28 G a0 a1 m), okarg2 Qds⟩
def Qa0 (G : Gt) (m : M) : R :=
  some ((.int .i64 (-1)), m)
def Q4o (G : Gt) : Nat → V → V → V → V → M → R
 | 0, _, _, _, _, _ => none
 | i + 1, p8, p7, p1, p0, m =>
  bp (pur (bin .lss false true .int p8 p7) m) fun x0 m =>
  brb x0
  (bp (pur (aIndexAddrSl 1 p0 p8) m) fun x1 m =>
  bp (pur (aLoad false 1 x1 m) m) fun x2 m =>
  bp (pur (bin .eql false true .int p1 x2) m) fun x3 m =>
  brb x3
  (some (p8, m))
  (bp (pur (bin .add true true .int p8 (.int .i64 1)) m) fun x4 m =>
  (Q4o G i) x4 p7 p1 p0 m))
  (Qa0 G m)
def Qa1 (G : Gt) (p8 p7 p1 p0 : V) (m : M) : R :=
  Q4o G G.rds p8 p7 p1 p0 m
def Qa2 (G : Gt) (p0 p1 : V) (m : M) : R :=
  bp (pur (lenK 1 p0 m) m) fun x5 m =>
  Qa1 G (.int .i64 0) x5 p1 p0 m
def Q5k (G : Gt) (p0 p1 : V) (m : M) : R :=
  Qa2 G p0 p1 m
theorem Qsk (G : Gt) (a0 a1 : V) (m : M) : evFn Tryz.prog G.tab G.rds (drOf Tryz.prog G.tab) Tryz.f258 [a0, a1] m = Q5k G a0 a1 m :=
  evFn_of (r := fun ρ m => Q5k G (ρ 0) (ρ 1) m) rfl rfl (tr (seqQ (f := fun ρ m => Qa2 G (ρ 0) (ρ 1) m) (tr (tr (seqQ (f := fun ρ m => Qa0 G m) (fun ρ m => by kernel_rfl)) (seqQ (f := fun ρ m => Qa1 G (ρ 8) (ρ 7) (ρ 1) (ρ 0) m) (tr (blockQ (loopQ (fun i ρ m => Q4o G i (ρ 8) (ρ 7) (ρ 1) (ρ 0) m) (fun _ _ => rfl) (fun i0 => fun ρ m => by kernel_rfl))) (fun ρ m => by kernel_rfl)))) (fun ρ m => by kernel_rfl))) (fun ρ m => by kernel_rfl)) m
def Qsl : Entry Tryz.prog := ⟨Qbb, Tryz.f258, Tryz.func258, by kernel_rfl, arg2 (fun G a0 a1 m => Q5k G a0 a1 m), okarg2 Qsk⟩
def Q5r (G : Gt) (m : M) : R :=
  some ((.int .i64 (-1)), m)
def Q2q (G : Gt) : Nat → V → V → V → V → M → R
 | 0, _, _, _, _, _ => none
 | i + 1, p8, p7, p1, p0, m =>
  bp (pur (bin .lss false true .int p8 p7) m) fun x0 m =>
  brb x0
  (bp (pur (aIndexAddrSl 3 p0 p8) m) fun x1 m =>
  bp (pur (aLoad true 3 x1 m) m) fun x2 m =>
  bp (evCall G.tab p1 [x2] m) fun x3 m =>
  brb x3
  (some (p8, m))
  (bp (pur (bin .add true true .int p8 (.int .i64 1)) m) fun x4 m =>
  (Q2q G i) x4 p7 p1 p0 m))
  (Q5r G m)
def Q5s (G : Gt) (p8 p7 p1 p0 : V) (m : M) : R :=
  Q2q G G.rds p8 p7 p1 p0 m
def Q5t (G : Gt) (p0 p1 : V) (m : M) : R :=
  bp (pur (lenK 1 p0 m) m) fun x5 m =>
  Q5s G (.int .i64 0) x5 p1 p0 m
def Q38 (G : Gt) (p0 p1 : V) (m : M) : R :=
  Q5t G p0 p1 m
theorem Qi4 (G : Gt) (a0 a1 : V) (m : M) : evFn Tryz.prog G.tab G.rds (drOf Tryz.prog G.tab) Tryz.f259 [a0, a1] m = Q38 G a0 a1 m :=
  evFn_of (r := fun ρ m => Q38 G (ρ 0) (ρ 1) m) rfl rfl (tr (seqQ (f := fun ρ m => Q5t G (ρ 0) (ρ 1) m) (tr (tr (seqQ (f := fun ρ m => Q5r G m) (fun ρ m => by kernel_rfl)) (seqQ (f := fun ρ m => Q5s G (ρ 8) (ρ 7) (ρ 1) (ρ 0) m) (tr (blockQ (loopQ (fun i ρ m => Q2q G i (ρ 8) (ρ 7) (ρ 1) (ρ 0) m) (fun _ _ => rfl) (fun i0 => fun ρ m => by kernel_rfl))) (fun ρ m => by kernel_rfl)))) (fun ρ m => by kernel_rfl))) (fun ρ m => by kernel_rfl)) m
def Qi5 : Entry Tryz.prog := ⟨Q6b, Tryz.f259, Tryz.func259, by kernel_rfl, arg2 (fun G a0 a1 m => Q38 G a0 a1 m), okarg2 Qi4⟩
def Q93 (G : Gt) (p0 p1 p2 p3 : V) (m : M) : R :=
  bp (some (aNew Qh4 (Value.cells p0).toList m)) fun x0 m =>
  bp (pur (aLoad false 1 p1 m) m) fun x1 m =>
  bp (pur (aLoad true 3 x0 m) m) fun x2 m =>
  bp (pur (aLoad false 1 p1 m) m) fun x3 m =>
  bp (pur (aLoad false 1 p2 m) m) fun x4 m =>
  bp (pur (aLoad false 1 p3 m) m) fun x5 m =>
  bp (pur (aIndexAddrSl 3 x4 x5) m) fun x6 m =>
  bp (pur (aLoad true 3 x6 m) m) fun x7 m =>
  bp (evCall G.tab x1 [x2] m) fun x8 m =>
  ckB (again (pur (aLoad false 1 p1 m) m) x3 && (again (pur (aLoad false 1 p2 m) m) x4 && (again (pur (aLoad false 1 p3 m) m) x5 && (again (pur (aLoad true 3 x6 m) m) x7 && true))))
  (bp (evCall G.tab x3 [x7] m) fun x9 m =>
  bp (pur (bin .eql false true .str x8 x9) m) fun x10 m =>
  some (x10, m))
theorem Q11p (G : Gt) (a0 a1 a2 a3 : V) (m : M) : evFn Tryz.prog G.tab G.rds (drOf Tryz.prog G.tab) Tryz.f260 [a0, a1, a2, a3] m = Q93 G a0 a1 a2 a3 m :=
  evFn_of (r := fun ρ m => Q93 G (ρ 0) (ρ 1) (ρ 2) (ρ 3) m) rfl rfl (fun ρ m => by kernel_rfl) m
def Q11q : Entry Tryz.prog := ⟨Qjo, Tryz.f260, Tryz.func260, by kernel_rfl, arg4 (fun G a0 a1 a2 a3 m => Q93 G a0 a1 a2 a3 m), okarg4 Q11p⟩
def Q6c (G : Gt) (m : M) : R :=
  some ((.int .i64 (-1)), m)
def Q39 (G : Gt) : Nat → V → V → V → V → M → R
 | 0, _, _, _, _, _ => none
 | i + 1, p8, p7, p1, p0, m =>
  bp (pur (bin .lss false true .int p8 p7) m) fun x0 m =>
  brb x0
  (bp (pur (aIndexAddrSl 6 p0 p8) m) fun x1 m =>
  bp (pur (aLoad true 6 x1 m) m) fun x2 m =>
  bp (evCall G.tab p1 [x2] m) fun x3 m =>
  brb x3
  (some (p8, m))
  (bp (pur (bin .add true true .int p8 (.int .i64 1)) m) fun x4 m =>
  (Q39 G i) x4 p7 p1 p0 m))
  (Q6c G m)
def Q6d (G : Gt) (p8 p7 p1 p0 : V) (m : M) : R :=
  Q39 G G.rds p8 p7 p1 p0 m
def Q6e (G : Gt) (p0 p1 : V) (m : M) : R :=
  bp (pur (lenK 1 p0 m) m) fun x5 m =>
  Q6d G (.int .i64 0) x5 p1 p0 m
def Q3g (G : Gt) (p0 p1 : V) (m : M) : R :=
  Q6e G p0 p1 m
theorem Qkb (G : Gt) (a0 a1 : V) (m : M) : evFn Tryz.prog G.tab G.rds (drOf Tryz.prog G.tab) Tryz.f261 [a0, a1] m = Q3g G a0 a1 m :=
  evFn_of (r := fun ρ m => Q3g G (ρ 0) (ρ 1) m) rfl rfl (tr (seqQ (f := fun ρ m => Q6e G (ρ 0) (ρ 1) m) (tr (tr (seqQ (f := fun ρ m => Q6c G m) (fun ρ m => by kernel_rfl)) (seqQ (f := fun ρ m => Q6d G (ρ 8) (ρ 7) (ρ 1) (ρ 0) m) (tr (blockQ (loopQ (fun i ρ m => Q39 G i (ρ 8) (ρ 7) (ρ 1) (ρ 0) m) (fun _ _ => rfl) (fun i0 => fun ρ m => by kernel_rfl))) (fun ρ m => by kernel_rfl)))) (fun ρ m => by kernel_rfl))) (fun ρ m => by kernel_rfl)) m
def Qkc : Entry Tryz.prog := ⟨Q78, Tryz.f261, Tryz.func261, by kernel_rfl, arg2 (fun G a0 a1 m => Q3g G a0 a1 m), okarg2 Qkb⟩
def Qaj (G : Gt) (p0 p1 p2 p3 : V) (m : M) : R :=
  bp (some (aNew Qgd (Value.cells p0).toList m)) fun x0 m =>
  bp (pur (aLoad false 1 p1 m) m) fun x1 m =>
  bp (pur (aLoad true 6 x0 m) m) fun x2 m =>
  bp (pur (aLoad false 1 p1 m) m) fun x3 m =>
  bp (pur (aLoad false 1 p2 m) m) fun x4 m =>
  bp (pur (aLoad false 1 p3 m) m) fun x5 m =>
  bp (pur (aIndexAddrSl 6 x4 x5) m) fun x6 m =>
  bp (pur (aLoad true 6 x6 m) m) fun x7 m =>
  bp (evCall G.tab x1 [x2] m) fun x8 m =>
  ckB (again (pur (aLoad false 1 p1 m) m) x3 && (again (pur (aLoad false 1 p2 m) m) x4 && (again (pur (aLoad false 1 p3 m) m) x5 && (again (pur (aLoad true 6 x6 m) m) x7 && true))))
  (bp (evCall G.tab x3 [x7] m) fun x9 m =>
  bp (pur (bin .eql false true .str x8 x9) m) fun x10 m =>
  some (x10, m))
theorem Q137 (G : Gt) (a0 a1 a2 a3 : V) (m : M) : evFn Tryz.prog G.tab G.rds (drOf Tryz.prog G.tab) Tryz.f262 [a0, a1, a2, a3] m = Qaj G a0 a1 a2 a3 m :=
  evFn_of (r := fun ρ m => Qaj G (ρ 0) (ρ 1) (ρ 2) (ρ 3) m) rfl rfl (fun ρ m => by kernel_rfl) m
def Q138 : Entry Tryz.prog := ⟨Qkk, Tryz.f262, Tryz.func262, by kernel_rfl, arg4 (fun G a0 a1 a2 a3 m => Qaj G a0 a1 a2 a3 m), okarg4 Q137⟩
def Q8h (G : Gt) (p0 p1 : V) (m : M) : R :=
  bp (G.tab Q6y [p0, p1] m) fun x0 m =>
  bp (pur (bin .geq true true .int x0 (.int .i64 0)) m) fun x1 m =>
  brb x1
  (bp (pur (aSliceStr p0 none (some x0)) m) fun x2 m =>
  bp (pur (lenK 0 p1 m) m) fun x3 m =>
  bp (pur (bin .add false true .int x0 x3) m) fun x4 m =>
  bp (pur (aSliceStr p0 (some x4) none) m) fun x5 m =>
  some (.tuple ⟨[x2, x5, (.bool true)]⟩, m))
  (some (.tuple ⟨[p0, (.string ⟨#[]⟩), (.bool false)]⟩, m))
theorem Qzs (G : Gt) (a0 a1 : V) (m : M) : evFn Tryz.prog G.tab G.rds (drOf Tryz.prog G.tab) Tryz.f269 [a0, a1] m = Q8h G a0 a1 m :=
  evFn_of (r := fun ρ m => Q8h G (ρ 0) (ρ 1) m) rfl rfl (fun ρ m => by kernel_rfl) m
def Qzt : Entry Tryz.prog := ⟨Qi3, Tryz.f269, Tryz.func269, by kernel_rfl, arg2 (fun G a0 a1 m => Q8h G a0 a1 m), okarg2 Qzs⟩
def Qh8 (G : Gt) (p9 p10 p0 : V) (m : M) : R :=
  bp (pur (aIndexAddrSl 1 p9 p10) m) fun x0 m =>
  bp (unt (aStore 1 x0 p0 m)) fun _ m =>
  bp (pur (bin .add true true .int p10 (.int .i64 1)) m) fun x1 m =>
  bp (pur (aSliceSl 1 p9 none (some x1)) m) fun x2 m =>
  some (x2, m)
def Qh9 (G : Gt) : Nat → V → V → V → V → V → V → M → R
 | 0, _, _, _, _, _, _, _ => none
 | i + 1, p10, p3, p0, p1, p9, p2, m =>
  bp (pur (bin .lss false true .int p10 p3) m) fun x3 m =>
  brb x3
  (bp (G.tab Qje [p0, p1] m) fun x4 m =>
  bp (pur (bin .lss true true .int x4 (.int .i64 0)) m) fun x5 m =>
  brb x5
  (Qh8 G p9 p10 p0 m)
  (bp (pur (bin .add false true .int x4 p2) m) fun x6 m =>
  bp (pur (aSliceStr p0 none (some x6)) m) fun x7 m =>
  bp (pur (aIndexAddrSl 1 p9 p10) m) fun x8 m =>
  bp (unt (aStore 1 x8 x7 m)) fun _ m =>
  bp (pur (lenK 0 p1 m) m) fun x9 m =>
  bp (pur (bin .add false true .int x4 x9) m) fun x10 m =>
  bp (pur (aSliceStr p0 (some x10) none) m) fun x11 m =>
  bp (pur (bin .add true true .int p10 (.int .i64 1)) m) fun x12 m =>
  (Qh9 G i) x12 p3 x11 p1 p9 p2 m))
  (Qh8 G p9 p10 p0 m)
def Qu1 (G : Gt) (p10 p3 p0 p1 p9 p2 : V) (m : M) : R :=
  Qh9 G G.rds p10 p3 p0 p1 p9 p2 m
def Qu2 (G : Gt) (p3 p0 p1 p9 p2 : V) (m : M) : R :=
  Qu1 G (.int .i64 0) p3 p0 p1 p9 p2 m
def Qu3 (G : Gt) (p3 p0 p1 p9 p2 : V) (m : M) : R :=
  bp (pur (bin .sub true true .int p3 (.int .i64 1)) m) fun x13 m =>
  Qu2 G x13 p0 p1 p9 p2 m
def Qu4 (G : Gt) (p3 p0 p1 p2 : V) (m : M) : R :=
  bp (aMakeSlice Q1 [(.string ⟨#[]⟩)] 1 16 p3 p3 m) fun x14 m =>
  Qu3 G p3 p0 p1 x14 p2 m
def Qha (G : Gt) (p3 p0 p1 p2 : V) (m : M) : R :=
  bp (pur (lenK 0 p0 m) m) fun x15 m =>
  bp (pur (bin .add true true .int x15 (.int .i64 1)) m) fun x16 m =>
  bp (pur (aMin p3 x16) m) fun x17 m =>
  Qu4 G x17 p0 p1 p2 m
def Qu5 (G : Gt) (p3 p0 p1 p2 : V) (m : M) : R :=
  bp (pur (bin .lss true true .int p3 (.int .i64 0)) m) fun x18 m =>
  brb x18
  (bp (G.tab Q15u [p0, p1] m) fun x19 m =>
  bp (pur (bin .add true true .int x19 (.int .i64 1)) m) fun x20 m =>
  Qha G x20 p0 p1 p2 m)
  (Qha G p3 p0 p1 p2 m)
def Qu6 (G : Gt) (p1 p0 p3 p2 : V) (m : M) : R :=
  bp (pur (bin .eql true true .str p1 (.string ⟨#[]⟩)) m) fun x21 m =>
  brb x21
  (bp (G.tab Q1gq [p0, p3] m) fun x22 m =>
  some (x22, m))
  (Qu5 G p3 p0 p1 p2 m)
def Qu7 (G : Gt) (p3 p1 p0 p2 : V) (m : M) : R :=
  bp (pur (bin .eql true true .int p3 (.int .i64 0)) m) fun x23 m =>
  brb x23
  (some ((.slice none 0 0), m))
  (Qu6 G p1 p0 p3 p2 m)
def Qkr (G : Gt) (p3 p1 p0 p2 : V) (m : M) : R :=
  Qu7 G p3 p1 p0 p2 m
theorem Q1fp (G : Gt) (a0 a1 a2 a3 : V) (m : M) : evFn Tryz.prog G.tab G.rds (drOf Tryz.prog G.tab) Tryz.f270 [a0, a1, a2, a3] m = Qkr G a3 a1 a0 a2 m :=
  evFn_of (r := fun ρ m => Qkr G (ρ 3) (ρ 1) (ρ 0) (ρ 2) m) rfl rfl (tr (seqQ (f := fun ρ m => Qu7 G (ρ 3) (ρ 1) (ρ 0) (ρ 2) m) (tr (seqQ (f := fun ρ m => Qu6 G (ρ 1) (ρ 0) (ρ 3) (ρ 2) m) (tr (seqQ (f := fun ρ m => Qu5 G (ρ 3) (ρ 0) (ρ 1) (ρ 2) m) (tr (seqQ (f := fun ρ m => Qha G (ρ 3) (ρ 0) (ρ 1) (ρ 2) m) (tr (seqQ (f := fun ρ m => Qu4 G (ρ 3) (ρ 0) (ρ 1) (ρ 2) m) (tr (seqQ (f := fun ρ m => Qu3 G (ρ 3) (ρ 0) (ρ 1) (ρ 9) (ρ 2) m) (tr (seqQ (f := fun ρ m => Qu2 G (ρ 3) (ρ 0) (ρ 1) (ρ 9) (ρ 2) m) (tr (seqQ (f := fun ρ m => Qu1 G (ρ 10) (ρ 3) (ρ 0) (ρ 1) (ρ 9) (ρ 2) m) (tr (tr (seqQ (f := fun ρ m => Qh8 G (ρ 9) (ρ 10) (ρ 0) m) (fun ρ m => by kernel_rfl)) (blockQ (loopQ (fun i ρ m => Qh9 G i (ρ 10) (ρ 3) (ρ 0) (ρ 1) (ρ 9) (ρ 2) m) (fun _ _ => rfl) (fun i0 => fun ρ m => by kernel_rfl)))) (fun ρ m => by kernel_rfl))) (fun ρ m => by kernel_rfl))) (fun ρ m => by kernel_rfl))) (fun ρ m => by kernel_rfl))) (fun ρ m => by kernel_rfl))) (fun ρ m => by kernel_rfl))) (fun ρ m => by kernel_rfl))) (fun ρ m => by kernel_rfl))) (fun ρ m => by kernel_rfl)) m
def Q1fq : Entry Tryz.prog := ⟨Qyd, Tryz.f270, Tryz.func270, by kernel_rfl, arg4 (fun G a0 a1 a2 a3 m => Qkr G a3 a1 a0 a2 m), okarg4 Q1fp⟩
def Qqf (G : Gt) (p21 p0 p1 : V) (m : M) : R :=
  brb p21
  (bp (pur (aIndexStr p1 (.int .i64 0)) m) fun x0 m =>
  bp (pur (aIndexStr p1 (.int .i64 0)) m) fun x1 m =>
  bp (G.tab Q14q [p0, x0] m) fun x2 m =>
  bp (G.tab Q181 [x2, x1] m) fun x3 m =>
  some (x3, m))
  (bp (G.tab Qcj [p1] m) fun x4 m =>
  bp (pur (aExtract x4 0) m) fun x5 m =>
  bp (pur (aExtract x4 1) m) fun x6 m =>
  bp (some (aNew Qkn Qko m)) fun x7 m =>
  bp (unt (aStore 256 x7 x5 m)) fun _ m =>
  brb x6
  (bp (G.tab Qkl [p0, x7] m) fun x8 m =>
  bp (G.tab Qmz [x8, x7] m) fun x9 m =>
  some (x9, m))
  (bp (G.tab Qzr [p0, p1] m) fun x10 m =>
  bp (G.tab Q11l [x10, p1] m) fun x11 m =>
  some (x11, m)))
def Q139 (G : Gt) (p1 p0 : V) (m : M) : R :=
  bp (pur (lenK 0 p1 m) m) fun x12 m =>
  bp (pur (bin .eql true true .int x12 (.int .i64 1)) m) fun x13 m =>
  brb x13
  (bp (pur (aIndexStr p1 (.int .i64 0)) m) fun x14 m =>
  bp (pur (bin .lss true true .int x14 (.int .u8 128)) m) fun x15 m =>
  Qqf G x15 p0 p1 m)
  (Qqf G (.bool false) p0 p1 m)
def Qqg (G : Gt) (p12 p0 p1 : V) (m : M) : R :=
  brb p12
  (some (p0, m))
  (Q139 G p1 p0 m)
def Q13a (G : Gt) (p0 p1 : V) (m : M) : R :=
  bp (pur (bin .eql true true .str p0 (.string ⟨#[]⟩)) m) fun x16 m =>
  brb x16
  (Qqg G (.bool true) p0 p1 m)
  (bp (pur (bin .eql true true .str p1 (.string ⟨#[]⟩)) m) fun x17 m =>
  Qqg G x17 p0 p1 m)
def Qxf (G : Gt) (p0 p1 : V) (m : M) : R :=
  Q13a G p0 p1 m
theorem Q1k1 (G : Gt) (a0 a1 : V) (m : M) : evFn Tryz.prog G.tab G.rds (drOf Tryz.prog G.tab) Tryz.f272 [a0, a1] m = Qxf G a0 a1 m :=
  evFn_of (r := fun ρ m => Qxf G (ρ 0) (ρ 1) m) rfl rfl (tr (seqQ (f := fun ρ m => Q13a G (ρ 0) (ρ 1) m) (tr (tr (seqQ (f := fun ρ m => Q139 G (ρ 1) (ρ 0) m) (tr (tr seqD (seqQ (f := fun ρ m => Qqf G (ρ 21) (ρ 0) (ρ 1) m) (fun ρ m => by kernel_rfl))) (fun ρ m => by kernel_rfl))) (seqQ (f := fun ρ m => Qqg G (ρ 12) (ρ 0) (ρ 1) m) (fun ρ m => by kernel_rfl))) (fun ρ m => by kernel_rfl))) (fun ρ m => by kernel_rfl)) m
def Q1k2 : Entry Tryz.prog := ⟨Q19r, Tryz.f272, Tryz.func272, by kernel_rfl, arg2 (fun G a0 a1 m => Qxf G a0 a1 m), okarg2 Q1k1⟩
def Qbk (G : Gt) (p0 : V) (m : M) : R :=
  bp (pur (aNilCheck p0) m) fun x0 m =>
  bp (pur (aFieldAddr 0 x0) m) fun x1 m =>
  bp (pur (aFieldAddr 9 x1) m) fun x2 m =>
  bp (pur (aLoad false 1 x2 m) m) fun x3 m =>
  bp (pur (aNilCheck p0) m) fun x4 m =>
  bp (pur (aFieldAddr 0 x4) m) fun x5 m =>
  bp (pur (aFieldAddr 9 x5) m) fun x6 m =>
  bp (pur (aLoad false 1 x6 m) m) fun x7 m =>
  bp (pur (lenK 1 x7 m) m) fun x8 m =>
  bp (pur (bin .sub true true .int x8 (.int .i64 1)) m) fun x9 m =>
  bp (pur (aIndexAddrSl 3 x3 x9) m) fun x10 m =>
  bp (pur (aFieldAddr 1 x10) m) fun x11 m =>
  bp (pur (aLoad false 1 x11 m) m) fun x12 m =>
  bp (pur (lenK 1 x12 m) m) fun x13 m =>
  bp (pur (bin .sub true true .int x13 (.int .i64 1)) m) fun x14 m =>
  bp (pur (aIndexAddrSl 15 x12 x14) m) fun x15 m =>
  some (x15, m)
theorem Q14u (G : Gt) (a0 : V) (m : M) : evFn Tryz.prog G.tab G.rds (drOf Tryz.prog G.tab) Tryz.f274 [a0] m = Qbk G a0 m :=
  evFn_of (r := fun ρ m => Qbk G (ρ 0) m) rfl rfl (fun ρ m => by kernel_rfl) m
def Q14v : Entry Tryz.prog := ⟨Qbj, Tryz.f274, Tryz.func274, by kernel_rfl, arg1 (fun G a0 m => Qbk G a0 m), okarg1 Q14u⟩
def Q94 (G : Gt) (p0 : V) (m : M) : R :=
  some (p0, m)
def Q95 (G : Gt) : Nat → V → V → M → R
 | 0, _, _, _ => none
 | i + 1, p0, p1, m =>
  bp (pur (lenK 0 p0 m) m) fun x0 m =>
  bp (pur (bin .gtr true true .int x0 (.int .i64 0)) m) fun x1 m =>
  brb x1
  (bp (pur (aIndexStr p0 (.int .i64 0)) m) fun x2 m =>
  bp (G.tab Q3r [p1, x2] m) fun x3 m =>
  bp (pur (un .not x3) m) fun x4 m =>
  brb x4
  (Q94 G p0 m)
  (bp (pur (aSliceStr p0 (some (.int .i64 1)) none) m) fun x5 m =>
  (Q95 G i) x5 p1 m))
  (Q94 G p0 m)
def Qjp (G : Gt) (p0 p1 : V) (m : M) : R :=
  Q95 G G.rds p0 p1 m
def Qbl (G : Gt) (p0 p1 : V) (m : M) : R :=
  Qjp G p0 p1 m
theorem Q14w (G : Gt) (a0 a1 : V) (m : M) : evFn Tryz.prog G.tab G.rds (drOf Tryz.prog G.tab) Tryz.f283 [a0, a1] m = Qbl G a0 a1 m :=
  evFn_of (r := fun ρ m => Qbl G (ρ 0) (ρ 1) m) rfl rfl (tr (seqQ (f := fun ρ m => Qjp G (ρ 0) (ρ 1) m) (tr (tr (seqQ (f := fun ρ m => Q94 G (ρ 0) m) (fun ρ m => by kernel_rfl)) (blockQ (loopQ (fun i ρ m => Q95 G i (ρ 0) (ρ 1) m) (fun _ _ => rfl) (fun i0 => fun ρ m => by kernel_rfl)))) (fun ρ m => by kernel_rfl))) (fun ρ m => by kernel_rfl)) m
def Q14x : Entry Tryz.prog := ⟨Qmz, Tryz.f283, Tryz.func283, by kernel_rfl, arg2 (fun G a0 a1 m => Qbl G a0 a1 m), okarg2 Q14w⟩
end
end Go.Ab.Sh

set_option linter.unusedVariables false
set_option maxRecDepth 100000
namespace Go.Ab.Sh
open Go Go.Ab Go.Proofs
noncomputable section
def Q8i (G : Gt) (p0 : V) (m : M) : R :=
  some (p0, m)
def Q8j (G : Gt) : Nat → V → V → M → R
 | 0, _, _, _ => none
 | i + 1, p0, p1, m =>
  bp (pur (lenK 0 p0 m) m) fun x0 m =>
  bp (pur (bin .gtr true true .int x0 (.int .i64 0)) m) fun x1 m =>
  brb x1
  (bp (pur (lenK 0 p0 m) m) fun x2 m =>
  bp (pur (bin .sub true true .int x2 (.int .i64 1)) m) fun x3 m =>
  bp (pur (aIndexStr p0 x3) m) fun x4 m =>
  bp (G.tab Q3r [p1, x4] m) fun x5 m =>
  bp (pur (un .not x5) m) fun x6 m =>
  brb x6
  (Q8i G p0 m)
  (bp (pur (lenK 0 p0 m) m) fun x7 m =>
  bp (pur (bin .sub true true .int x7 (.int .i64 1)) m) fun x8 m =>
  bp (pur (aSliceStr p0 none (some x8)) m) fun x9 m =>
  (Q8j G i) x9 p1 m))
  (Q8i G p0 m)
def Qi6 (G : Gt) (p0 p1 : V) (m : M) : R :=
  Q8j G G.rds p0 p1 m
def Qak (G : Gt) (p0 p1 : V) (m : M) : R :=
  Qi6 G p0 p1 m
theorem Q13b (G : Gt) (a0 a1 : V) (m : M) : evFn Tryz.prog G.tab G.rds (drOf Tryz.prog G.tab) Tryz.f284 [a0, a1] m = Qak G a0 a1 m :=
  evFn_of (r := fun ρ m => Qak G (ρ 0) (ρ 1) m) rfl rfl (tr (seqQ (f := fun ρ m => Qi6 G (ρ 0) (ρ 1) m) (tr (tr (seqQ (f := fun ρ m => Q8i G (ρ 0) m) (fun ρ m => by kernel_rfl)) (blockQ (loopQ (fun i ρ m => Q8j G i (ρ 0) (ρ 1) m) (fun _ _ => rfl) (fun i0 => fun ρ m => by kernel_rfl)))) (fun ρ m => by kernel_rfl))) (fun ρ m => by kernel_rfl)) m
def Q13c : Entry Tryz.prog := ⟨Qkl, Tryz.f284, Tryz.func284, by kernel_rfl, arg2 (fun G a0 a1 m => Qak G a0 a1 m), okarg2 Q13b⟩
end
end Go.Ab.Sh
