/-
  Functions of the program as plain definitions, each with the theorem that it is what the evaluator makes of the code. No conditions.
-/
import Derived.Test.YtchdjkidnjfcjaaGreatDoorAb5
import Derived.Test.YtchdjkidnjfcjaaGreatDoorZ
import Derived.KernelRfl
import Derived.Test.YtchdjkidnjfcjaaGreatDoorProg
set_option linter.unusedVariables false
set_option maxRecDepth 100000
namespace Go.Ab.Sh
open Go Go.Ab Go.Proofs
noncomputable section
def Ql3 (G : Gt) (p3 : V) (m : M) : R :=
  some (p3, m)
def Qam (G : Gt) (k0 : V → V → V → M → R) (p3 p5 p0 : V) (m : M) : R :=
  bp (aBuildSlice Q1ch [(.int .u32 0)] 1 1 [(0, p5)] m) fun x0 m =>
  bp (apS Q1ch 1 4 p3 x0 m) fun x1 m =>
  bp (G.tab Q2i [p0] m) fun x2 m =>
  k0 x2 p0 x1 m
def Ql4 (G : Gt) (k0 : V → V → V → M → R) (p6 p0 p3 p5 : V) (m : M) : R :=
  bp (pur (bin .neq true true .int p6 (.int .i64 0)) m) fun x3 m =>
  brb x3
  (bp (G.tab Qe [p0, (.int .i64 130)] m) fun x4 m =>
  Qam G k0 p3 p5 p0 m)
  (Qam G k0 p3 p5 p0 m)
def Ql5 (G : Gt) (k0 : V → V → V → M → R) (p0 p3 : V) (m : M) : R :=
  bp (G.tab Qi [p0] m) fun x5 m =>
  bp (G.tab Q1dn [x5] m) fun x6 m =>
  bp (pur (aExtract x6 0) m) fun x7 m =>
  bp (pur (aExtract x6 1) m) fun x8 m =>
  Ql4 G k0 x8 p0 p3 x7 m
def Q2k (G : Gt) : Nat → V → V → V → M → R
 | 0, _, _, _, _ => none
 | i + 1, p4, p0, p3, m =>
  brb p4
  (Ql5 G (Q2k G i) p0 p3 m)
  (Ql3 G p3 m)
def Ql6 (G : Gt) (p4 p0 p3 : V) (m : M) : R :=
  Q2k G G.rds p4 p0 p3 m
def Ql7 (G : Gt) (p0 p3 : V) (m : M) : R :=
  Ql6 G (.bool true) p0 p3 m
def Ql8 (G : Gt) (p0 : V) (m : M) : R :=
  Ql7 G p0 (.slice none 0 0) m
def Qco (G : Gt) (p0 : V) (m : M) : R :=
  Ql8 G p0 m
theorem Q189 (G : Gt) (a0 : V) (m : M) : evFn Tryz.prog G.tab G.rds (drOf Tryz.prog G.tab) Tryz.f189 [a0] m = Qco G a0 m :=
  evFn_of (r := fun ρ m => Qco G (ρ 0) m) rfl rfl (tr (seqQ (f := fun ρ m => Ql8 G (ρ 0) m) (tr (seqQ (f := fun ρ m => Ql7 G (ρ 0) (ρ 3) m) (tr (tr (seqQ (f := fun ρ m => Ql3 G (ρ 3) m) (fun ρ m => by kernel_rfl)) (seqQ (f := fun ρ m => Ql6 G (ρ 4) (ρ 0) (ρ 3) m) (tr (blockQ (loopQ (fun i ρ m => Q2k G i (ρ 4) (ρ 0) (ρ 3) m) (fun _ _ => rfl) (fun i0 => tr (seqQ (f := fun ρ m => Ql5 G (Q2k G i0) (ρ 0) (ρ 3) m) (tr (tr seqD (blockQ (seqQ (f := fun ρ m => Ql4 G (Q2k G i0) (ρ 6) (ρ 0) (ρ 3) (ρ 5) m) (tr (seqQ (f := fun ρ m => Qam G (Q2k G i0) (ρ 3) (ρ 5) (ρ 0) m) (fun ρ m => by kernel_rfl)) (fun ρ m => by kernel_rfl))))) (fun ρ m => by kernel_rfl))) (fun ρ m => by kernel_rfl)))) (fun ρ m => by kernel_rfl)))) (fun ρ m => by kernel_rfl))) (fun ρ m => by kernel_rfl))) (fun ρ m => by kernel_rfl)) m
def Q18a : Entry Tryz.prog := ⟨Qck, Tryz.f189, Tryz.func189, by kernel_rfl, arg1 (fun G a0 m => Qco G a0 m), okarg1 Q189⟩
def Qeh (G : Gt) (p0 p1 : V) (m : M) : R :=
  bp (pur (aBuildArr [.nilFunc, .nilFunc] 1 [(0, (.func (.func Qt4) ⟨[p0]⟩ ⟨[]⟩)), (1, (.func (.func Qro) ⟨[p0]⟩ ⟨[]⟩))]) m) fun x0 m =>
  bp (aBuildSlice Q1 [(.string ⟨#[]⟩)] 1 2 [(0, (.string ⟨#[102,114,111,109]⟩)), (1, (.string ⟨#[116,104,101,110]⟩))] m) fun x1 m =>
  bp (G.tab Q8 [p1, x1] m) fun x2 m =>
  bp (pur (aIndexArr 2 1 false x0 x2) m) fun x3 m =>
  bp (G.tab Qj [p0, x3] m) fun x4 m =>
  some (.tuple ⟨[(.bool true), (.string ⟨#[]⟩), x4]⟩, m)
theorem Q1ae (G : Gt) (a0 a1 : V) (m : M) : evFn Tryz.prog G.tab G.rds (drOf Tryz.prog G.tab) Tryz.f190 [a0, a1] m = Qeh G a0 a1 m :=
  evFn_of (r := fun ρ m => Qeh G (ρ 0) (ρ 1) m) rfl rfl (fun ρ m => by kernel_rfl) m
def Q1af : Entry Tryz.prog := ⟨Qrl, Tryz.f190, Tryz.func190, by kernel_rfl, arg2 (fun G a0 a1 m => Qeh G a0 a1 m), okarg2 Q1ae⟩
def Q9a (G : Gt) (p9 p8 : V) (m : M) : R :=
  bp (pur (aLoad true 4 p9 m) m) fun x0 m =>
  bp (unt (aStore 4 p8 x0 m)) fun _ m =>
  ob (ob (aLoad true 4 p8 m) fun v => ob (some []) fun l => some (v :: l)) fun l => some (resVal l, m)
def Q9b (G : Gt) (p0 p9 p8 : V) (m : M) : R :=
  bp (G.tab Qq [p0, (.string ⟨#[112,111,108,105,99,121]⟩)] m) fun x1 m =>
  brb x1
  (bp (G.tab Q7 [p0] m) fun x2 m =>
  bp (pur (aFieldAddr 3 p9) m) fun x3 m =>
  bp (unt (aStore 1 x3 x2 m)) fun _ m =>
  Q9a G p9 p8 m)
  (Q9a G p9 p8 m)
def Q9c (G : Gt) (p29 p0 p9 p8 : V) (m : M) : R :=
  brb p29
  (bp (G.tab Qc [p0, (.int .i64 1), (.int .i64 2)] m) fun x4 m =>
  bp (conv (.int .u8) x4 m) fun x5 m =>
  bp (pur (aFieldAddr 2 p9) m) fun x6 m =>
  bp (unt (aStore 1 x6 x5 m)) fun _ m =>
  Q9b G p0 p9 p8 m)
  (Q9b G p0 p9 p8 m)
def Q9d (G : Gt) (p3 p0 p9 p8 : V) (m : M) : R :=
  bp (pur (bin .gtr true true .int p3 (.int .u8 0)) m) fun x7 m =>
  brb x7
  (bp (G.tab Qq [p0, (.string ⟨#[116,121,112,101]⟩)] m) fun x8 m =>
  Q9c G x8 p0 p9 p8 m)
  (Q9c G (.bool false) p0 p9 p8 m)
def Qjx (G : Gt) (p0 p9 p3 p8 : V) (m : M) : R :=
  bp (G.tab Qq [p0, (.string ⟨#[109,101,116,114,105,99]⟩)] m) fun x9 m =>
  brb x9
  (bp (G.tab Qc [p0, (.int .i64 0), (.int .i64 16777216)] m) fun x10 m =>
  bp (pur (aFieldAddr 1 p9) m) fun x11 m =>
  bp (unt (aStore 1 x11 x10 m)) fun _ m =>
  Q9d G p3 p0 p9 p8 m)
  (Q9d G p3 p0 p9 p8 m)
def Qjy (G : Gt) (p2 p0 p1 p3 p8 : V) (m : M) : R :=
  bp (pur (aBuildArr Q1pm 1 [(0, (.int .u8 1)), (1, (.int .u8 2)), (2, p2)]) m) fun x12 m =>
  bp (aBuildSlice Q1 [(.string ⟨#[]⟩)] 1 3 [(0, (.string ⟨#[100,105,114,101,99,116]⟩)), (1, (.string ⟨#[115,116,97,116,105,99]⟩)), (2, p1)] m) fun x13 m =>
  bp (G.tab Q8 [p0, x13] m) fun x14 m =>
  bp (pur (aIndexArr 3 1 false x12 x14) m) fun x15 m =>
  bp (pur (aBuild Q60 [(0, 1), (1, 1), (2, 1), (3, 1)] [(0, x15), (1, (.int .i64 (-1))), (2, p3)]) m) fun x16 m =>
  bp (some (aNew Q4m Q60 m)) fun x17 m =>
  bp (unt (aStore 4 x17 x16 m)) fun _ m =>
  Qjx G p0 x17 p3 p8 m
def Qbo (G : Gt) (p2 p0 p1 p3 : V) (m : M) : R :=
  bp (some (aNew Q4m Q60 m)) fun x18 m =>
  Qjy G p2 p0 p1 p3 x18 m
theorem Q150 (G : Gt) (a0 a1 a2 a3 : V) (m : M) : evFn Tryz.prog G.tab G.rds (drOf Tryz.prog G.tab) Tryz.f191 [a0, a1, a2, a3] m = Qbo G a2 a0 a1 a3 m :=
  evFn_of (r := fun ρ m => Qbo G (ρ 2) (ρ 0) (ρ 1) (ρ 3) m) rfl rfl (tr (seqQ (f := fun ρ m => Qjy G (ρ 2) (ρ 0) (ρ 1) (ρ 3) (ρ 8) m) (tr (seqQ (f := fun ρ m => Qjx G (ρ 0) (ρ 9) (ρ 3) (ρ 8) m) (tr (seqQ (f := fun ρ m => Q9d G (ρ 3) (ρ 0) (ρ 9) (ρ 8) m) (tr (tr (seqQ (f := fun ρ m => Q9b G (ρ 0) (ρ 9) (ρ 8) m) (tr (seqQ (f := fun ρ m => Q9a G (ρ 9) (ρ 8) m) (fun ρ m => by kernel_rfl)) (fun ρ m => by kernel_rfl))) (seqQ (f := fun ρ m => Q9c G (ρ 29) (ρ 0) (ρ 9) (ρ 8) m) (fun ρ m => by kernel_rfl))) (fun ρ m => by kernel_rfl))) (fun ρ m => by kernel_rfl))) (fun ρ m => by kernel_rfl))) (fun ρ m => by kernel_rfl)) m
def Q151 : Entry Tryz.prog := ⟨Qbi, Tryz.f191, Tryz.func191, by kernel_rfl, arg4 (fun G a0 a1 a2 a3 m => Qbo G a2 a0 a1 a3 m), okarg4 Q150⟩
def Qiz (G : Gt) (p0 : V) (m : M) : R :=
  bp (G.tab Qc [p0, (.int .i64 1), (.int .i64 4294967295)] m) fun x0 m =>
  bp (conv (.int .u32) x0 m) fun x1 m =>
  some (x1, m)
theorem Q1er (G : Gt) (a0 : V) (m : M) : evFn Tryz.prog G.tab G.rds (drOf Tryz.prog G.tab) Tryz.f192 [a0] m = Qiz G a0 m :=
  evFn_of (r := fun ρ m => Qiz G (ρ 0) m) rfl rfl (fun ρ m => by kernel_rfl) m
def Q1es : Entry Tryz.prog := ⟨Q6o, Tryz.f192, Tryz.func192, by kernel_rfl, arg1 (fun G a0 m => Qiz G a0 m), okarg1 Q1er⟩
def Q1n (G : Gt) (p9 : V) (m : M) : R :=
  some (.tuple ⟨[(.bool false), p9, .nilFunc]⟩, m)
def Qn5 (G : Gt) (p9 p8 p1 : V) (m : M) : R :=
  bp (pur (bin .eql true true .str p9 (.string ⟨#[112,101,101,114,45,97,115]⟩)) m) fun x0 m =>
  brb x0
  (bp (G.tab Q6o [p1] m) fun x1 m =>
  bp (pur (aNilCheck p8) m) fun x2 m =>
  bp (pur (aFieldAddr 1 x2) m) fun x3 m =>
  bp (unt (aStore 1 x3 x1 m)) fun _ m =>
  Q1n G p9 m)
  (bp (pur (bin .eql true true .str p9 (.string ⟨#[105,109,112,111,114,116]⟩)) m) fun x4 m =>
  brb x4
  (bp (G.tab Q7 [p1] m) fun x5 m =>
  bp (pur (aNilCheck p8) m) fun x6 m =>
  bp (pur (aFieldAddr 2 x6) m) fun x7 m =>
  bp (unt (aStore 1 x7 x5 m)) fun _ m =>
  Q1n G p9 m)
  (bp (pur (bin .eql true true .str p9 (.string ⟨#[101,120,112,111,114,116]⟩)) m) fun x8 m =>
  brb x8
  (bp (G.tab Q7 [p1] m) fun x9 m =>
  bp (pur (aNilCheck p8) m) fun x10 m =>
  bp (pur (aFieldAddr 3 x10) m) fun x11 m =>
  bp (unt (aStore 1 x11 x9 m)) fun _ m =>
  Q1n G p9 m)
  (bp (pur (bin .eql true true .str p9 (.string ⟨#[99,108,105,101,110,116]⟩)) m) fun x12 m =>
  brb x12
  (bp (pur (aNilCheck p8) m) fun x13 m =>
  bp (pur (aFieldAddr 4 x13) m) fun x14 m =>
  bp (unt (aStore 1 x14 (.bool true) m)) fun _ m =>
  Q1n G p9 m)
  (bp (pur (bin .eql true true .str p9 (.string ⟨#[110,101,120,116,45,104,111,112,45,115,101,108,102]⟩)) m) fun x15 m =>
  brb x15
  (bp (pur (aNilCheck p8) m) fun x16 m =>
  bp (pur (aFieldAddr 5 x16) m) fun x17 m =>
  bp (unt (aStore 1 x17 (.bool true) m)) fun _ m =>
  Q1n G p9 m)
  (bp (G.tab Qe [p1, (.int .i64 130)] m) fun x18 m =>
  Q1n G p9 m)))))
def Qn6 (G : Gt) (p1 p8 : V) (m : M) : R :=
  bp (G.tab Qi [p1] m) fun x19 m =>
  Qn5 G x19 p8 p1 m
def Qn7 (G : Gt) (p7 p1 : V) (m : M) : R :=
  bp (pur (lenK 1 p7 m) m) fun x20 m =>
  bp (pur (bin .sub true true .int x20 (.int .i64 1)) m) fun x21 m =>
  bp (pur (aIndexAddrSl 6 p7 x21) m) fun x22 m =>
  Qn6 G p1 x22 m
def Qn8 (G : Gt) (p0 p1 : V) (m : M) : R :=
  bp (pur (aNilCheck p0) m) fun x23 m =>
  bp (pur (aFieldAddr 0 x23) m) fun x24 m =>
  bp (pur (aFieldAddr 11 x24) m) fun x25 m =>
  bp (pur (aLoad false 1 x25 m) m) fun x26 m =>
  bp (pur (aNilCheck p0) m) fun x27 m =>
  bp (pur (aFieldAddr 0 x27) m) fun x28 m =>
  bp (pur (aFieldAddr 11 x28) m) fun x29 m =>
  bp (pur (aLoad false 1 x29 m) m) fun x30 m =>
  bp (pur (lenK 1 x30 m) m) fun x31 m =>
  bp (pur (bin .sub true true .int x31 (.int .i64 1)) m) fun x32 m =>
  bp (pur (aIndexAddrSl 6 x26 x32) m) fun x33 m =>
  bp (pur (aFieldAddr 4 x33) m) fun x34 m =>
  bp (pur (aLoad false 1 x34 m) m) fun x35 m =>
  Qn7 G x35 p1 m
def Qei (G : Gt) (p0 p1 : V) (m : M) : R :=
  Qn8 G p0 p1 m
theorem Q1ag (G : Gt) (a0 a1 : V) (m : M) : evFn Tryz.prog G.tab G.rds (drOf Tryz.prog G.tab) Tryz.f193 [a0, a1] m = Qei G a0 a1 m :=
  evFn_of (r := fun ρ m => Qei G (ρ 0) (ρ 1) m) rfl rfl (tr (seqQ (f := fun ρ m => Qn8 G (ρ 0) (ρ 1) m) (tr (seqQ (f := fun ρ m => Qn7 G (ρ 7) (ρ 1) m) (tr (seqQ (f := fun ρ m => Qn6 G (ρ 1) (ρ 8) m) (tr (seqQ (f := fun ρ m => Qn5 G (ρ 9) (ρ 8) (ρ 1) m) (tr (seqQ (f := fun ρ m => Q1n G (ρ 9) m) (fun ρ m => by kernel_rfl)) (fun ρ m => by kernel_rfl))) (fun ρ m => by kernel_rfl))) (fun ρ m => by kernel_rfl))) (fun ρ m => by kernel_rfl))) (fun ρ m => by kernel_rfl)) m
def Q1ah : Entry Tryz.prog := ⟨Qrm, Tryz.f193, Tryz.func193, by kernel_rfl, arg2 (fun G a0 a1 m => Qei G a0 a1 m), okarg2 Q1ag⟩
def Qn9 (G : Gt) (p5 : V) (m : M) : R :=
  some (p5, m)
def Qbp (G : Gt) : Nat → V → V → V → V → V → M → R
 | 0, _, _, _, _, _, _ => none
 | i + 1, p11, p10, p9, p5, p1, m =>
  bp (pur (bin .lss false true .int p11 p10) m) fun x0 m =>
  brb x0
  (bp (pur (aIndexAddrSl 1 p9 p11) m) fun x1 m =>
  bp (pur (aLoad false 1 x1 m) m) fun x2 m =>
  bp (evCall G.tab p1 [x2] m) fun x3 m =>
  bp (pur (aLookup .str (.int .i64 0) false p5 x3 m) m) fun x4 m =>
  bp (pur (bin .add true true .int x4 (.int .i64 1)) m) fun x5 m =>
  bp (unt (aMapUpdate .str p5 x3 x5 m)) fun _ m =>
  bp (pur (bin .add true true .int p11 (.int .i64 1)) m) fun x6 m =>
  (Qbp G i) x6 p10 p9 p5 p1 m)
  (Qn9 G p5 m)
def Qna (G : Gt) (p11 p10 p9 p5 p1 : V) (m : M) : R :=
  Qbp G G.rds p11 p10 p9 p5 p1 m
def Qnb (G : Gt) (p0 p5 p1 : V) (m : M) : R :=
  bp (pur (lenK 1 p0 m) m) fun x7 m =>
  Qna G (.int .i64 0) x7 p0 p5 p1 m
def Qnc (G : Gt) (p0 p1 : V) (m : M) : R :=
  bp (some (aMakeMap m)) fun x8 m =>
  Qnb G p0 x8 p1 m
def Qej (G : Gt) (p0 p1 : V) (m : M) : R :=
  Qnc G p0 p1 m
theorem Q1ai (G : Gt) (a0 a1 : V) (m : M) : evFn Tryz.prog G.tab G.rds (drOf Tryz.prog G.tab) Tryz.f194 [a0, a1] m = Qej G a0 a1 m :=
  evFn_of (r := fun ρ m => Qej G (ρ 0) (ρ 1) m) rfl rfl (tr (seqQ (f := fun ρ m => Qnc G (ρ 0) (ρ 1) m) (tr (seqQ (f := fun ρ m => Qnb G (ρ 0) (ρ 5) (ρ 1) m) (tr (tr (seqQ (f := fun ρ m => Qn9 G (ρ 5) m) (fun ρ m => by kernel_rfl)) (seqQ (f := fun ρ m => Qna G (ρ 11) (ρ 10) (ρ 9) (ρ 5) (ρ 1) m) (tr (blockQ (loopQ (fun i ρ m => Qbp G i (ρ 11) (ρ 10) (ρ 9) (ρ 5) (ρ 1) m) (fun _ _ => rfl) (fun i0 => fun ρ m => by kernel_rfl))) (fun ρ m => by kernel_rfl)))) (fun ρ m => by kernel_rfl))) (fun ρ m => by kernel_rfl))) (fun ρ m => by kernel_rfl)) m
def Q1aj : Entry Tryz.prog := ⟨Qrn, Tryz.f194, Tryz.func194, by kernel_rfl, arg2 (fun G a0 a1 m => Qej G a0 a1 m), okarg2 Q1ai⟩
def Qgl (G : Gt) (p5 : V) (m : M) : R :=
  some (p5, m)
def Q7q (G : Gt) : Nat → V → V → V → V → V → M → R
 | 0, _, _, _, _, _, _ => none
 | i + 1, p11, p10, p9, p5, p1, m =>
  bp (pur (bin .lss false true .int p11 p10) m) fun x0 m =>
  brb x0
  (bp (pur (aIndexAddrSl 2 p9 p11) m) fun x1 m =>
  bp (pur (aLoad true 2 x1 m) m) fun x2 m =>
  bp (some (aNew Q7g Qke m)) fun x3 m =>
  bp (unt (aStore 2 x3 x2 m)) fun _ m =>
  bp (pur (aLoad true 2 x3 m) m) fun x4 m =>
  bp (evCall G.tab p1 [x4] m) fun x5 m =>
  bp (pur (aLookup .str (.int .i64 0) false p5 x5 m) m) fun x6 m =>
  bp (pur (bin .add true true .int x6 (.int .i64 1)) m) fun x7 m =>
  bp (unt (aMapUpdate .str p5 x5 x7 m)) fun _ m =>
  bp (pur (bin .add true true .int p11 (.int .i64 1)) m) fun x8 m =>
  (Q7q G i) x8 p10 p9 p5 p1 m)
  (Qgl G p5 m)
def Qgm (G : Gt) (p11 p10 p9 p5 p1 : V) (m : M) : R :=
  Q7q G G.rds p11 p10 p9 p5 p1 m
def Qgn (G : Gt) (p0 p5 p1 : V) (m : M) : R :=
  bp (pur (lenK 1 p0 m) m) fun x9 m =>
  Qgm G (.int .i64 0) x9 p0 p5 p1 m
def Qgo (G : Gt) (p0 p1 : V) (m : M) : R :=
  bp (some (aMakeMap m)) fun x10 m =>
  Qgn G p0 x10 p1 m
def Q9e (G : Gt) (p0 p1 : V) (m : M) : R :=
  Qgo G p0 p1 m
theorem Q11t (G : Gt) (a0 a1 : V) (m : M) : evFn Tryz.prog G.tab G.rds (drOf Tryz.prog G.tab) Tryz.f195 [a0, a1] m = Q9e G a0 a1 m :=
  evFn_of (r := fun ρ m => Q9e G (ρ 0) (ρ 1) m) rfl rfl (tr (seqQ (f := fun ρ m => Qgo G (ρ 0) (ρ 1) m) (tr (seqQ (f := fun ρ m => Qgn G (ρ 0) (ρ 5) (ρ 1) m) (tr (tr (seqQ (f := fun ρ m => Qgl G (ρ 5) m) (fun ρ m => by kernel_rfl)) (seqQ (f := fun ρ m => Qgm G (ρ 11) (ρ 10) (ρ 9) (ρ 5) (ρ 1) m) (tr (blockQ (loopQ (fun i ρ m => Q7q G i (ρ 11) (ρ 10) (ρ 9) (ρ 5) (ρ 1) m) (fun _ _ => rfl) (fun i0 => fun ρ m => by kernel_rfl))) (fun ρ m => by kernel_rfl)))) (fun ρ m => by kernel_rfl))) (fun ρ m => by kernel_rfl))) (fun ρ m => by kernel_rfl)) m
def Q11u : Entry Tryz.prog := ⟨Qjm, Tryz.f195, Tryz.func195, by kernel_rfl, arg2 (fun G a0 a1 m => Q9e G a0 a1 m), okarg2 Q11t⟩
def Qbc (G : Gt) (p5 : V) (m : M) : R :=
  some (p5, m)
def Q5l (G : Gt) : Nat → V → V → V → V → V → M → R
 | 0, _, _, _, _, _, _ => none
 | i + 1, p11, p10, p9, p5, p1, m =>
  bp (pur (bin .lss false true .int p11 p10) m) fun x0 m =>
  brb x0
  (bp (pur (aIndexAddrSl 2 p9 p11) m) fun x1 m =>
  bp (pur (aLoad true 2 x1 m) m) fun x2 m =>
  bp (some (aNew Q3p Q6z m)) fun x3 m =>
  bp (unt (aStore 2 x3 x2 m)) fun _ m =>
  bp (pur (aLoad true 2 x3 m) m) fun x4 m =>
  bp (evCall G.tab p1 [x4] m) fun x5 m =>
  bp (pur (aLookup .str (.int .i64 0) false p5 x5 m) m) fun x6 m =>
  bp (pur (bin .add true true .int x6 (.int .i64 1)) m) fun x7 m =>
  bp (unt (aMapUpdate .str p5 x5 x7 m)) fun _ m =>
  bp (pur (bin .add true true .int p11 (.int .i64 1)) m) fun x8 m =>
  (Q5l G i) x8 p10 p9 p5 p1 m)
  (Qbc G p5 m)
def Qbd (G : Gt) (p11 p10 p9 p5 p1 : V) (m : M) : R :=
  Q5l G G.rds p11 p10 p9 p5 p1 m
def Qbe (G : Gt) (p0 p5 p1 : V) (m : M) : R :=
  bp (pur (lenK 1 p0 m) m) fun x9 m =>
  Qbd G (.int .i64 0) x9 p0 p5 p1 m
def Qbf (G : Gt) (p0 p1 : V) (m : M) : R :=
  bp (some (aMakeMap m)) fun x10 m =>
  Qbe G p0 x10 p1 m
def Q6g (G : Gt) (p0 p1 : V) (m : M) : R :=
  Qbf G p0 p1 m
theorem Qvp (G : Gt) (a0 a1 : V) (m : M) : evFn Tryz.prog G.tab G.rds (drOf Tryz.prog G.tab) Tryz.f196 [a0, a1] m = Q6g G a0 a1 m :=
  evFn_of (r := fun ρ m => Q6g G (ρ 0) (ρ 1) m) rfl rfl (tr (seqQ (f := fun ρ m => Qbf G (ρ 0) (ρ 1) m) (tr (seqQ (f := fun ρ m => Qbe G (ρ 0) (ρ 5) (ρ 1) m) (tr (tr (seqQ (f := fun ρ m => Qbc G (ρ 5) m) (fun ρ m => by kernel_rfl)) (seqQ (f := fun ρ m => Qbd G (ρ 11) (ρ 10) (ρ 9) (ρ 5) (ρ 1) m) (tr (blockQ (loopQ (fun i ρ m => Q5l G i (ρ 11) (ρ 10) (ρ 9) (ρ 5) (ρ 1) m) (fun _ _ => rfl) (fun i0 => fun ρ m => by kernel_rfl))) (fun ρ m => by kernel_rfl)))) (fun ρ m => by kernel_rfl))) (fun ρ m => by kernel_rfl))) (fun ρ m => by kernel_rfl)) m
def Qvq : Entry Tryz.prog := ⟨Qda, Tryz.f196, Tryz.func196, by kernel_rfl, arg2 (fun G a0 a1 m => Q6g G a0 a1 m), okarg2 Qvp⟩
def Q8v (G : Gt) (p5 : V) (m : M) : R :=
  some (p5, m)
def Q40 (G : Gt) : Nat → V → V → V → V → V → M → R
 | 0, _, _, _, _, _, _ => none
 | i + 1, p11, p10, p9, p5, p1, m =>
  bp (pur (bin .lss false true .int p11 p10) m) fun x0 m =>
  brb x0
  (bp (pur (aIndexAddrSl 2 p9 p11) m) fun x1 m =>
  bp (pur (aLoad true 2 x1 m) m) fun x2 m =>
  bp (some (aNew Q2f Q4d m)) fun x3 m =>
  bp (unt (aStore 2 x3 x2 m)) fun _ m =>
  bp (pur (aLoad true 2 x3 m) m) fun x4 m =>
  bp (evCall G.tab p1 [x4] m) fun x5 m =>
  bp (pur (aLookup .str (.int .i64 0) false p5 x5 m) m) fun x6 m =>
  bp (pur (bin .add true true .int x6 (.int .i64 1)) m) fun x7 m =>
  bp (unt (aMapUpdate .str p5 x5 x7 m)) fun _ m =>
  bp (pur (bin .add true true .int p11 (.int .i64 1)) m) fun x8 m =>
  (Q40 G i) x8 p10 p9 p5 p1 m)
  (Q8v G p5 m)
def Q8w (G : Gt) (p11 p10 p9 p5 p1 : V) (m : M) : R :=
  Q40 G G.rds p11 p10 p9 p5 p1 m
def Q8x (G : Gt) (p0 p5 p1 : V) (m : M) : R :=
  bp (pur (lenK 1 p0 m) m) fun x9 m =>
  Q8w G (.int .i64 0) x9 p0 p5 p1 m
def Q8y (G : Gt) (p0 p1 : V) (m : M) : R :=
  bp (some (aMakeMap m)) fun x10 m =>
  Q8x G p0 x10 p1 m
def Q57 (G : Gt) (p0 p1 : V) (m : M) : R :=
  Q8y G p0 p1 m
theorem Qqk (G : Gt) (a0 a1 : V) (m : M) : evFn Tryz.prog G.tab G.rds (drOf Tryz.prog G.tab) Tryz.f197 [a0, a1] m = Q57 G a0 a1 m :=
  evFn_of (r := fun ρ m => Q57 G (ρ 0) (ρ 1) m) rfl rfl (tr (seqQ (f := fun ρ m => Q8y G (ρ 0) (ρ 1) m) (tr (seqQ (f := fun ρ m => Q8x G (ρ 0) (ρ 5) (ρ 1) m) (tr (tr (seqQ (f := fun ρ m => Q8v G (ρ 5) m) (fun ρ m => by kernel_rfl)) (seqQ (f := fun ρ m => Q8w G (ρ 11) (ρ 10) (ρ 9) (ρ 5) (ρ 1) m) (tr (blockQ (loopQ (fun i ρ m => Q40 G i (ρ 11) (ρ 10) (ρ 9) (ρ 5) (ρ 1) m) (fun _ _ => rfl) (fun i0 => fun ρ m => by kernel_rfl))) (fun ρ m => by kernel_rfl)))) (fun ρ m => by kernel_rfl))) (fun ρ m => by kernel_rfl))) (fun ρ m => by kernel_rfl)) m
def Qql : Entry Tryz.prog := ⟨Qag, Tryz.f197, Tryz.func197, by kernel_rfl, arg2 (fun G a0 a1 m => Q57 G a0 a1 m), okarg2 Qqk⟩
def Qgp (G : Gt) (p5 : V) (m : M) : R :=
  some (p5, m)
def Q7r (G : Gt) : Nat → V → V → V → V → V → M → R
 | 0, _, _, _, _, _, _ => none
 | i + 1, p11, p10, p9, p5, p1, m =>
  bp (pur (bin .lss false true .int p11 p10) m) fun x0 m =>
  brb x0
  (bp (pur (aIndexAddrSl 3 p9 p11) m) fun x1 m =>
  bp (pur (aLoad true 3 x1 m) m) fun x2 m =>
  bp (some (aNew Q7l Qea m)) fun x3 m =>
  bp (unt (aStore 3 x3 x2 m)) fun _ m =>
  bp (pur (aLoad true 3 x3 m) m) fun x4 m =>
  bp (evCall G.tab p1 [x4] m) fun x5 m =>
  bp (pur (aLookup .str (.int .i64 0) false p5 x5 m) m) fun x6 m =>
  bp (pur (bin .add true true .int x6 (.int .i64 1)) m) fun x7 m =>
  bp (unt (aMapUpdate .str p5 x5 x7 m)) fun _ m =>
  bp (pur (bin .add true true .int p11 (.int .i64 1)) m) fun x8 m =>
  (Q7r G i) x8 p10 p9 p5 p1 m)
  (Qgp G p5 m)
def Qgq (G : Gt) (p11 p10 p9 p5 p1 : V) (m : M) : R :=
  Q7r G G.rds p11 p10 p9 p5 p1 m
def Qgr (G : Gt) (p0 p5 p1 : V) (m : M) : R :=
  bp (pur (lenK 1 p0 m) m) fun x9 m =>
  Qgq G (.int .i64 0) x9 p0 p5 p1 m
def Qgs (G : Gt) (p0 p1 : V) (m : M) : R :=
  bp (some (aMakeMap m)) fun x10 m =>
  Qgr G p0 x10 p1 m
def Q9f (G : Gt) (p0 p1 : V) (m : M) : R :=
  Qgs G p0 p1 m
theorem Q11v (G : Gt) (a0 a1 : V) (m : M) : evFn Tryz.prog G.tab G.rds (drOf Tryz.prog G.tab) Tryz.f198 [a0, a1] m = Q9f G a0 a1 m :=
  evFn_of (r := fun ρ m => Q9f G (ρ 0) (ρ 1) m) rfl rfl (tr (seqQ (f := fun ρ m => Qgs G (ρ 0) (ρ 1) m) (tr (seqQ (f := fun ρ m => Qgr G (ρ 0) (ρ 5) (ρ 1) m) (tr (tr (seqQ (f := fun ρ m => Qgp G (ρ 5) m) (fun ρ m => by kernel_rfl)) (seqQ (f := fun ρ m => Qgq G (ρ 11) (ρ 10) (ρ 9) (ρ 5) (ρ 1) m) (tr (blockQ (loopQ (fun i ρ m => Q7r G i (ρ 11) (ρ 10) (ρ 9) (ρ 5) (ρ 1) m) (fun _ _ => rfl) (fun i0 => fun ρ m => by kernel_rfl))) (fun ρ m => by kernel_rfl)))) (fun ρ m => by kernel_rfl))) (fun ρ m => by kernel_rfl))) (fun ρ m => by kernel_rfl)) m
def Q11w : Entry Tryz.prog := ⟨Qjn, Tryz.f198, Tryz.func198, by kernel_rfl, arg2 (fun G a0 a1 m => Q9f G a0 a1 m), okarg2 Q11v⟩
end
end Go.Ab.Sh

set_option linter.unusedVariables false
set_option maxRecDepth 100000
namespace Go.Ab.Sh
open Go Go.Ab Go.Proofs
noncomputable section
def Q79 (G : Gt) (m : M) : R :=
  some ((.int .i64 (-1)), m)
def Q3h (G : Gt) : Nat → V → V → V → V → M → R
 | 0, _, _, _, _, _ => none
 | i + 1, p8, p7, p1, p0, m =>
  bp (pur (bin .lss false true .int p8 p7) m) fun x0 m =>
  brb x0
  (bp (pur (aIndexAddrSl 1 p0 p8) m) fun x1 m =>
  bp (pur (aLoad false 1 x1 m) m) fun x2 m =>
  bp (evCall G.tab p1 [x2] m) fun x3 m =>
  brb x3
  (some (p8, m))
  (bp (pur (bin .add true true .int p8 (.int .i64 1)) m) fun x4 m =>
  (Q3h G i) x4 p7 p1 p0 m))
  (Q79 G m)
def Q7a (G : Gt) (p8 p7 p1 p0 : V) (m : M) : R :=
  Q3h G G.rds p8 p7 p1 p0 m
def Q7b (G : Gt) (p0 p1 : V) (m : M) : R :=
  bp (pur (lenK 1 p0 m) m) fun x5 m =>
  Q7a G (.int .i64 0) x5 p1 p0 m
def Q3s (G : Gt) (p0 p1 : V) (m : M) : R :=
  Q7b G p0 p1 m
theorem Qmm (G : Gt) (a0 a1 : V) (m : M) : evFn Tryz.prog G.tab G.rds (drOf Tryz.prog G.tab) Tryz.f199 [a0, a1] m = Q3s G a0 a1 m :=
  evFn_of (r := fun ρ m => Q3s G (ρ 0) (ρ 1) m) rfl rfl (tr (seqQ (f := fun ρ m => Q7b G (ρ 0) (ρ 1) m) (tr (tr (seqQ (f := fun ρ m => Q79 G m) (fun ρ m => by kernel_rfl)) (seqQ (f := fun ρ m => Q7a G (ρ 8) (ρ 7) (ρ 1) (ρ 0) m) (tr (blockQ (loopQ (fun i ρ m => Q3h G i (ρ 8) (ρ 7) (ρ 1) (ρ 0) m) (fun _ _ => rfl) (fun i0 => fun ρ m => by kernel_rfl))) (fun ρ m => by kernel_rfl)))) (fun ρ m => by kernel_rfl))) (fun ρ m => by kernel_rfl)) m
def Qmn : Entry Tryz.prog := ⟨Q83, Tryz.f199, Tryz.func199, by kernel_rfl, arg2 (fun G a0 a1 m => Q3s G a0 a1 m), okarg2 Qmm⟩
def Qbq (G : Gt) (p1 p0 p2 p3 : V) (m : M) : R :=
  bp (pur (aLoad false 1 p1 m) m) fun x0 m =>
  bp (pur (aLoad false 1 p1 m) m) fun x1 m =>
  bp (pur (aLoad false 1 p2 m) m) fun x2 m =>
  bp (pur (aLoad false 1 p3 m) m) fun x3 m =>
  bp (pur (aIndexAddrSl 1 x2 x3) m) fun x4 m =>
  bp (pur (aLoad false 1 x4 m) m) fun x5 m =>
  bp (evCall G.tab x0 [p0] m) fun x6 m =>
  ckB (again (pur (aLoad false 1 p1 m) m) x1 && (again (pur (aLoad false 1 p2 m) m) x2 && (again (pur (aLoad false 1 p3 m) m) x3 && (again (pur (aLoad false 1 x4 m) m) x5 && true))))
  (bp (evCall G.tab x1 [x5] m) fun x7 m =>
  bp (pur (bin .eql false true .str x6 x7) m) fun x8 m =>
  some (x8, m))
theorem Q152 (G : Gt) (a0 a1 a2 a3 : V) (m : M) : evFn Tryz.prog G.tab G.rds (drOf Tryz.prog G.tab) Tryz.f200 [a0, a1, a2, a3] m = Qbq G a1 a0 a2 a3 m :=
  evFn_of (r := fun ρ m => Qbq G (ρ 1) (ρ 0) (ρ 2) (ρ 3) m) rfl rfl (fun ρ m => by kernel_rfl) m
def Q153 : Entry Tryz.prog := ⟨Qmw, Tryz.f200, Tryz.func200, by kernel_rfl, arg4 (fun G a0 a1 a2 a3 m => Qbq G a1 a0 a2 a3 m), okarg4 Q152⟩
def Qqm (G : Gt) (p6 : V) (m : M) : R :=
  some (p6, m)
def Q13i (G : Gt) (p1 p0 p2 : V) (m : M) : R :=
  bp (pur (bin .leq false true .int p1 p0) m) fun x0 m =>
  brb x0
  (bp (pur (bin .leq false true .int p0 p2) m) fun x1 m =>
  Qqm G x1 m)
  (Qqm G (.bool false) m)
def Qxi (G : Gt) (p1 p0 p2 : V) (m : M) : R :=
  Q13i G p1 p0 p2 m
theorem Q1k3 (G : Gt) (a0 a1 a2 : V) (m : M) : evFn Tryz.prog G.tab G.rds (drOf Tryz.prog G.tab) Tryz.f201 [a0, a1, a2] m = Qxi G a1 a0 a2 m :=
  evFn_of (r := fun ρ m => Qxi G (ρ 1) (ρ 0) (ρ 2) m) rfl rfl (tr (seqQ (f := fun ρ m => Q13i G (ρ 1) (ρ 0) (ρ 2) m) (tr (seqQ (f := fun ρ m => Qqm G (ρ 6) m) (fun ρ m => by kernel_rfl)) (fun ρ m => by kernel_rfl))) (fun ρ m => by kernel_rfl)) m
def Q1k4 : Entry Tryz.prog := ⟨Q1q, Tryz.f201, Tryz.func201, by kernel_rfl, arg3 (fun G a0 a1 a2 m => Qxi G a1 a0 a2 m), okarg3 Q1k3⟩
def Qan (G : Gt) (p0 p1 p2 : V) (m : M) : R :=
  bp (some (aNew Q1l6 (Value.cells p0).toList m)) fun x0 m =>
  bp (some (aNew Q2h (Value.cells p1).toList m)) fun x1 m =>
  bp (some (aNew Q185 (Value.cells p2).toList m)) fun x2 m =>
  bp (pur (aLoad false 1 x0 m) m) fun x3 m =>
  let x4 : V := (.func (.func Qi2) ⟨[]⟩ ⟨[x2, x0, x1]⟩)
  bp (pur (aLoad false 1 x1 m) m) fun x5 m =>
  bp (G.tab Q5p [x3, x4] m) fun x6 m =>
  ckB (again (pur (aLoad false 1 x1 m) m) x5 && true)
  (bp (pur (bin .eql false true .int x6 x5) m) fun x7 m =>
  some (x7, m))
theorem Q13j (G : Gt) (a0 a1 a2 : V) (m : M) : evFn Tryz.prog G.tab G.rds (drOf Tryz.prog G.tab) Tryz.f202 [a0, a1, a2] m = Qan G a0 a1 a2 m :=
  evFn_of (r := fun ρ m => Qan G (ρ 0) (ρ 1) (ρ 2) m) rfl rfl (fun ρ m => by kernel_rfl) m
def Q13k : Entry Tryz.prog := ⟨Qkj, Tryz.f202, Tryz.func202, by kernel_rfl, arg3 (fun G a0 a1 a2 m => Qan G a0 a1 a2 m), okarg3 Q13j⟩
def Qua (G : Gt) (p0 : V) (m : M) : R :=
  bp (some (aNew Q9v (Value.cells p0).toList m)) fun x0 m =>
  bp (pur (aFieldAddr 0 x0) m) fun x1 m =>
  bp (pur (aLoad false 1 x1 m) m) fun x2 m =>
  some (x2, m)
theorem Q1ix (G : Gt) (a0 : V) (m : M) : evFn Tryz.prog G.tab G.rds (drOf Tryz.prog G.tab) Tryz.f203 [a0] m = Qua G a0 m :=
  evFn_of (r := fun ρ m => Qua G (ρ 0) m) rfl rfl (fun ρ m => by kernel_rfl) m
def Q1iy : Entry Tryz.prog := ⟨Q15s, Tryz.f203, Tryz.func203, by kernel_rfl, arg1 (fun G a0 m => Qua G a0 m), okarg1 Q1ix⟩
def Q47 (G : Gt) (m : M) : R :=
  some ((.int .i64 (-1)), m)
def Q1v (G : Gt) : Nat → V → V → V → V → M → R
 | 0, _, _, _, _, _ => none
 | i + 1, p8, p7, p1, p0, m =>
  bp (pur (bin .lss false true .int p8 p7) m) fun x0 m =>
  brb x0
  (bp (pur (aIndexAddrSl 2 p0 p8) m) fun x1 m =>
  bp (pur (aLoad true 2 x1 m) m) fun x2 m =>
  bp (evCall G.tab p1 [x2] m) fun x3 m =>
  brb x3
  (some (p8, m))
  (bp (pur (bin .add true true .int p8 (.int .i64 1)) m) fun x4 m =>
  (Q1v G i) x4 p7 p1 p0 m))
  (Q47 G m)
def Q48 (G : Gt) (p8 p7 p1 p0 : V) (m : M) : R :=
  Q1v G G.rds p8 p7 p1 p0 m
def Q49 (G : Gt) (p0 p1 : V) (m : M) : R :=
  bp (pur (lenK 1 p0 m) m) fun x5 m =>
  Q48 G (.int .i64 0) x5 p1 p0 m
def Q29 (G : Gt) (p0 p1 : V) (m : M) : R :=
  Q49 G p0 p1 m
theorem Qdu (G : Gt) (a0 a1 : V) (m : M) : evFn Tryz.prog G.tab G.rds (drOf Tryz.prog G.tab) Tryz.f204 [a0, a1] m = Q29 G a0 a1 m :=
  evFn_of (r := fun ρ m => Q29 G (ρ 0) (ρ 1) m) rfl rfl (tr (seqQ (f := fun ρ m => Q49 G (ρ 0) (ρ 1) m) (tr (tr (seqQ (f := fun ρ m => Q47 G m) (fun ρ m => by kernel_rfl)) (seqQ (f := fun ρ m => Q48 G (ρ 8) (ρ 7) (ρ 1) (ρ 0) m) (tr (blockQ (loopQ (fun i ρ m => Q1v G i (ρ 8) (ρ 7) (ρ 1) (ρ 0) m) (fun _ _ => rfl) (fun i0 => fun ρ m => by kernel_rfl))) (fun ρ m => by kernel_rfl)))) (fun ρ m => by kernel_rfl))) (fun ρ m => by kernel_rfl)) m
def Qdv : Entry Tryz.prog := ⟨Q4x, Tryz.f204, Tryz.func204, by kernel_rfl, arg2 (fun G a0 a1 m => Q29 G a0 a1 m), okarg2 Qdu⟩
def Q7s (G : Gt) (p0 p1 p2 p3 : V) (m : M) : R :=
  bp (some (aNew Q7g (Value.cells p0).toList m)) fun x0 m =>
  bp (pur (aLoad false 1 p1 m) m) fun x1 m =>
  bp (pur (aLoad true 2 x0 m) m) fun x2 m =>
  bp (pur (aLoad false 1 p1 m) m) fun x3 m =>
  bp (pur (aLoad false 1 p2 m) m) fun x4 m =>
  bp (pur (aLoad false 1 p3 m) m) fun x5 m =>
  bp (pur (aIndexAddrSl 2 x4 x5) m) fun x6 m =>
  bp (pur (aLoad true 2 x6 m) m) fun x7 m =>
  bp (evCall G.tab x1 [x2] m) fun x8 m =>
  ckB (again (pur (aLoad false 1 p1 m) m) x3 && (again (pur (aLoad false 1 p2 m) m) x4 && (again (pur (aLoad false 1 p3 m) m) x5 && (again (pur (aLoad true 2 x6 m) m) x7 && true))))
  (bp (evCall G.tab x3 [x7] m) fun x9 m =>
  bp (pur (bin .eql false true .str x8 x9) m) fun x10 m =>
  some (x10, m))
theorem Qyj (G : Gt) (a0 a1 a2 a3 : V) (m : M) : evFn Tryz.prog G.tab G.rds (drOf Tryz.prog G.tab) Tryz.f205 [a0, a1, a2, a3] m = Q7s G a0 a1 a2 a3 m :=
  evFn_of (r := fun ρ m => Q7s G (ρ 0) (ρ 1) (ρ 2) (ρ 3) m) rfl rfl (fun ρ m => by kernel_rfl) m
def Qyk : Entry Tryz.prog := ⟨Qgb, Tryz.f205, Tryz.func205, by kernel_rfl, arg4 (fun G a0 a1 a2 a3 m => Q7s G a0 a1 a2 a3 m), okarg4 Qyj⟩
def Q2l (G : Gt) (p0 p1 : V) (m : M) : R :=
  bp (G.tab Q6a [p0, p1] m) fun x0 m =>
  bp (pur (bin .geq true true .int x0 (.int .i64 0)) m) fun x1 m =>
  some (x1, m)
theorem Qek (G : Gt) (a0 a1 : V) (m : M) : evFn Tryz.prog G.tab G.rds (drOf Tryz.prog G.tab) Tryz.f206 [a0, a1] m = Q2l G a0 a1 m :=
  evFn_of (r := fun ρ m => Q2l G (ρ 0) (ρ 1) m) rfl rfl (fun ρ m => by kernel_rfl) m
def Qel : Entry Tryz.prog := ⟨Q59, Tryz.f206, Tryz.func206, by kernel_rfl, arg2 (fun G a0 a1 m => Q2l G a0 a1 m), okarg2 Qek⟩
def Qqn (G : Gt) (p0 : V) (m : M) : R :=
  bp (some (aNew Qmi (Value.cells p0).toList m)) fun x0 m =>
  bp (pur (aLoad true 10 x0 m) m) fun x1 m =>
  bp (G.tab Q1fd [x1] m) fun x2 m =>
  bp (pur (un .not x2) m) fun x3 m =>
  some (x3, m)
theorem Q1i3 (G : Gt) (a0 : V) (m : M) : evFn Tryz.prog G.tab G.rds (drOf Tryz.prog G.tab) Tryz.f207 [a0] m = Qqn G a0 m :=
  evFn_of (r := fun ρ m => Qqn G (ρ 0) m) rfl rfl (fun ρ m => by kernel_rfl) m
def Q1i4 : Entry Tryz.prog := ⟨Q12z, Tryz.f207, Tryz.func207, by kernel_rfl, arg1 (fun G a0 m => Qqn G a0 m), okarg1 Q1i3⟩
def Q70 (G : Gt) (p2 : V) (m : M) : R :=
  some (p2, m)
def Q1ak (G : Gt) (p1 : V) (m : M) : R :=
  bp (pur (aFieldAddr 1 p1) m) fun x0 m =>
  bp (pur (aLoad false 1 x0 m) m) fun x1 m =>
  bp (pur (bin .geq true true .int x1 (.int .i64 (-1))) m) fun x2 m =>
  brb x2
  (bp (pur (aFieldAddr 1 p1) m) fun x3 m =>
  bp (pur (aLoad false 1 x3 m) m) fun x4 m =>
  bp (pur (bin .leq true true .int x4 (.int .i64 255)) m) fun x5 m =>
  brb x5
  (bp (pur (aFieldAddr 2 p1) m) fun x6 m =>
  bp (pur (aLoad true 2 x6 m) m) fun x7 m =>
  bp (G.tab Qah [x7] m) fun x8 m =>
  bp (pur (bin .eql true true .int x8 (.int .i64 0)) m) fun x9 m =>
  brb x9
  (bp (pur (aFieldAddr 4 p1) m) fun x10 m =>
  bp (pur (aLoad true 2 x10 m) m) fun x11 m =>
  bp (G.tab Qah [x11] m) fun x12 m =>
  bp (pur (bin .eql true true .int x12 (.int .i64 0)) m) fun x13 m =>
  brb x13
  (bp (pur (aFieldAddr 6 p1) m) fun x14 m =>
  bp (pur (aLoad true 2 x14 m) m) fun x15 m =>
  bp (G.tab Qxb [x15] m) fun x16 m =>
  brb x16
  (bp (pur (aFieldAddr 8 p1) m) fun x17 m =>
  bp (pur (aLoad true 2 x17 m) m) fun x18 m =>
  bp (G.tab Qxb [x18] m) fun x19 m =>
  Q70 G x19 m)
  (Q70 G (.bool false) m))
  (Q70 G (.bool false) m))
  (Q70 G (.bool false) m))
  (Q70 G (.bool false) m))
  (Q70 G (.bool false) m)
def Q13l (G : Gt) (p0 : V) (m : M) : R :=
  bp (some (aNew Qmi (Value.cells p0).toList m)) fun x20 m =>
  Q1ak G x20 m
theorem Q1n5 (G : Gt) (a0 : V) (m : M) : evFn Tryz.prog G.tab G.rds (drOf Tryz.prog G.tab) Tryz.f208 [a0] m = Q13l G a0 m :=
  evFn_of (r := fun ρ m => Q13l G (ρ 0) m) rfl rfl (tr (seqQ (f := fun ρ m => Q1ak G (ρ 1) m) (tr (seqQ (f := fun ρ m => Q70 G (ρ 2) m) (fun ρ m => by kernel_rfl)) (fun ρ m => by kernel_rfl))) (fun ρ m => by kernel_rfl)) m
def Q1n6 : Entry Tryz.prog := ⟨Q1fd, Tryz.f208, Tryz.func208, by kernel_rfl, arg1 (fun G a0 m => Q13l G a0 m), okarg1 Q1n5⟩
def Qxj (G : Gt) (p3 p1 : V) (m : M) : R :=
  brb p3
  (some ((.int .i64 1), m))
  (bp (pur (aFieldAddr 0 p1) m) fun x0 m =>
  bp (pur (aLoad false 1 x0 m) m) fun x1 m =>
  bp (pur (aFieldAddr 1 p1) m) fun x2 m =>
  bp (pur (aLoad false 1 x2 m) m) fun x3 m =>
  bp (G.tab Q1do [x3] m) fun x4 m =>
  ckB (again (pur (aLoad false 1 x0 m) m) x1 && true)
  (bp (pur (bin .and false true .int x1 x4) m) fun x5 m =>
  bp (pur (bin .neq true true .int x5 (.int .u32 0)) m) fun x6 m =>
  brb x6
  (some ((.int .i64 10), m))
  (some ((.int .i64 0), m))))
def Q1al (G : Gt) (p1 : V) (m : M) : R :=
  bp (pur (aFieldAddr 1 p1) m) fun x7 m =>
  bp (pur (aLoad false 1 x7 m) m) fun x8 m =>
  bp (pur (bin .lss true true .int x8 (.int .i64 0)) m) fun x9 m =>
  brb x9
  (Qxj G (.bool true) p1 m)
  (bp (pur (aFieldAddr 1 p1) m) fun x10 m =>
  bp (pur (aLoad false 1 x10 m) m) fun x11 m =>
  bp (pur (bin .gtr true true .int x11 (.int .i64 32)) m) fun x12 m =>
  Qxj G x12 p1 m)
def Q13m (G : Gt) (p0 : V) (m : M) : R :=
  bp (some (aNew Q3o (Value.cells p0).toList m)) fun x13 m =>
  Q1al G x13 m
theorem Q1n7 (G : Gt) (a0 : V) (m : M) : evFn Tryz.prog G.tab G.rds (drOf Tryz.prog G.tab) Tryz.f209 [a0] m = Q13m G a0 m :=
  evFn_of (r := fun ρ m => Q13m G (ρ 0) m) rfl rfl (tr (seqQ (f := fun ρ m => Q1al G (ρ 1) m) (tr (tr seqD (blockQ (seqQ (f := fun ρ m => Qxj G (ρ 3) (ρ 1) m) (fun ρ m => by kernel_rfl)))) (fun ρ m => by kernel_rfl))) (fun ρ m => by kernel_rfl)) m
def Q1n8 : Entry Tryz.prog := ⟨Qah, Tryz.f209, Tryz.func209, by kernel_rfl, arg1 (fun G a0 m => Q13m G a0 m), okarg1 Q1n7⟩
def Q30 (G : Gt) (m : M) : R :=
  some ((.int .i64 (-1)), m)
def Q19 (G : Gt) : Nat → V → V → V → V → M → R
 | 0, _, _, _, _, _ => none
 | i + 1, p8, p7, p1, p0, m =>
  bp (pur (bin .lss false true .int p8 p7) m) fun x0 m =>
  brb x0
  (bp (pur (aIndexAddrSl 2 p0 p8) m) fun x1 m =>
  bp (pur (aLoad true 2 x1 m) m) fun x2 m =>
  bp (evCall G.tab p1 [x2] m) fun x3 m =>
  brb x3
  (some (p8, m))
  (bp (pur (bin .add true true .int p8 (.int .i64 1)) m) fun x4 m =>
  (Q19 G i) x4 p7 p1 p0 m))
  (Q30 G m)
def Q31 (G : Gt) (p8 p7 p1 p0 : V) (m : M) : R :=
  Q19 G G.rds p8 p7 p1 p0 m
def Q32 (G : Gt) (p0 p1 : V) (m : M) : R :=
  bp (pur (lenK 1 p0 m) m) fun x5 m =>
  Q31 G (.int .i64 0) x5 p1 p0 m
def Q1f (G : Gt) (p0 p1 : V) (m : M) : R :=
  Q32 G p0 p1 m
theorem Q8z (G : Gt) (a0 a1 : V) (m : M) : evFn Tryz.prog G.tab G.rds (drOf Tryz.prog G.tab) Tryz.f210 [a0, a1] m = Q1f G a0 a1 m :=
  evFn_of (r := fun ρ m => Q1f G (ρ 0) (ρ 1) m) rfl rfl (tr (seqQ (f := fun ρ m => Q32 G (ρ 0) (ρ 1) m) (tr (tr (seqQ (f := fun ρ m => Q30 G m) (fun ρ m => by kernel_rfl)) (seqQ (f := fun ρ m => Q31 G (ρ 8) (ρ 7) (ρ 1) (ρ 0) m) (tr (blockQ (loopQ (fun i ρ m => Q19 G i (ρ 8) (ρ 7) (ρ 1) (ρ 0) m) (fun _ _ => rfl) (fun i0 => fun ρ m => by kernel_rfl))) (fun ρ m => by kernel_rfl)))) (fun ρ m => by kernel_rfl))) (fun ρ m => by kernel_rfl)) m
def Q90 : Entry Tryz.prog := ⟨Q3e, Tryz.f210, Tryz.func210, by kernel_rfl, arg2 (fun G a0 a1 m => Q1f G a0 a1 m), okarg2 Q8z⟩
def Q5m (G : Gt) (p0 p1 p2 p3 : V) (m : M) : R :=
  bp (some (aNew Q3p (Value.cells p0).toList m)) fun x0 m =>
  bp (pur (aLoad false 1 p1 m) m) fun x1 m =>
  bp (pur (aLoad true 2 x0 m) m) fun x2 m =>
  bp (pur (aLoad false 1 p1 m) m) fun x3 m =>
  bp (pur (aLoad false 1 p2 m) m) fun x4 m =>
  bp (pur (aLoad false 1 p3 m) m) fun x5 m =>
  bp (pur (aIndexAddrSl 2 x4 x5) m) fun x6 m =>
  bp (pur (aLoad true 2 x6 m) m) fun x7 m =>
  bp (evCall G.tab x1 [x2] m) fun x8 m =>
  ckB (again (pur (aLoad false 1 p1 m) m) x3 && (again (pur (aLoad false 1 p2 m) m) x4 && (again (pur (aLoad false 1 p3 m) m) x5 && (again (pur (aLoad true 2 x6 m) m) x7 && true))))
  (bp (evCall G.tab x3 [x7] m) fun x9 m =>
  bp (pur (bin .eql false true .str x8 x9) m) fun x10 m =>
  some (x10, m))
theorem Qsm (G : Gt) (a0 a1 a2 a3 : V) (m : M) : evFn Tryz.prog G.tab G.rds (drOf Tryz.prog G.tab) Tryz.f211 [a0, a1, a2, a3] m = Q5m G a0 a1 a2 a3 m :=
  evFn_of (r := fun ρ m => Q5m G (ρ 0) (ρ 1) (ρ 2) (ρ 3) m) rfl rfl (fun ρ m => by kernel_rfl) m
def Qsn : Entry Tryz.prog := ⟨Qba, Tryz.f211, Tryz.func211, by kernel_rfl, arg4 (fun G a0 a1 a2 a3 m => Q5m G a0 a1 a2 a3 m), okarg4 Qsm⟩
def Q21 (G : Gt) (p0 p1 : V) (m : M) : R :=
  bp (G.tab Q5q [p0, p1] m) fun x0 m =>
  bp (pur (bin .geq true true .int x0 (.int .i64 0)) m) fun x1 m =>
  some (x1, m)
theorem Qcp (G : Gt) (a0 a1 : V) (m : M) : evFn Tryz.prog G.tab G.rds (drOf Tryz.prog G.tab) Tryz.f212 [a0, a1] m = Q21 G a0 a1 m :=
  evFn_of (r := fun ρ m => Q21 G (ρ 0) (ρ 1) m) rfl rfl (fun ρ m => by kernel_rfl) m
def Qcq : Entry Tryz.prog := ⟨Q4l, Tryz.f212, Tryz.func212, by kernel_rfl, arg2 (fun G a0 a1 m => Q21 G a0 a1 m), okarg2 Qcp⟩
def Q6p (G : Gt) (p2 : V) (m : M) : R :=
  some (p2, m)
def Qwe (G : Gt) (p1 : V) (m : M) : R :=
  bp (pur (aFieldAddr 1 p1) m) fun x0 m =>
  bp (pur (aLoad true 2 x0 m) m) fun x1 m =>
  bp (G.tab Qah [x1] m) fun x2 m =>
  bp (pur (bin .neq true true .int x2 (.int .i64 0)) m) fun x3 m =>
  brb x3
  (Q6p G (.bool true) m)
  (bp (pur (aFieldAddr 1 p1) m) fun x4 m =>
  bp (pur (aFieldAddr 1 x4) m) fun x5 m =>
  bp (pur (aLoad false 1 x5 m) m) fun x6 m =>
  bp (pur (aFieldAddr 3 p1) m) fun x7 m =>
  bp (pur (aLoad false 1 x7 m) m) fun x8 m =>
  bp (pur (bin .gtr false true .int x6 x8) m) fun x9 m =>
  brb x9
  (Q6p G (.bool true) m)
  (bp (pur (aFieldAddr 3 p1) m) fun x10 m =>
  bp (pur (aLoad false 1 x10 m) m) fun x11 m =>
  bp (pur (aFieldAddr 4 p1) m) fun x12 m =>
  bp (pur (aLoad false 1 x12 m) m) fun x13 m =>
  bp (pur (bin .gtr false true .int x11 x13) m) fun x14 m =>
  brb x14
  (Q6p G (.bool true) m)
  (bp (pur (aFieldAddr 4 p1) m) fun x15 m =>
  bp (pur (aLoad false 1 x15 m) m) fun x16 m =>
  bp (pur (bin .gtr true true .int x16 (.int .i64 32)) m) fun x17 m =>
  Q6p G x17 m)))
def Qoa (G : Gt) (p0 : V) (m : M) : R :=
  bp (some (aNew Qcm (Value.cells p0).toList m)) fun x18 m =>
  Qwe G x18 m
theorem Q1h9 (G : Gt) (a0 : V) (m : M) : evFn Tryz.prog G.tab G.rds (drOf Tryz.prog G.tab) Tryz.f213 [a0] m = Qoa G a0 m :=
  evFn_of (r := fun ρ m => Qoa G (ρ 0) m) rfl rfl (tr (seqQ (f := fun ρ m => Qwe G (ρ 1) m) (tr (seqQ (f := fun ρ m => Q6p G (ρ 2) m) (fun ρ m => by kernel_rfl)) (fun ρ m => by kernel_rfl))) (fun ρ m => by kernel_rfl)) m
def Q1ha : Entry Tryz.prog := ⟨Q112, Tryz.f213, Tryz.func213, by kernel_rfl, arg1 (fun G a0 m => Qoa G a0 m), okarg1 Q1h9⟩
def Q1y (G : Gt) (m : M) : R :=
  some ((.int .i64 (-1)), m)
def Q10 (G : Gt) : Nat → V → V → V → V → M → R
 | 0, _, _, _, _, _ => none
 | i + 1, p8, p7, p1, p0, m =>
  bp (pur (bin .lss false true .int p8 p7) m) fun x0 m =>
  brb x0
  (bp (pur (aIndexAddrSl 2 p0 p8) m) fun x1 m =>
  bp (pur (aLoad true 2 x1 m) m) fun x2 m =>
  bp (evCall G.tab p1 [x2] m) fun x3 m =>
  brb x3
  (some (p8, m))
  (bp (pur (bin .add true true .int p8 (.int .i64 1)) m) fun x4 m =>
  (Q10 G i) x4 p7 p1 p0 m))
  (Q1y G m)
def Q1z (G : Gt) (p8 p7 p1 p0 : V) (m : M) : R :=
  Q10 G G.rds p8 p7 p1 p0 m
def Q20 (G : Gt) (p0 p1 : V) (m : M) : R :=
  bp (pur (lenK 1 p0 m) m) fun x5 m =>
  Q1z G (.int .i64 0) x5 p1 p0 m
def Q13 (G : Gt) (p0 p1 : V) (m : M) : R :=
  Q20 G p0 p1 m
theorem Q6q (G : Gt) (a0 a1 : V) (m : M) : evFn Tryz.prog G.tab G.rds (drOf Tryz.prog G.tab) Tryz.f214 [a0, a1] m = Q13 G a0 a1 m :=
  evFn_of (r := fun ρ m => Q13 G (ρ 0) (ρ 1) m) rfl rfl (tr (seqQ (f := fun ρ m => Q20 G (ρ 0) (ρ 1) m) (tr (tr (seqQ (f := fun ρ m => Q1y G m) (fun ρ m => by kernel_rfl)) (seqQ (f := fun ρ m => Q1z G (ρ 8) (ρ 7) (ρ 1) (ρ 0) m) (tr (blockQ (loopQ (fun i ρ m => Q10 G i (ρ 8) (ρ 7) (ρ 1) (ρ 0) m) (fun _ _ => rfl) (fun i0 => fun ρ m => by kernel_rfl))) (fun ρ m => by kernel_rfl)))) (fun ρ m => by kernel_rfl))) (fun ρ m => by kernel_rfl)) m
def Q6r : Entry Tryz.prog := ⟨Q2e, Tryz.f214, Tryz.func214, by kernel_rfl, arg2 (fun G a0 a1 m => Q13 G a0 a1 m), okarg2 Q6q⟩
def Q41 (G : Gt) (p0 p1 p2 p3 : V) (m : M) : R :=
  bp (some (aNew Q2f (Value.cells p0).toList m)) fun x0 m =>
  bp (pur (aLoad false 1 p1 m) m) fun x1 m =>
  bp (pur (aLoad true 2 x0 m) m) fun x2 m =>
  bp (pur (aLoad false 1 p1 m) m) fun x3 m =>
  bp (pur (aLoad false 1 p2 m) m) fun x4 m =>
  bp (pur (aLoad false 1 p3 m) m) fun x5 m =>
  bp (pur (aIndexAddrSl 2 x4 x5) m) fun x6 m =>
  bp (pur (aLoad true 2 x6 m) m) fun x7 m =>
  bp (evCall G.tab x1 [x2] m) fun x8 m =>
  ckB (again (pur (aLoad false 1 p1 m) m) x3 && (again (pur (aLoad false 1 p2 m) m) x4 && (again (pur (aLoad false 1 p3 m) m) x5 && (again (pur (aLoad true 2 x6 m) m) x7 && true))))
  (bp (evCall G.tab x3 [x7] m) fun x9 m =>
  bp (pur (bin .eql false true .str x8 x9) m) fun x10 m =>
  some (x10, m))
theorem Qob (G : Gt) (a0 a1 a2 a3 : V) (m : M) : evFn Tryz.prog G.tab G.rds (drOf Tryz.prog G.tab) Tryz.f215 [a0, a1, a2, a3] m = Q41 G a0 a1 a2 a3 m :=
  evFn_of (r := fun ρ m => Q41 G (ρ 0) (ρ 1) (ρ 2) (ρ 3) m) rfl rfl (fun ρ m => by kernel_rfl) m
def Qoc : Entry Tryz.prog := ⟨Q8t, Tryz.f215, Tryz.func215, by kernel_rfl, arg4 (fun G a0 a1 a2 a3 m => Q41 G a0 a1 a2 a3 m), okarg4 Qob⟩
end
end Go.Ab.Sh
