/-
  Functions of the program as plain definitions, each with the theorem that it is what the evaluator makes of the code. No conditions.
-/
import Derived.Test.YtbjgjnkihdddlaaGreatDoorAb4
import Derived.Test.YtbjgjnkihdddlaaGreatDoorZ
import Derived.KernelRfl
import Derived.Test.YtbjgjnkihdddlaaGreatDoorProg
set_option linter.unusedVariables false
set_option maxRecDepth 100000
namespace Go.Ab.Sh
open Go Go.Ab
noncomputable section
def Q12o (G : Gt) (p7 p3 : Value) (m : Mem) : Option Rs :=
  bp (pur (aBuild Qk [(0, 1), (1, 1)] []) m) fun x0 m =>
  bp (unt (aStore 2 p3 x0 m)) fun _ m =>
  ob (ob (ob (aLoad true 2 p3 m) fun v => ob (some [(.int .i64 0)]) fun l => some (v :: l)) fun l => some (p7 :: l)) fun l => some (resVal l, m)
def Qu2 (G : Gt) (k0 : Value → Value → Value → Value → Value → Mem → Option Rs) (p28 p27 p26 p7 p3 : Value) (m : Mem) : Option Rs :=
  bp (pur (bin .add true true .int p28 (.int .i64 1)) m) fun x1 m =>
  k0 x1 p27 p26 p7 p3 m
def Q115 (G : Gt) (k0 : Value → Value → Value → Value → Value → Mem → Option Rs) (p7 p11 p28 p27 p26 p3 : Value) (m : Mem) : Option Rs :=
  bp (pur (aLoad true 2 p11 m) m) fun x2 m =>
  bp (aBuildSlice Quv Quw 2 1 [(0, x2)] m) fun x3 m =>
  bp (apS Quv 2 32 p7 x3 m) fun x4 m =>
  Qu2 G k0 p28 p27 p26 x4 p3 m
def Qs8 (G : Gt) (k0 : Value → Value → Value → Value → Value → Mem → Option Rs) : Nat → Value → Value → Value → Value → Value → Value → Value → Value → Value → Mem → Option Rs
  | 0, _, _, _, _, _, _, _, _, _, _ => none
  | i + 1, p10, p9, p11, p8, p7, p28, p27, p26, p3, m =>
  bp (pur (bin .neq true true .str p10 (.string ⟨#[]⟩)) m) fun x5 m =>
  brb x5
    (bp (pur (lenK 0 p9 m) m) fun x6 m =>
  bp (pur (lenK 0 p10 m) m) fun x7 m =>
  bp (pur (bin .sub false true .int x6 x7) m) fun x8 m =>
  bp (pur (bin .add true true .int x8 (.int .i64 1)) m) fun x9 m =>
  bp (G.tab Qm8 [p10, (.string ⟨#[32]⟩)] m) fun x10 m =>
  bp (pur (aExtract x10 0) m) fun x11 m =>
  bp (pur (aExtract x10 1) m) fun x12 m =>
  bp (pur (aExtract x10 2) m) fun x13 m =>
  bp (pur (aFieldAddr 1 p11) m) fun x14 m =>
  bp (pur (aLoad false 1 x14 m) m) fun x15 m =>
  bp (pur (bin .add true true .int p8 (.int .i64 1)) m) fun x16 m =>
  bp (pur (aBuild Qk [(0, 1), (1, 1)] [(0, x16), (1, x9)]) m) fun x17 m =>
  bp (pur (aBuild Q129 [(0, 1), (1, 2)] [(0, x11), (1, x17)]) m) fun x18 m =>
  bp (aBuildSlice Q12a Q129 3 1 [(0, x18)] m) fun x19 m =>
  bp (apS Q12a 3 32 x15 x19 m) fun x20 m =>
  bp (pur (aFieldAddr 1 p11) m) fun x21 m =>
  bp (unt (aStore 1 x21 x20 m)) fun _ m =>
  bp (G.tab Qhm [x12, (.string ⟨#[32]⟩)] m) fun x22 m =>
  (Qs8 G k0 i) x22 p9 p11 p8 p7 p28 p27 p26 p3 m)
    (Q115 G k0 p7 p11 p28 p27 p26 p3 m)
def Q116 (G : Gt) (k0 : Value → Value → Value → Value → Value → Mem → Option Rs) (p10 p9 p11 p8 p7 p28 p27 p26 p3 : Value) (m : Mem) : Option Rs :=
  Qs8 G k0 G.rds p10 p9 p11 p8 p7 p28 p27 p26 p3 m
def Q117 (G : Gt) (k0 : Value → Value → Value → Value → Value → Mem → Option Rs) (p9 p10 p8 p7 p28 p27 p26 p3 : Value) (m : Mem) : Option Rs :=
  bp (pur (lenK 0 p9 m) m) fun x23 m =>
  bp (pur (lenK 0 p10 m) m) fun x24 m =>
  bp (pur (bin .sub false true .int x23 x24) m) fun x25 m =>
  bp (pur (aBuild Quw [(0, 1), (1, 1)] [(0, x25)]) m) fun x26 m =>
  bp (some (aNew Quv Quw m)) fun x27 m =>
  bp (unt (aStore 2 x27 x26 m)) fun _ m =>
  Q116 G k0 p10 p9 x27 p8 p7 p28 p27 p26 p3 m
def Qs9 (G : Gt) (k0 : Value → Value → Value → Value → Value → Mem → Option Rs) (p41 p28 p27 p26 p7 p3 p9 p10 p8 : Value) (m : Mem) : Option Rs :=
  brb p41
    (Qu2 G k0 p28 p27 p26 p7 p3 m)
    (Q117 G k0 p9 p10 p8 p7 p28 p27 p26 p3 m)
def Q118 (G : Gt) (k0 : Value → Value → Value → Value → Value → Mem → Option Rs) (p10 p28 p27 p26 p7 p3 p9 p8 : Value) (m : Mem) : Option Rs :=
  bp (pur (bin .eql true true .str p10 (.string ⟨#[]⟩)) m) fun x28 m =>
  brb x28
    (Qs9 G k0 (.bool true) p28 p27 p26 p7 p3 p9 p10 p8 m)
    (bp (pur (aIndexStr p10 (.int .i64 0)) m) fun x29 m =>
  bp (pur (bin .eql true true .int x29 (.int .u8 33)) m) fun x30 m =>
  Qs9 G k0 x30 p28 p27 p26 p7 p3 p9 p10 p8 m)
def Q12p (G : Gt) (k0 : Value → Value → Value → Value → Value → Mem → Option Rs) (p9 p28 p27 p26 p7 p3 p8 : Value) (m : Mem) : Option Rs :=
  bp (G.tab Qhm [p9, (.string ⟨#[32]⟩)] m) fun x31 m =>
  Q118 G k0 x31 p28 p27 p26 p7 p3 p9 p8 m
def Q12q (G : Gt) (k0 : Value → Value → Value → Value → Value → Mem → Option Rs) (p28 p26 p27 p7 p3 : Value) (m : Mem) : Option Rs :=
  bp (pur (aIndexAddrSl 1 p26 p28) m) fun x32 m =>
  bp (pur (aLoad false 1 x32 m) m) fun x33 m =>
  Q12p G k0 x33 p28 p27 p26 p7 p3 p28 m
def Q12r (G : Gt) (k0 : Value → Value → Value → Value → Value → Mem → Option Rs) (p29 p28 p26 p27 p7 p3 : Value) (m : Mem) : Option Rs :=
  brb p29
    (Q12q G k0 p28 p26 p27 p7 p3 m)
    (Q12o G p7 p3 m)
def Q1j (G : Gt) : Nat → Value → Value → Value → Value → Value → Mem → Option Rs
  | 0, _, _, _, _, _, _ => none
  | i + 1, p28, p27, p26, p7, p3, m =>
  bp (pur (bin .lss false true .int p28 p27) m) fun x34 m =>
  Q12r G (Q1j G i) x34 p28 p26 p27 p7 p3 m
def Q12s (G : Gt) (p28 p27 p26 p7 p3 : Value) (m : Mem) : Option Rs :=
  Q1j G G.rds p28 p27 p26 p7 p3 m
def Q12t (G : Gt) (p0 p7 p3 : Value) (m : Mem) : Option Rs :=
  bp (G.tab Qoh [p0, (.string ⟨#[10]⟩)] m) fun x35 m =>
  bp (pur (lenK 1 x35 m) m) fun x36 m =>
  Q12s G (.int .i64 0) x36 x35 p7 p3 m
def Q12u (G : Gt) (p0 p3 : Value) (m : Mem) : Option Rs :=
  Q12t G p0 (.slice none 0 0) p3 m
def Q12v (G : Gt) (p0 p3 : Value) (m : Mem) : Option Rs :=
  bp (G.tab Ql5 [p0] m) fun x37 m =>
  bp (pur (aExtract x37 0) m) fun x38 m =>
  bp (pur (aExtract x37 1) m) fun x39 m =>
  bp (some (aNew Qr Qk m)) fun x40 m =>
  bp (unt (aStore 2 x40 x38 m)) fun _ m =>
  bp (pur (bin .neq true true .int x39 (.int .i64 0)) m) fun x41 m =>
  brb x41
    (bp (pur (aLoad true 2 x40 m) m) fun x42 m =>
  bp (unt (aStore 2 p3 x42 m)) fun _ m =>
  ob (ob (ob (aLoad true 2 p3 m) fun v => ob (some [x39]) fun l => some (v :: l)) fun l => some ((.slice none 0 0) :: l)) fun l => some (resVal l, m))
    (Q12u G p0 p3 m)
def Qyz (G : Gt) (p0 : Value) (m : Mem) : Option Rs :=
  bp (some (aNew Qr Qk m)) fun x43 m =>
  Q12v G p0 x43 m
theorem Q1d0 (G : Gt) (a0 : Value) (m : Mem) : evFn Go.Proofs.Tryz.prog G.tab G.rds (drOf Go.Proofs.Tryz.prog G.tab) Go.Proofs.Tryz.f8 [a0] m = Qyz G a0 m :=
  evFn_of (r := fun ρ m => Qyz G (ρ 0) m) rfl rfl (tr (seqQ (f := fun ρ m => Q12v G (ρ 0) (ρ 3) m) (tr (seqQ (f := fun ρ m => Q12u G (ρ 0) (ρ 3) m) (tr (seqQ (f := fun ρ m => Q12t G (ρ 0) (ρ 7) (ρ 3) m) (tr (tr (seqQ (f := fun ρ m => Q12o G (ρ 7) (ρ 3) m) (fun ρ m => by kernel_rfl)) (seqQ (f := fun ρ m => Q12s G (ρ 28) (ρ 27) (ρ 26) (ρ 7) (ρ 3) m) (tr (blockQ (loopQ (fun i ρ m => Q1j G i (ρ 28) (ρ 27) (ρ 26) (ρ 7) (ρ 3) m) (fun _ _ => rfl) (fun i0 => tr (seqQ (f := fun ρ m => Q12r G (Q1j G i0) (ρ 29) (ρ 28) (ρ 26) (ρ 27) (ρ 7) (ρ 3) m) (tr (seqQ (f := fun ρ m => Q12q G (Q1j G i0) (ρ 28) (ρ 26) (ρ 27) (ρ 7) (ρ 3) m) (tr (tr (seqQ (f := fun ρ m => Qu2 G (Q1j G i0) (ρ 28) (ρ 27) (ρ 26) (ρ 7) (ρ 3) m) (fun ρ m => by kernel_rfl)) (blockQ (seqQ (f := fun ρ m => Q12p G (Q1j G i0) (ρ 9) (ρ 28) (ρ 27) (ρ 26) (ρ 7) (ρ 3) (ρ 8) m) (tr (seqQ (f := fun ρ m => Q118 G (Q1j G i0) (ρ 10) (ρ 28) (ρ 27) (ρ 26) (ρ 7) (ρ 3) (ρ 9) (ρ 8) m) (tr (tr (seqQ (f := fun ρ m => Q117 G (Q1j G i0) (ρ 9) (ρ 10) (ρ 8) (ρ 7) (ρ 28) (ρ 27) (ρ 26) (ρ 3) m) (tr (seqQ (f := fun ρ m => Q116 G (Q1j G i0) (ρ 10) (ρ 9) (ρ 11) (ρ 8) (ρ 7) (ρ 28) (ρ 27) (ρ 26) (ρ 3) m) (tr (tr (seqQ (f := fun ρ m => Q115 G (Q1j G i0) (ρ 7) (ρ 11) (ρ 28) (ρ 27) (ρ 26) (ρ 3) m) (fun ρ m => by kernel_rfl)) (blockQ (loopQ (fun i ρ m => Qs8 G (Q1j G i0) i (ρ 10) (ρ 9) (ρ 11) (ρ 8) (ρ 7) (ρ 28) (ρ 27) (ρ 26) (ρ 3) m) (fun _ _ => rfl) (fun i1 => fun ρ m => by kernel_rfl)))) (fun ρ m => by kernel_rfl))) (fun ρ m => by kernel_rfl))) (seqQ (f := fun ρ m => Qs9 G (Q1j G i0) (ρ 41) (ρ 28) (ρ 27) (ρ 26) (ρ 7) (ρ 3) (ρ 9) (ρ 10) (ρ 8) m) (fun ρ m => by kernel_rfl))) (fun ρ m => by kernel_rfl))) (fun ρ m => by kernel_rfl))))) (fun ρ m => by kernel_rfl))) (fun ρ m => by kernel_rfl))) (fun ρ m => by kernel_rfl)))) (fun ρ m => by kernel_rfl)))) (fun ρ m => by kernel_rfl))) (fun ρ m => by kernel_rfl))) (fun ρ m => by kernel_rfl))) (fun ρ m => by kernel_rfl)) m
def Q1cw : Entry Go.Proofs.Tryz.prog := ⟨Qsi, Go.Proofs.Tryz.f8, Go.Proofs.Tryz.func8, by kernel_rfl, arg1 (fun G a0 m => Qyz G a0 m), okarg1 Q1d0⟩
def Qhn (G : Gt) (p0 p1 : Value) (m : Mem) : Option Rs :=
  bp (pur (aNilCheck p0) m) fun x0 m =>
  bp (pur (aFieldAddr 0 x0) m) fun x1 m =>
  bp (G.tab Qg [p1] m) fun x2 m =>
  bp (pur (bin .eql true true .str x2 (.string ⟨#[104, 111, 115, 116, 110, 97, 109, 101]⟩)) m) fun x3 m =>
  brb x3
    (bp (G.tab Qh [p1] m) fun x4 m =>
  bp (pur (aNilCheck x1) m) fun x5 m =>
  bp (pur (aFieldAddr 0 x5) m) fun x6 m =>
  bp (unt (aStore 1 x6 x4 m)) fun _ m =>
  bp (aBuildSlice Q2 [(.string ⟨#[]⟩)] 1 1 [(0, (.string ⟨#[104, 111, 115, 116, 110, 97, 109, 101]⟩))] m) fun x7 m =>
  bp (G.tab Q4m [p0, x7] m) fun x8 m =>
  some (.tuple ⟨[]⟩, m))
    (bp (pur (bin .eql true true .str x2 (.string ⟨#[118, 114, 102]⟩)) m) fun x9 m =>
  brb x9
    (bp (G.tab Qh [p1] m) fun x10 m =>
  bp (aBuildSlice Q2 [(.string ⟨#[]⟩)] 1 2 [(0, (.string ⟨#[118, 114, 102]⟩)), (1, x10)] m) fun x11 m =>
  bp (G.tab Q4m [p0, x11] m) fun x12 m =>
  bp (pur (aNilCheck x1) m) fun x13 m =>
  bp (pur (aFieldAddr 2 x13) m) fun x14 m =>
  bp (pur (aLoad false 1 x14 m) m) fun x15 m =>
  bp (aBuildSlice Q2 [(.string ⟨#[]⟩)] 1 1 [(0, x10)] m) fun x16 m =>
  bp (apS Q2 1 16 x15 x16 m) fun x17 m =>
  bp (pur (aNilCheck x1) m) fun x18 m =>
  bp (pur (aFieldAddr 2 x18) m) fun x19 m =>
  bp (unt (aStore 1 x19 x17 m)) fun _ m =>
  some (.tuple ⟨[]⟩, m))
    (bp (pur (bin .eql true true .str x2 (.string ⟨#[105, 110, 116, 101, 114, 102, 97, 99, 101]⟩)) m) fun x20 m =>
  brb x20
    (bp (G.tab Qh [p1] m) fun x21 m =>
  bp (aBuildSlice Q2 [(.string ⟨#[]⟩)] 1 2 [(0, (.string ⟨#[105, 110, 116, 101, 114, 102, 97, 99, 101]⟩)), (1, x21)] m) fun x22 m =>
  bp (G.tab Q40 [p0, (.func (.func Qow) ⟨[p0]⟩ ⟨[]⟩), x22] m) fun x23 m =>
  bp (pur (aNilCheck x1) m) fun x24 m =>
  bp (pur (aFieldAddr 3 x24) m) fun x25 m =>
  bp (pur (aLoad false 1 x25 m) m) fun x26 m =>
  bp (pur (aBuild Qlo [(0, 1), (1, 1), (2, 1), (3, 1), (4, 1), (5, 1), (6, 1), (7, 1), (8, 1), (9, 1), (10, 1)] [(0, x21), (8, (.int .i64 (-1))), (9, (.int .i64 10))]) m) fun x27 m =>
  bp (aBuildSlice Q85 Qlo 11 1 [(0, x27)] m) fun x28 m =>
  bp (apS Q85 11 120 x26 x28 m) fun x29 m =>
  bp (pur (aNilCheck x1) m) fun x30 m =>
  bp (pur (aFieldAddr 3 x30) m) fun x31 m =>
  bp (unt (aStore 1 x31 x29 m)) fun _ m =>
  some (.tuple ⟨[]⟩, m))
    (bp (pur (bin .eql true true .str x2 (.string ⟨#[105, 112]⟩)) m) fun x32 m =>
  brb x32
    (bp (G.tab Qum [p0, p1] m) fun x33 m =>
  some (.tuple ⟨[]⟩, m))
    (bp (pur (bin .eql true true .str x2 (.string ⟨#[114, 111, 117, 116, 101, 45, 109, 97, 112]⟩)) m) fun x34 m =>
  brb x34
    (bp (G.tab Qh [p1] m) fun x35 m =>
  bp (aBuildSlice Q3a [(.int .u8 0)] 1 3 [(0, (.int .u8 1)), (1, (.int .u8 0)), (2, (.int .u8 2))] m) fun x36 m =>
  bp (aBuildSlice Q2 [(.string ⟨#[]⟩)] 1 3 [(0, (.string ⟨#[112, 101, 114, 109, 105, 116]⟩)), (1, (.string ⟨#[100, 101, 110, 121]⟩)), (2, (.string ⟨#[110, 101, 120, 116]⟩))] m) fun x37 m =>
  bp (G.tab Qs [p1, x37] m) fun x38 m =>
  bp (pur (aIndexAddrSl 1 x36 x38) m) fun x39 m =>
  bp (pur (aLoad false 1 x39 m) m) fun x40 m =>
  bp (G.tab Q3 [p1, (.int .i64 1), (.int .i64 65535)] m) fun x41 m =>
  bp (G.tab Qn2 [p0, x35, x40, x41] m) fun x42 m =>
  some (.tuple ⟨[]⟩, m))
    (bp (pur (bin .eql true true .str x2 (.string ⟨#[114, 111, 117, 116, 101, 114]⟩)) m) fun x43 m =>
  brb x43
    (bp (G.tab Qn4 [p0, p1] m) fun x44 m =>
  some (.tuple ⟨[]⟩, m))
    (bp (G.tab Q8 [p1, (.int .i64 130)] m) fun x45 m =>
  some (.tuple ⟨[]⟩, m)))))))
theorem Q16c (G : Gt) (a0 a1 : Value) (m : Mem) : evFn Go.Proofs.Tryz.prog G.tab G.rds (drOf Go.Proofs.Tryz.prog G.tab) Go.Proofs.Tryz.f9 [a0, a1] m = Qhn G a0 a1 m :=
  evFn_of (r := fun ρ m => Qhn G (ρ 0) (ρ 1) m) rfl rfl (fun ρ m => by kernel_rfl) m
def Q15w : Entry Go.Proofs.Tryz.prog := ⟨Qsn, Go.Proofs.Tryz.f9, Go.Proofs.Tryz.func9, by kernel_rfl, arg2 (fun G a0 a1 m => Qhn G a0 a1 m), okarg2 Q16c⟩
def Qfb (G : Gt) (p1 p0 p2 : Value) (m : Mem) : Option Rs :=
  bp (some (aNew Qr (Value.cells p1).toList m)) fun x0 m =>
  bp (pur (aNilCheck p0) m) fun x1 m =>
  bp (pur (aFieldAddr 4 x1) m) fun x2 m =>
  bp (pur (aLoad false 1 x2 m) m) fun x3 m =>
  bp (pur (bin .eql true true .int x3 (.int .i64 0)) m) fun x4 m =>
  brb x4
    (bp (pur (aLoad true 2 x0 m) m) fun x5 m =>
  bp (pur (aNilCheck p0) m) fun x6 m =>
  bp (pur (aFieldAddr 2 x6) m) fun x7 m =>
  bp (unt (aStore 2 x7 x5 m)) fun _ m =>
  bp (pur (aNilCheck p0) m) fun x8 m =>
  bp (pur (aFieldAddr 4 x8) m) fun x9 m =>
  bp (unt (aStore 1 x9 p2 m)) fun _ m =>
  some (.tuple ⟨[]⟩, m))
    (some (.tuple ⟨[]⟩, m))
theorem Q14n (G : Gt) (a0 a1 a2 : Value) (m : Mem) : evFn Go.Proofs.Tryz.prog G.tab G.rds (drOf Go.Proofs.Tryz.prog G.tab) Go.Proofs.Tryz.f10 [a0, a1, a2] m = Qfb G a1 a0 a2 m :=
  evFn_of (r := fun ρ m => Qfb G (ρ 1) (ρ 0) (ρ 2) m) rfl rfl (fun ρ m => by kernel_rfl) m
def Q14f : Entry Go.Proofs.Tryz.prog := ⟨Q31, Go.Proofs.Tryz.f10, Go.Proofs.Tryz.func10, by kernel_rfl, arg3 (fun G a0 a1 a2 m => Qfb G a1 a0 a2 m), okarg3 Q14n⟩
def Qc7 (G : Gt) (p2 : Value) (m : Mem) : Option Rs :=
  some (p2, m)
def Qnx (G : Gt) (p0 : Value) (m : Mem) : Option Rs :=
  bp (pur (aNilCheck p0) m) fun x0 m =>
  bp (pur (aFieldAddr 4 x0) m) fun x1 m =>
  bp (pur (aLoad false 1 x1 m) m) fun x2 m =>
  bp (pur (bin .eql true true .int x2 (.int .i64 0)) m) fun x3 m =>
  brt x3
    (bp (pur (aNilCheck p0) m) fun x4 m =>
  bp (pur (aFieldAddr 1 x4) m) fun x5 m =>
  bp (pur (aLoad false 1 x5 m) m) fun x6 m =>
  bp (pur (aNilCheck p0) m) fun x7 m =>
  bp (pur (aFieldAddr 0 x7) m) fun x8 m =>
  bp (pur (aLoad false 1 x8 m) m) fun x9 m =>
  bp (pur (lenK 1 x9 m) m) fun x10 m =>
  bp (pur (bin .lss false true .int x6 x10) m) fun x11 m =>
  Qc7 G x11 m)
    (Qc7 G (.bool false) m)
    (none)
def Qfc (G : Gt) (p0 : Value) (m : Mem) : Option Rs :=
  Qnx G p0 m
theorem Q14o (G : Gt) (a0 : Value) (m : Mem) : evFn Go.Proofs.Tryz.prog G.tab G.rds (drOf Go.Proofs.Tryz.prog G.tab) Go.Proofs.Tryz.f11 [a0] m = Qfc G a0 m :=
  evFn_of (r := fun ρ m => Qfc G (ρ 0) m) rfl rfl (tr (seqQ (f := fun ρ m => Qnx G (ρ 0) m) (tr (seqQ (f := fun ρ m => Qc7 G (ρ 2) m) (fun ρ m => by kernel_rfl)) (fun ρ m => by kernel_rfl))) (fun ρ m => by kernel_rfl)) m
def Q147 : Entry Go.Proofs.Tryz.prog := ⟨Q3z, Go.Proofs.Tryz.f11, Go.Proofs.Tryz.func11, by kernel_rfl, arg1 (fun G a0 m => Qfc G a0 m), okarg1 Q14o⟩
def Q29 (G : Gt) (p0 p1 : Value) (m : Mem) : Option Rs :=
  bp (pur (lenK 1 p0 m) m) fun x0 m =>
  bp (conv (.int .u64) x0 m) fun x1 m =>
  bp (G.tab Qxb [x1] m) fun x2 m =>
  bp (G.tab Q1v [p0, (.int .i64 0), x0, x2, p1] m) fun x3 m =>
  some (.tuple ⟨[]⟩, m)
theorem Qc8 (G : Gt) (a0 a1 : Value) (m : Mem) : evFn Go.Proofs.Tryz.prog G.tab G.rds (drOf Go.Proofs.Tryz.prog G.tab) Go.Proofs.Tryz.f12 [a0, a1] m = Q29 G a0 a1 m :=
  evFn_of (r := fun ρ m => Q29 G (ρ 0) (ρ 1) m) rfl rfl (fun ρ m => by kernel_rfl) m
def Qbx : Entry Go.Proofs.Tryz.prog := ⟨Q4k, Go.Proofs.Tryz.f12, Go.Proofs.Tryz.func12, by kernel_rfl, arg2 (fun G a0 a1 m => Q29 G a0 a1 m), okarg2 Qc8⟩
def Qsa (G : Gt) (p0 p1 : Value) (m : Mem) : Option Rs :=
  bp (some (aNew Q6v (Value.cells p0).toList m)) fun x0 m =>
  bp (some (aNew Q6v (Value.cells p1).toList m)) fun x1 m =>
  bp (pur (aFieldAddr 0 x0) m) fun x2 m =>
  bp (pur (aLoad false 1 x2 m) m) fun x3 m =>
  bp (pur (aFieldAddr 0 x1) m) fun x4 m =>
  bp (pur (aLoad false 1 x4 m) m) fun x5 m =>
  bp (G.tab Qt9 [x3, x5] m) fun x6 m =>
  some (x6, m)
theorem Q19w (G : Gt) (a0 a1 : Value) (m : Mem) : evFn Go.Proofs.Tryz.prog G.tab G.rds (drOf Go.Proofs.Tryz.prog G.tab) Go.Proofs.Tryz.f13 [a0, a1] m = Qsa G a0 a1 m :=
  evFn_of (r := fun ρ m => Qsa G (ρ 0) (ρ 1) m) rfl rfl (fun ρ m => by kernel_rfl) m
def Q19r : Entry Go.Proofs.Tryz.prog := ⟨Qzc, Go.Proofs.Tryz.f13, Go.Proofs.Tryz.func13, by kernel_rfl, arg2 (fun G a0 a1 m => Qsa G a0 a1 m), okarg2 Q19w⟩
def Qho (G : Gt) (p0 p1 : Value) (m : Mem) : Option Rs :=
  bp (G.tab Qme [p0] m) fun x0 m =>
  bp (G.tab Qme [p1] m) fun x1 m =>
  brb x0
    (brb x1
    (some ((.int .i64 0), m))
    (some ((.int .i64 (-1)), m)))
    (brb x1
    (some ((.int .i64 1), m))
    (bp (pur (bin .lss false true .int p0 p1) m) fun x2 m =>
  brb x2
    (some ((.int .i64 (-1)), m))
    (bp (pur (bin .gtr false true .int p0 p1) m) fun x3 m =>
  brb x3
    (some ((.int .i64 1), m))
    (some ((.int .i64 0), m)))))
theorem Q16d (G : Gt) (a0 a1 : Value) (m : Mem) : evFn Go.Proofs.Tryz.prog G.tab G.rds (drOf Go.Proofs.Tryz.prog G.tab) Go.Proofs.Tryz.f14 [a0, a1] m = Qho G a0 a1 m :=
  evFn_of (r := fun ρ m => Qho G (ρ 0) (ρ 1) m) rfl rfl (fun ρ m => by kernel_rfl) m
def Q165 : Entry Go.Proofs.Tryz.prog := ⟨Qt9, Go.Proofs.Tryz.f14, Go.Proofs.Tryz.func14, by kernel_rfl, arg2 (fun G a0 a1 m => Qho G a0 a1 m), okarg2 Q16d⟩
end
end Go.Ab.Sh

set_option linter.unusedVariables false
set_option maxRecDepth 100000
namespace Go.Ab.Sh
open Go Go.Ab
noncomputable section
def Q12w (G : Gt) (p5 : Value) (m : Mem) : Option Rs :=
  bp (pur (aLoad false 1 p5 m) m) fun x0 m =>
  some (x0, m)
def Qu3 (G : Gt) : Nat → Value → Value → Value → Value → Value → Mem → Option Rs
  | 0, _, _, _, _, _, _ => none
  | i + 1, p169, p168, p167, p20, p5, m =>
  bp (pur (bin .lss false true .int p169 p168) m) fun x1 m =>
  brb x1
    (bp (pur (aIndexAddrSl 6 p167 p169) m) fun x2 m =>
  bp (pur (aLoad true 6 x2 m) m) fun x3 m =>
  bp (some (aNew Q9y Qn3 m)) fun x4 m =>
  bp (unt (aStore 6 x4 x3 m)) fun _ m =>
  bp (pur (aFieldAddr 5 x4) m) fun x5 m =>
  bp (pur (aLoad false 1 x5 m) m) fun x6 m =>
  bp (evCall G.tab p20 [x6] m) fun x7 m =>
  bp (pur (bin .add true true .int p169 (.int .i64 1)) m) fun x8 m =>
  (Qu3 G i) x8 p168 p167 p20 p5 m)
    (Q12w G p5 m)
def Q12x (G : Gt) (p169 p168 p167 p20 p5 : Value) (m : Mem) : Option Rs :=
  Qu3 G G.rds p169 p168 p167 p20 p5 m
def Q16e (G : Gt) (p1 p20 p5 : Value) (m : Mem) : Option Rs :=
  bp (pur (aFieldAddr 11 p1) m) fun x9 m =>
  bp (pur (aLoad false 1 x9 m) m) fun x10 m =>
  bp (pur (lenK 1 x10 m) m) fun x11 m =>
  Q12x G (.int .i64 0) x11 x10 p20 p5 m
def Qu4 (G : Gt) : Nat → Value → Value → Value → Value → Value → Value → Mem → Option Rs
  | 0, _, _, _, _, _, _, _ => none
  | i + 1, p157, p156, p155, p20, p1, p5, m =>
  bp (pur (bin .lss false true .int p157 p156) m) fun x12 m =>
  brb x12
    (bp (pur (aIndexAddrSl 3 p155 p157) m) fun x13 m =>
  bp (pur (aLoad true 3 x13 m) m) fun x14 m =>
  bp (some (aNew Qd9 Qp8 m)) fun x15 m =>
  bp (unt (aStore 3 x15 x14 m)) fun _ m =>
  bp (pur (aFieldAddr 2 x15) m) fun x16 m =>
  bp (pur (aLoad false 1 x16 m) m) fun x17 m =>
  bp (evCall G.tab p20 [x17] m) fun x18 m =>
  bp (pur (bin .add true true .int p157 (.int .i64 1)) m) fun x19 m =>
  (Qu4 G i) x19 p156 p155 p20 p1 p5 m)
    (Q16e G p1 p20 p5 m)
def Q12y (G : Gt) (p157 p156 p155 p20 p1 p5 : Value) (m : Mem) : Option Rs :=
  Qu4 G G.rds p157 p156 p155 p20 p1 p5 m
def Q16f (G : Gt) (p1 p20 p5 : Value) (m : Mem) : Option Rs :=
  bp (pur (aFieldAddr 10 p1) m) fun x20 m =>
  bp (pur (aLoad false 1 x20 m) m) fun x21 m =>
  bp (pur (lenK 1 x21 m) m) fun x22 m =>
  Q12y G (.int .i64 0) x22 x21 p20 p1 p5 m
def Q16g (G : Gt) (p5 p1 : Value) (m : Mem) : Option Rs :=
  Q16f G p1 (.func (.func Q15h) ⟨[]⟩ ⟨[p5]⟩) p5 m
def Qu5 (G : Gt) (k0 : Value → Value → Value → Value → Value → Mem → Option Rs) (p142 p141 p140 p5 p1 : Value) (m : Mem) : Option Rs :=
  bp (pur (bin .add true true .int p142 (.int .i64 1)) m) fun x23 m =>
  k0 x23 p141 p140 p5 p1 m
def Q12z (G : Gt) (k0 : Value → Value → Value → Value → Value → Mem → Option Rs) (p140 p142 p5 p141 p1 : Value) (m : Mem) : Option Rs :=
  bp (pur (aIndexAddrSl 3 p140 p142) m) fun x24 m =>
  bp (pur (aLoad true 3 x24 m) m) fun x25 m =>
  bp (some (aNew Qe8 Qe7 m)) fun x26 m =>
  bp (unt (aStore 3 x26 x25 m)) fun _ m =>
  bp (pur (aLoad false 1 p5 m) m) fun x27 m =>
  brb x27
    (bp (pur (aFieldAddr 1 x26) m) fun x28 m =>
  bp (pur (aLoad false 1 x28 m) m) fun x29 m =>
  bp (pur (bin .neq true true .str x29 (.string ⟨#[]⟩)) m) fun x30 m =>
  bp (unt (aStore 1 p5 x30 m)) fun _ m =>
  Qu5 G k0 p142 p141 p140 p5 p1 m)
    (bp (unt (aStore 1 p5 (.bool false) m)) fun _ m =>
  Qu5 G k0 p142 p141 p140 p5 p1 m)
def Q130 (G : Gt) (k0 : Value → Value → Value → Value → Value → Mem → Option Rs) (p143 p140 p142 p5 p141 p1 : Value) (m : Mem) : Option Rs :=
  brb p143
    (Q12z G k0 p140 p142 p5 p141 p1 m)
    (Q16g G p5 p1 m)
def Q9s (G : Gt) : Nat → Value → Value → Value → Value → Value → Mem → Option Rs
  | 0, _, _, _, _, _, _ => none
  | i + 1, p142, p141, p140, p5, p1, m =>
  bp (pur (bin .lss false true .int p142 p141) m) fun x31 m =>
  Q130 G (Q9s G i) x31 p140 p142 p5 p141 p1 m
def Q131 (G : Gt) (p142 p141 p140 p5 p1 : Value) (m : Mem) : Option Rs :=
  Q9s G G.rds p142 p141 p140 p5 p1 m
def Q16h (G : Gt) (p1 p5 : Value) (m : Mem) : Option Rs :=
  bp (pur (aFieldAddr 5 p1) m) fun x32 m =>
  bp (pur (aLoad false 1 x32 m) m) fun x33 m =>
  bp (pur (lenK 1 x33 m) m) fun x34 m =>
  Q131 G (.int .i64 0) x34 x33 p5 p1 m
def Q132 (G : Gt) (k0 : Value → Value → Value → Value → Value → Mem → Option Rs) (p112 p111 p110 p5 p1 : Value) (m : Mem) : Option Rs :=
  bp (pur (bin .add true true .int p112 (.int .i64 1)) m) fun x35 m =>
  k0 x35 p111 p110 p5 p1 m
def Qu6 (G : Gt) (k1 : Value → Value → Value → Value → Value → Value → Value → Value → Mem → Option Rs) (p126 p125 p124 p5 p112 p111 p110 p1 : Value) (m : Mem) : Option Rs :=
  bp (pur (bin .add true true .int p126 (.int .i64 1)) m) fun x36 m =>
  k1 x36 p125 p124 p5 p112 p111 p110 p1 m
def Q133 (G : Gt) (k1 : Value → Value → Value → Value → Value → Value → Value → Value → Mem → Option Rs) (p124 p126 p5 p125 p112 p111 p110 p1 : Value) (m : Mem) : Option Rs :=
  bp (pur (aIndexAddrSl 2 p124 p126) m) fun x37 m =>
  bp (pur (aLoad true 2 x37 m) m) fun x38 m =>
  bp (some (aNew Qb8 Qgk m)) fun x39 m =>
  bp (unt (aStore 2 x39 x38 m)) fun _ m =>
  bp (pur (aLoad false 1 p5 m) m) fun x40 m =>
  brb x40
    (bp (pur (aFieldAddr 1 x39) m) fun x41 m =>
  bp (pur (aLoad false 1 x41 m) m) fun x42 m =>
  bp (pur (lenK 1 x42 m) m) fun x43 m =>
  bp (pur (bin .gtr true true .int x43 (.int .i64 0)) m) fun x44 m =>
  bp (unt (aStore 1 p5 x44 m)) fun _ m =>
  Qu6 G k1 p126 p125 p124 p5 p112 p111 p110 p1 m)
    (bp (unt (aStore 1 p5 (.bool false) m)) fun _ m =>
  Qu6 G k1 p126 p125 p124 p5 p112 p111 p110 p1 m)
def Q134 (G : Gt) (k1 : Value → Value → Value → Value → Value → Value → Value → Value → Mem → Option Rs) (k0 : Value → Value → Value → Value → Value → Mem → Option Rs) (p127 p124 p126 p5 p125 p112 p111 p110 p1 : Value) (m : Mem) : Option Rs :=
  brb p127
    (Q133 G k1 p124 p126 p5 p125 p112 p111 p110 p1 m)
    (Q132 G k0 p112 p111 p110 p5 p1 m)
def Q9t (G : Gt) (k0 : Value → Value → Value → Value → Value → Mem → Option Rs) : Nat → Value → Value → Value → Value → Value → Value → Value → Value → Mem → Option Rs
  | 0, _, _, _, _, _, _, _, _, _ => none
  | i + 1, p126, p125, p124, p5, p112, p111, p110, p1, m =>
  bp (pur (bin .lss false true .int p126 p125) m) fun x45 m =>
  Q134 G (Q9t G k0 i) k0 x45 p124 p126 p5 p125 p112 p111 p110 p1 m
def Q135 (G : Gt) (k0 : Value → Value → Value → Value → Value → Mem → Option Rs) (p126 p125 p124 p5 p112 p111 p110 p1 : Value) (m : Mem) : Option Rs :=
  Q9t G k0 G.rds p126 p125 p124 p5 p112 p111 p110 p1 m
def Qu7 (G : Gt) (k0 : Value → Value → Value → Value → Value → Mem → Option Rs) (p15 p5 p112 p111 p110 p1 : Value) (m : Mem) : Option Rs :=
  bp (pur (aFieldAddr 1 p15) m) fun x46 m =>
  bp (pur (aLoad false 1 x46 m) m) fun x47 m =>
  bp (pur (lenK 1 x47 m) m) fun x48 m =>
  Q135 G k0 (.int .i64 0) x48 x47 p5 p112 p111 p110 p1 m
def Q136 (G : Gt) (k0 : Value → Value → Value → Value → Value → Mem → Option Rs) (p5 p15 p112 p111 p110 p1 : Value) (m : Mem) : Option Rs :=
  bp (pur (aLoad false 1 p5 m) m) fun x49 m =>
  brb x49
    (bp (pur (aFieldAddr 1 p15) m) fun x50 m =>
  bp (pur (aLoad false 1 x50 m) m) fun x51 m =>
  bp (pur (lenK 1 x51 m) m) fun x52 m =>
  bp (pur (bin .gtr true true .int x52 (.int .i64 0)) m) fun x53 m =>
  bp (unt (aStore 1 p5 x53 m)) fun _ m =>
  Qu7 G k0 p15 p5 p112 p111 p110 p1 m)
    (bp (unt (aStore 1 p5 (.bool false) m)) fun _ m =>
  Qu7 G k0 p15 p5 p112 p111 p110 p1 m)
def Q137 (G : Gt) (k0 : Value → Value → Value → Value → Value → Mem → Option Rs) (p110 p112 p5 p111 p1 : Value) (m : Mem) : Option Rs :=
  bp (pur (aIndexAddrSl 2 p110 p112) m) fun x54 m =>
  bp (pur (aLoad true 2 x54 m) m) fun x55 m =>
  bp (some (aNew Q24 Q3y m)) fun x56 m =>
  bp (unt (aStore 2 x56 x55 m)) fun _ m =>
  Q136 G k0 p5 x56 p112 p111 p110 p1 m
def Q138 (G : Gt) (k0 : Value → Value → Value → Value → Value → Mem → Option Rs) (p113 p110 p112 p5 p111 p1 : Value) (m : Mem) : Option Rs :=
  brb p113
    (Q137 G k0 p110 p112 p5 p111 p1 m)
    (Q16h G p1 p5 m)
def Q1c (G : Gt) : Nat → Value → Value → Value → Value → Value → Mem → Option Rs
  | 0, _, _, _, _, _, _ => none
  | i + 1, p112, p111, p110, p5, p1, m =>
  bp (pur (bin .lss false true .int p112 p111) m) fun x57 m =>
  Q138 G (Q1c G i) x57 p110 p112 p5 p111 p1 m
def Q139 (G : Gt) (p112 p111 p110 p5 p1 : Value) (m : Mem) : Option Rs :=
  Q1c G G.rds p112 p111 p110 p5 p1 m
def Q16i (G : Gt) (p1 p5 : Value) (m : Mem) : Option Rs :=
  bp (pur (aFieldAddr 8 p1) m) fun x58 m =>
  bp (pur (aLoad false 1 x58 m) m) fun x59 m =>
  bp (pur (lenK 1 x59 m) m) fun x60 m =>
  Q139 G (.int .i64 0) x60 x59 p5 p1 m
def Qu8 (G : Gt) (k0 : Value → Value → Value → Value → Value → Mem → Option Rs) (p97 p96 p95 p5 p1 : Value) (m : Mem) : Option Rs :=
  bp (pur (bin .add true true .int p97 (.int .i64 1)) m) fun x61 m =>
  k0 x61 p96 p95 p5 p1 m
def Q13a (G : Gt) (k0 : Value → Value → Value → Value → Value → Mem → Option Rs) (p95 p97 p5 p96 p1 : Value) (m : Mem) : Option Rs :=
  bp (pur (aIndexAddrSl 2 p95 p97) m) fun x62 m =>
  bp (pur (aLoad true 2 x62 m) m) fun x63 m =>
  bp (some (aNew Q2m Q62 m)) fun x64 m =>
  bp (unt (aStore 2 x64 x63 m)) fun _ m =>
  bp (pur (aLoad false 1 p5 m) m) fun x65 m =>
  brb x65
    (bp (pur (aFieldAddr 1 x64) m) fun x66 m =>
  bp (pur (aLoad false 1 x66 m) m) fun x67 m =>
  bp (pur (lenK 1 x67 m) m) fun x68 m =>
  bp (pur (bin .gtr true true .int x68 (.int .i64 0)) m) fun x69 m =>
  bp (unt (aStore 1 p5 x69 m)) fun _ m =>
  Qu8 G k0 p97 p96 p95 p5 p1 m)
    (bp (unt (aStore 1 p5 (.bool false) m)) fun _ m =>
  Qu8 G k0 p97 p96 p95 p5 p1 m)
def Q13b (G : Gt) (k0 : Value → Value → Value → Value → Value → Mem → Option Rs) (p98 p95 p97 p5 p96 p1 : Value) (m : Mem) : Option Rs :=
  brb p98
    (Q13a G k0 p95 p97 p5 p96 p1 m)
    (Q16i G p1 p5 m)
def Q9u (G : Gt) : Nat → Value → Value → Value → Value → Value → Mem → Option Rs
  | 0, _, _, _, _, _, _ => none
  | i + 1, p97, p96, p95, p5, p1, m =>
  bp (pur (bin .lss false true .int p97 p96) m) fun x70 m =>
  Q13b G (Q9u G i) x70 p95 p97 p5 p96 p1 m
def Q13c (G : Gt) (p97 p96 p95 p5 p1 : Value) (m : Mem) : Option Rs :=
  Q9u G G.rds p97 p96 p95 p5 p1 m
def Q16j (G : Gt) (p1 p5 : Value) (m : Mem) : Option Rs :=
  bp (pur (aFieldAddr 7 p1) m) fun x71 m =>
  bp (pur (aLoad false 1 x71 m) m) fun x72 m =>
  bp (pur (lenK 1 x72 m) m) fun x73 m =>
  Q13c G (.int .i64 0) x73 x72 p5 p1 m
def Qma (G : Gt) (k0 : Value → Value → Value → Value → Value → Mem → Option Rs) (p77 p76 p75 p5 p1 : Value) (m : Mem) : Option Rs :=
  bp (pur (bin .add true true .int p77 (.int .i64 1)) m) fun x74 m =>
  k0 x74 p76 p75 p5 p1 m
def Q13d (G : Gt) (k0 : Value → Value → Value → Value → Value → Mem → Option Rs) (p75 p77 p5 p76 p1 : Value) (m : Mem) : Option Rs :=
  bp (pur (aIndexAddrSl 3 p75 p77) m) fun x75 m =>
  bp (pur (aLoad true 3 x75 m) m) fun x76 m =>
  bp (some (aNew Q42 Q8i m)) fun x77 m =>
  bp (unt (aStore 3 x77 x76 m)) fun _ m =>
  bp (pur (aLoad false 1 p5 m) m) fun x78 m =>
  brb x78
    (bp (pur (aFieldAddr 2 x77) m) fun x79 m =>
  bp (pur (aLoad false 1 x79 m) m) fun x80 m =>
  bp (pur (un .not x80) m) fun x81 m =>
  brb x81
    (bp (pur (aFieldAddr 1 x77) m) fun x82 m =>
  bp (pur (aLoad false 1 x82 m) m) fun x83 m =>
  bp (pur (lenK 1 x83 m) m) fun x84 m =>
  bp (pur (bin .gtr true true .int x84 (.int .i64 0)) m) fun x85 m =>
  bp (unt (aStore 1 p5 x85 m)) fun _ m =>
  Qma G k0 p77 p76 p75 p5 p1 m)
    (bp (unt (aStore 1 p5 (.bool false) m)) fun _ m =>
  Qma G k0 p77 p76 p75 p5 p1 m))
    (bp (unt (aStore 1 p5 (.bool false) m)) fun _ m =>
  Qma G k0 p77 p76 p75 p5 p1 m)
def Q13e (G : Gt) (k0 : Value → Value → Value → Value → Value → Mem → Option Rs) (p78 p75 p77 p5 p76 p1 : Value) (m : Mem) : Option Rs :=
  brb p78
    (Q13d G k0 p75 p77 p5 p76 p1 m)
    (Q16j G p1 p5 m)
def Q9v (G : Gt) : Nat → Value → Value → Value → Value → Value → Mem → Option Rs
  | 0, _, _, _, _, _, _ => none
  | i + 1, p77, p76, p75, p5, p1, m =>
  bp (pur (bin .lss false true .int p77 p76) m) fun x86 m =>
  Q13e G (Q9v G i) x86 p75 p77 p5 p76 p1 m
def Q13f (G : Gt) (p77 p76 p75 p5 p1 : Value) (m : Mem) : Option Rs :=
  Q9v G G.rds p77 p76 p75 p5 p1 m
def Q16k (G : Gt) (p1 p5 : Value) (m : Mem) : Option Rs :=
  bp (pur (aFieldAddr 9 p1) m) fun x87 m =>
  bp (pur (aLoad false 1 x87 m) m) fun x88 m =>
  bp (pur (lenK 1 x88 m) m) fun x89 m =>
  Q13f G (.int .i64 0) x89 x88 p5 p1 m
def Q13g (G : Gt) (k0 : Value → Value → Value → Value → Value → Mem → Option Rs) (p40 p39 p38 p5 p1 : Value) (m : Mem) : Option Rs :=
  bp (pur (bin .add true true .int p40 (.int .i64 1)) m) fun x90 m =>
  k0 x90 p39 p38 p5 p1 m
def Qej (G : Gt) (k1 : Value → Value → Value → Value → Value → Value → Value → Value → Mem → Option Rs) (p47 p46 p45 p5 p40 p39 p38 p1 : Value) (m : Mem) : Option Rs :=
  bp (pur (bin .add true true .int p47 (.int .i64 1)) m) fun x91 m =>
  k1 x91 p46 p45 p5 p40 p39 p38 p1 m
def Q13h (G : Gt) (k1 : Value → Value → Value → Value → Value → Value → Value → Value → Mem → Option Rs) (p45 p47 p5 p46 p40 p39 p38 p1 : Value) (m : Mem) : Option Rs :=
  bp (pur (aIndexAddrSl 10 p45 p47) m) fun x92 m =>
  bp (pur (aLoad true 10 x92 m) m) fun x93 m =>
  bp (some (aNew Q7n Qid m)) fun x94 m =>
  bp (unt (aStore 10 x94 x93 m)) fun _ m =>
  bp (pur (aLoad false 1 p5 m) m) fun x95 m =>
  brt x95
    (bp (pur (aFieldAddr 1 x94) m) fun x96 m =>
  bp (pur (aLoad false 1 x96 m) m) fun x97 m =>
  bp (pur (bin .eql true true .int x97 (.int .i64 6)) m) fun x98 m =>
  brt x98
    (bp (unt (aStore 1 p5 (.bool true) m)) fun _ m =>
  Qej G k1 p47 p46 p45 p5 p40 p39 p38 p1 m)
    (bp (pur (aFieldAddr 1 x94) m) fun x99 m =>
  bp (pur (aLoad false 1 x99 m) m) fun x100 m =>
  bp (pur (bin .eql true true .int x100 (.int .i64 17)) m) fun x101 m =>
  brt x101
    (bp (unt (aStore 1 p5 (.bool true) m)) fun _ m =>
  Qej G k1 p47 p46 p45 p5 p40 p39 p38 p1 m)
    (bp (pur (aFieldAddr 6 x94) m) fun x102 m =>
  bp (pur (aLoad true 2 x102 m) m) fun x103 m =>
  bp (pur (aFieldAddr 8 x94) m) fun x104 m =>
  bp (pur (aLoad true 2 x104 m) m) fun x105 m =>
  bp (G.tab Qgj [x103] m) fun x106 m =>
  ckB (again (pur (aLoad true 2 x104 m) m) x105 && true)
    (bp (G.tab Qgj [x105] m) fun x107 m =>
  bp (pur (bin .add false true .str x106 x107) m) fun x108 m =>
  bp (pur (bin .eql true true .str x108 (.string ⟨#[]⟩)) m) fun x109 m =>
  bp (unt (aStore 1 p5 x109 m)) fun _ m =>
  Qej G k1 p47 p46 p45 p5 p40 p39 p38 p1 m))
    (none))
    (none))
    (bp (unt (aStore 1 p5 (.bool false) m)) fun _ m =>
  Qej G k1 p47 p46 p45 p5 p40 p39 p38 p1 m)
    (none)
def Q13i (G : Gt) (k1 : Value → Value → Value → Value → Value → Value → Value → Value → Mem → Option Rs) (k0 : Value → Value → Value → Value → Value → Mem → Option Rs) (p48 p45 p47 p5 p46 p40 p39 p38 p1 : Value) (m : Mem) : Option Rs :=
  brb p48
    (Q13h G k1 p45 p47 p5 p46 p40 p39 p38 p1 m)
    (Q13g G k0 p40 p39 p38 p5 p1 m)
def Q9w (G : Gt) (k0 : Value → Value → Value → Value → Value → Mem → Option Rs) : Nat → Value → Value → Value → Value → Value → Value → Value → Value → Mem → Option Rs
  | 0, _, _, _, _, _, _, _, _, _ => none
  | i + 1, p47, p46, p45, p5, p40, p39, p38, p1, m =>
  bp (pur (bin .lss false true .int p47 p46) m) fun x110 m =>
  Q13i G (Q9w G k0 i) k0 x110 p45 p47 p5 p46 p40 p39 p38 p1 m
def Q13j (G : Gt) (k0 : Value → Value → Value → Value → Value → Mem → Option Rs) (p47 p46 p45 p5 p40 p39 p38 p1 : Value) (m : Mem) : Option Rs :=
  Q9w G k0 G.rds p47 p46 p45 p5 p40 p39 p38 p1 m
def Q13k (G : Gt) (k0 : Value → Value → Value → Value → Value → Mem → Option Rs) (p7 p5 p40 p39 p38 p1 : Value) (m : Mem) : Option Rs :=
  bp (pur (aFieldAddr 1 p7) m) fun x111 m =>
  bp (pur (aLoad false 1 x111 m) m) fun x112 m =>
  bp (pur (lenK 1 x112 m) m) fun x113 m =>
  Q13j G k0 (.int .i64 0) x113 x112 p5 p40 p39 p38 p1 m
def Q13l (G : Gt) (k0 : Value → Value → Value → Value → Value → Mem → Option Rs) (p38 p40 p5 p39 p1 : Value) (m : Mem) : Option Rs :=
  bp (pur (aIndexAddrSl 2 p38 p40) m) fun x114 m =>
  bp (pur (aLoad true 2 x114 m) m) fun x115 m =>
  bp (some (aNew Q5b Qbf m)) fun x116 m =>
  bp (unt (aStore 2 x116 x115 m)) fun _ m =>
  Q13k G k0 x116 p5 p40 p39 p38 p1 m
def Q13m (G : Gt) (k0 : Value → Value → Value → Value → Value → Mem → Option Rs) (p41 p38 p40 p5 p39 p1 : Value) (m : Mem) : Option Rs :=
  brb p41
    (Q13l G k0 p38 p40 p5 p39 p1 m)
    (Q16k G p1 p5 m)
def Q1k (G : Gt) : Nat → Value → Value → Value → Value → Value → Mem → Option Rs
  | 0, _, _, _, _, _, _ => none
  | i + 1, p40, p39, p38, p5, p1, m =>
  bp (pur (bin .lss false true .int p40 p39) m) fun x117 m =>
  Q13m G (Q1k G i) x117 p38 p40 p5 p39 p1 m
def Q13n (G : Gt) (p40 p39 p38 p5 p1 : Value) (m : Mem) : Option Rs :=
  Q1k G G.rds p40 p39 p38 p5 p1 m
def Q16l (G : Gt) (p1 p5 : Value) (m : Mem) : Option Rs :=
  bp (pur (aFieldAddr 4 p1) m) fun x118 m =>
  bp (pur (aLoad false 1 x118 m) m) fun x119 m =>
  bp (pur (lenK 1 x119 m) m) fun x120 m =>
  Q13n G (.int .i64 0) x120 x119 p5 p1 m
def Q16m (G : Gt) (p1 : Value) (m : Mem) : Option Rs :=
  bp (some (aNew Q1ga [(.bool false)] m)) fun x121 m =>
  bp (unt (aStore 1 x121 (.bool true) m)) fun _ m =>
  Q16l G p1 x121 m
def Qu9 (G : Gt) (p36 p1 : Value) (m : Mem) : Option Rs :=
  brb p36
    (some ((.bool false), m))
    (Q16m G p1 m)
def Q13o (G : Gt) (p4 p1 : Value) (m : Mem) : Option Rs :=
  bp (pur (bin .neq true true .int p4 (.int .i64 0)) m) fun x122 m =>
  brb x122
    (Qu9 G (.bool true) p1 m)
    (bp (pur (aFieldAddr 1 p1) m) fun x123 m =>
  bp (pur (aLoad false 1 x123 m) m) fun x124 m =>
  bp (pur (bin .neq true true .int x124 (.int .u8 1)) m) fun x125 m =>
  Qu9 G x125 p1 m)
def Q16n (G : Gt) (p1 : Value) (m : Mem) : Option Rs :=
  bp (pur (aLoad true 12 p1 m) m) fun x126 m =>
  bp (G.tab Qm9 [x126] m) fun x127 m =>
  bp (pur (aExtract x127 0) m) fun x128 m =>
  bp (pur (aExtract x127 1) m) fun x129 m =>
  Q13o G x129 p1 m
def Q12b (G : Gt) (p0 : Value) (m : Mem) : Option Rs :=
  bp (some (aNew Qq (Value.cells p0).toList m)) fun x130 m =>
  Q16n G x130 m
theorem Q1ds (G : Gt) (a0 : Value) (m : Mem) : evFn Go.Proofs.Tryz.prog G.tab G.rds (drOf Go.Proofs.Tryz.prog G.tab) Go.Proofs.Tryz.f15 [a0] m = Q12b G a0 m :=
  evFn_of (r := fun ρ m => Q12b G (ρ 0) m) rfl rfl (tr (seqQ (f := fun ρ m => Q16n G (ρ 1) m) (tr (tr (seqQ (f := fun ρ m => Q16m G (ρ 1) m) (tr (seqQ (f := fun ρ m => Q16l G (ρ 1) (ρ 5) m) (tr (tr (seqQ (f := fun ρ m => Q16k G (ρ 1) (ρ 5) m) (tr (tr (seqQ (f := fun ρ m => Q16j G (ρ 1) (ρ 5) m) (tr (tr (seqQ (f := fun ρ m => Q16i G (ρ 1) (ρ 5) m) (tr (tr (seqQ (f := fun ρ m => Q16h G (ρ 1) (ρ 5) m) (tr (tr (seqQ (f := fun ρ m => Q16g G (ρ 5) (ρ 1) m) (tr (seqQ (f := fun ρ m => Q16f G (ρ 1) (ρ 20) (ρ 5) m) (tr (tr (seqQ (f := fun ρ m => Q16e G (ρ 1) (ρ 20) (ρ 5) m) (tr (tr (seqQ (f := fun ρ m => Q12w G (ρ 5) m) (fun ρ m => by kernel_rfl)) (seqQ (f := fun ρ m => Q12x G (ρ 169) (ρ 168) (ρ 167) (ρ 20) (ρ 5) m) (tr (blockQ (loopQ (fun i ρ m => Qu3 G i (ρ 169) (ρ 168) (ρ 167) (ρ 20) (ρ 5) m) (fun _ _ => rfl) (fun i0 => fun ρ m => by kernel_rfl))) (fun ρ m => by kernel_rfl)))) (fun ρ m => by kernel_rfl))) (seqQ (f := fun ρ m => Q12y G (ρ 157) (ρ 156) (ρ 155) (ρ 20) (ρ 1) (ρ 5) m) (tr (blockQ (loopQ (fun i ρ m => Qu4 G i (ρ 157) (ρ 156) (ρ 155) (ρ 20) (ρ 1) (ρ 5) m) (fun _ _ => rfl) (fun i0 => fun ρ m => by kernel_rfl))) (fun ρ m => by kernel_rfl)))) (fun ρ m => by kernel_rfl))) (fun ρ m => by kernel_rfl))) (seqQ (f := fun ρ m => Q131 G (ρ 142) (ρ 141) (ρ 140) (ρ 5) (ρ 1) m) (tr (blockQ (loopQ (fun i ρ m => Q9s G i (ρ 142) (ρ 141) (ρ 140) (ρ 5) (ρ 1) m) (fun _ _ => rfl) (fun i0 => tr (seqQ (f := fun ρ m => Q130 G (Q9s G i0) (ρ 143) (ρ 140) (ρ 142) (ρ 5) (ρ 141) (ρ 1) m) (tr (seqQ (f := fun ρ m => Q12z G (Q9s G i0) (ρ 140) (ρ 142) (ρ 5) (ρ 141) (ρ 1) m) (tr (seqQ (f := fun ρ m => Qu5 G (Q9s G i0) (ρ 142) (ρ 141) (ρ 140) (ρ 5) (ρ 1) m) (fun ρ m => by kernel_rfl)) (fun ρ m => by kernel_rfl))) (fun ρ m => by kernel_rfl))) (fun ρ m => by kernel_rfl)))) (fun ρ m => by kernel_rfl)))) (fun ρ m => by kernel_rfl))) (seqQ (f := fun ρ m => Q139 G (ρ 112) (ρ 111) (ρ 110) (ρ 5) (ρ 1) m) (tr (blockQ (loopQ (fun i ρ m => Q1c G i (ρ 112) (ρ 111) (ρ 110) (ρ 5) (ρ 1) m) (fun _ _ => rfl) (fun i0 => tr (seqQ (f := fun ρ m => Q138 G (Q1c G i0) (ρ 113) (ρ 110) (ρ 112) (ρ 5) (ρ 111) (ρ 1) m) (tr (seqQ (f := fun ρ m => Q137 G (Q1c G i0) (ρ 110) (ρ 112) (ρ 5) (ρ 111) (ρ 1) m) (tr (tr (seqQ (f := fun ρ m => Q132 G (Q1c G i0) (ρ 112) (ρ 111) (ρ 110) (ρ 5) (ρ 1) m) (fun ρ m => by kernel_rfl)) (blockQ (seqQ (f := fun ρ m => Q136 G (Q1c G i0) (ρ 5) (ρ 15) (ρ 112) (ρ 111) (ρ 110) (ρ 1) m) (tr (seqQ (f := fun ρ m => Qu7 G (Q1c G i0) (ρ 15) (ρ 5) (ρ 112) (ρ 111) (ρ 110) (ρ 1) m) (tr (seqQ (f := fun ρ m => Q135 G (Q1c G i0) (ρ 126) (ρ 125) (ρ 124) (ρ 5) (ρ 112) (ρ 111) (ρ 110) (ρ 1) m) (tr (blockQ (loopQ (fun i ρ m => Q9t G (Q1c G i0) i (ρ 126) (ρ 125) (ρ 124) (ρ 5) (ρ 112) (ρ 111) (ρ 110) (ρ 1) m) (fun _ _ => rfl) (fun i1 => tr (seqQ (f := fun ρ m => Q134 G (Q9t G (Q1c G i0) i1) (Q1c G i0) (ρ 127) (ρ 124) (ρ 126) (ρ 5) (ρ 125) (ρ 112) (ρ 111) (ρ 110) (ρ 1) m) (tr (seqQ (f := fun ρ m => Q133 G (Q9t G (Q1c G i0) i1) (ρ 124) (ρ 126) (ρ 5) (ρ 125) (ρ 112) (ρ 111) (ρ 110) (ρ 1) m) (tr (seqQ (f := fun ρ m => Qu6 G (Q9t G (Q1c G i0) i1) (ρ 126) (ρ 125) (ρ 124) (ρ 5) (ρ 112) (ρ 111) (ρ 110) (ρ 1) m) (fun ρ m => by kernel_rfl)) (fun ρ m => by kernel_rfl))) (fun ρ m => by kernel_rfl))) (fun ρ m => by kernel_rfl)))) (fun ρ m => by kernel_rfl))) (fun ρ m => by kernel_rfl))) (fun ρ m => by kernel_rfl))))) (fun ρ m => by kernel_rfl))) (fun ρ m => by kernel_rfl))) (fun ρ m => by kernel_rfl)))) (fun ρ m => by kernel_rfl)))) (fun ρ m => by kernel_rfl))) (seqQ (f := fun ρ m => Q13c G (ρ 97) (ρ 96) (ρ 95) (ρ 5) (ρ 1) m) (tr (blockQ (loopQ (fun i ρ m => Q9u G i (ρ 97) (ρ 96) (ρ 95) (ρ 5) (ρ 1) m) (fun _ _ => rfl) (fun i0 => tr (seqQ (f := fun ρ m => Q13b G (Q9u G i0) (ρ 98) (ρ 95) (ρ 97) (ρ 5) (ρ 96) (ρ 1) m) (tr (seqQ (f := fun ρ m => Q13a G (Q9u G i0) (ρ 95) (ρ 97) (ρ 5) (ρ 96) (ρ 1) m) (tr (seqQ (f := fun ρ m => Qu8 G (Q9u G i0) (ρ 97) (ρ 96) (ρ 95) (ρ 5) (ρ 1) m) (fun ρ m => by kernel_rfl)) (fun ρ m => by kernel_rfl))) (fun ρ m => by kernel_rfl))) (fun ρ m => by kernel_rfl)))) (fun ρ m => by kernel_rfl)))) (fun ρ m => by kernel_rfl))) (seqQ (f := fun ρ m => Q13f G (ρ 77) (ρ 76) (ρ 75) (ρ 5) (ρ 1) m) (tr (blockQ (loopQ (fun i ρ m => Q9v G i (ρ 77) (ρ 76) (ρ 75) (ρ 5) (ρ 1) m) (fun _ _ => rfl) (fun i0 => tr (seqQ (f := fun ρ m => Q13e G (Q9v G i0) (ρ 78) (ρ 75) (ρ 77) (ρ 5) (ρ 76) (ρ 1) m) (tr (seqQ (f := fun ρ m => Q13d G (Q9v G i0) (ρ 75) (ρ 77) (ρ 5) (ρ 76) (ρ 1) m) (tr (seqQ (f := fun ρ m => Qma G (Q9v G i0) (ρ 77) (ρ 76) (ρ 75) (ρ 5) (ρ 1) m) (fun ρ m => by kernel_rfl)) (fun ρ m => by kernel_rfl))) (fun ρ m => by kernel_rfl))) (fun ρ m => by kernel_rfl)))) (fun ρ m => by kernel_rfl)))) (fun ρ m => by kernel_rfl))) (seqQ (f := fun ρ m => Q13n G (ρ 40) (ρ 39) (ρ 38) (ρ 5) (ρ 1) m) (tr (blockQ (loopQ (fun i ρ m => Q1k G i (ρ 40) (ρ 39) (ρ 38) (ρ 5) (ρ 1) m) (fun _ _ => rfl) (fun i0 => tr (seqQ (f := fun ρ m => Q13m G (Q1k G i0) (ρ 41) (ρ 38) (ρ 40) (ρ 5) (ρ 39) (ρ 1) m) (tr (seqQ (f := fun ρ m => Q13l G (Q1k G i0) (ρ 38) (ρ 40) (ρ 5) (ρ 39) (ρ 1) m) (tr (tr (seqQ (f := fun ρ m => Q13g G (Q1k G i0) (ρ 40) (ρ 39) (ρ 38) (ρ 5) (ρ 1) m) (fun ρ m => by kernel_rfl)) (blockQ (seqQ (f := fun ρ m => Q13k G (Q1k G i0) (ρ 7) (ρ 5) (ρ 40) (ρ 39) (ρ 38) (ρ 1) m) (tr (seqQ (f := fun ρ m => Q13j G (Q1k G i0) (ρ 47) (ρ 46) (ρ 45) (ρ 5) (ρ 40) (ρ 39) (ρ 38) (ρ 1) m) (tr (blockQ (loopQ (fun i ρ m => Q9w G (Q1k G i0) i (ρ 47) (ρ 46) (ρ 45) (ρ 5) (ρ 40) (ρ 39) (ρ 38) (ρ 1) m) (fun _ _ => rfl) (fun i1 => tr (seqQ (f := fun ρ m => Q13i G (Q9w G (Q1k G i0) i1) (Q1k G i0) (ρ 48) (ρ 45) (ρ 47) (ρ 5) (ρ 46) (ρ 40) (ρ 39) (ρ 38) (ρ 1) m) (tr (seqQ (f := fun ρ m => Q13h G (Q9w G (Q1k G i0) i1) (ρ 45) (ρ 47) (ρ 5) (ρ 46) (ρ 40) (ρ 39) (ρ 38) (ρ 1) m) (tr (seqQ (f := fun ρ m => Qej G (Q9w G (Q1k G i0) i1) (ρ 47) (ρ 46) (ρ 45) (ρ 5) (ρ 40) (ρ 39) (ρ 38) (ρ 1) m) (fun ρ m => by kernel_rfl)) (fun ρ m => by kernel_rfl))) (fun ρ m => by kernel_rfl))) (fun ρ m => by kernel_rfl)))) (fun ρ m => by kernel_rfl))) (fun ρ m => by kernel_rfl))))) (fun ρ m => by kernel_rfl))) (fun ρ m => by kernel_rfl))) (fun ρ m => by kernel_rfl)))) (fun ρ m => by kernel_rfl)))) (fun ρ m => by kernel_rfl))) (fun ρ m => by kernel_rfl))) (seqQ (f := fun ρ m => Q13o G (ρ 4) (ρ 1) m) (tr (seqQ (f := fun ρ m => Qu9 G (ρ 36) (ρ 1) m) (fun ρ m => by kernel_rfl)) (fun ρ m => by kernel_rfl)))) (fun ρ m => by kernel_rfl))) (fun ρ m => by kernel_rfl)) m
def Q1dr : Entry Go.Proofs.Tryz.prog := ⟨Q196, Go.Proofs.Tryz.f15, Go.Proofs.Tryz.func15, by kernel_rfl, arg1 (fun G a0 m => Q12b G a0 m), okarg1 Q1ds⟩
end
end Go.Ab.Sh
