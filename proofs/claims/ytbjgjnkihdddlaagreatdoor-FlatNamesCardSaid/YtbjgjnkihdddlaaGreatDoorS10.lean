/-
  Functions of the program as plain definitions, each with the theorem that it is what the evaluator makes of the code. No conditions.
-/
import Derived.Test.YtbjgjnkihdddlaaGreatDoorAb4
import Derived.Test.YtbjgjnkihdddlaaGreatDoorZ
import Derived.KernelRfl
import Derived.Test.YtbjgjnkihdddlaaGreatDoorProg
set_option linter.unusedVariables false
set_option maxRecDepth 100000
namespace Go.Ab.Sh
open Go Go.Ab
noncomputable section
def Q4p (G : Gt) (p0 p10 : Value) (m : Mem) : Option Rs :=
  bp (G.tab Qf [p0, p10] m) fun x0 m =>
  some (.tuple ⟨[]⟩, m)
def Q80 (G : Gt) (p86 p2 p7 p9 p0 p10 : Value) (m : Mem) : Option Rs :=
  brb p86
    (bp (pur (aNilCheck p2) m) fun x9 m =>
  bp (pur (aFieldAddr 4 x9) m) fun x10 m =>
  bp (pur (aLoad false 1 x10 m) m) fun x11 m =>
  bp (pur (aLoad true 6 p9 m) m) fun x12 m =>
  bp (pur (aIndexAddrSl 6 x11 p7) m) fun x13 m =>
  bp (unt (aStore 6 x13 x12 m)) fun _ m =>
  Q4p G p0 p10 m)
    (bp (pur (bin .lss true true .int p7 (.int .i64 0)) m) fun x14 m =>
  brb x14
    (bp (pur (aNilCheck p0) m) fun x15 m =>
  bp (pur (aFieldAddr 16 x15) m) fun x16 m =>
  bp (unt (aStore 1 x16 (.bool true) m)) fun _ m =>
  some (.tuple ⟨[]⟩, m))
    (Q4p G p0 p10 m))
def Q81 (G : Gt) (p69 p2 p9 p0 p10 p7 p8 : Value) (m : Mem) : Option Rs :=
  brb p69
    (bp (pur (aNilCheck p2) m) fun x1 m =>
  bp (pur (aFieldAddr 4 x1) m) fun x2 m =>
  bp (pur (aLoad false 1 x2 m) m) fun x3 m =>
  bp (pur (aLoad true 6 p9 m) m) fun x4 m =>
  bp (aBuildSlice Qdp Qi9 6 1 [(0, x4)] m) fun x5 m =>
  bp (apS Qdp 6 48 x3 x5 m) fun x6 m =>
  bp (pur (aNilCheck p2) m) fun x7 m =>
  bp (pur (aFieldAddr 4 x7) m) fun x8 m =>
  bp (unt (aStore 1 x8 x6 m)) fun _ m =>
  Q4p G p0 p10 m)
    (bp (pur (bin .geq true true .int p7 (.int .i64 0)) m) fun x17 m =>
  brb x17
    (bp (pur (bin .neq true true .int p8 (.int .i64 0)) m) fun x18 m =>
  Q80 G x18 p2 p7 p9 p0 p10 m)
    (Q80 G (.bool false) p2 p7 p9 p0 p10 m))
def Q1w (G : Gt) (p8 p7 p2 p9 p0 p10 : Value) (m : Mem) : Option Rs :=
  bp (pur (bin .eql true true .int p8 (.int .i64 0)) m) fun x19 m =>
  brb x19
    (bp (pur (bin .lss true true .int p7 (.int .i64 0)) m) fun x20 m =>
  Q81 G x20 p2 p9 p0 p10 p7 p8 m)
    (Q81 G (.bool false) p2 p9 p0 p10 p7 p8 m)
def Qga (G : Gt) (p8 p6 p1 p9 p7 p2 p0 p10 : Value) (m : Mem) : Option Rs :=
  bp (pur (bin .eql true true .int p8 (.int .i64 0)) m) fun x21 m =>
  brb x21
    (bp (pur (aLoad false 1 p6 m) m) fun x22 m =>
  bp (G.tab Q3 [p1, (.int .i64 1), (.int .i64 4294967295)] m) fun x23 m =>
  ckB (again (pur (aLoad false 1 p6 m) m) x22 && true)
    (bp (conv (.int .u32) x23 m) fun x24 m =>
  bp (pur (aBuild Qi9 [(0, 1), (1, 1), (2, 1), (3, 1), (4, 1), (5, 1)] [(0, x22), (1, x24)]) m) fun x25 m =>
  bp (unt (aStore 6 p9 x25 m)) fun _ m =>
  Q1w G p8 p7 p2 p9 p0 p10 m))
    (bp (pur (bin .eql true true .int p8 (.int .i64 1)) m) fun x26 m =>
  brb x26
    (bp (G.tab Qh [p1] m) fun x27 m =>
  bp (aBuildSlice Q2 [(.string ⟨#[]⟩)] 1 2 [(0, (.string ⟨#[105, 110]⟩)), (1, (.string ⟨#[111, 117, 116]⟩))] m) fun x28 m =>
  bp (G.tab Qs [p1, x28] m) fun x29 m =>
  bp (pur (bin .eql true true .int x29 (.int .i64 0)) m) fun x30 m =>
  brb x30
    (bp (aBuildSlice Q2 [(.string ⟨#[]⟩)] 1 1 [(0, (.string ⟨#[105, 110]⟩))] m) fun x31 m =>
  bp (apS Q2 1 16 p10 x31 m) fun x32 m =>
  bp (pur (aFieldAddr 2 p9) m) fun x33 m =>
  bp (unt (aStore 1 x33 x27 m)) fun _ m =>
  Q1w G p8 p7 p2 p9 p0 x32 m)
    (bp (aBuildSlice Q2 [(.string ⟨#[]⟩)] 1 1 [(0, (.string ⟨#[111, 117, 116]⟩))] m) fun x34 m =>
  bp (apS Q2 1 16 p10 x34 m) fun x35 m =>
  bp (pur (aFieldAddr 3 p9) m) fun x36 m =>
  bp (unt (aStore 1 x36 x27 m)) fun _ m =>
  Q1w G p8 p7 p2 p9 p0 x35 m))
    (bp (pur (bin .eql true true .int p8 (.int .i64 2)) m) fun x37 m =>
  brb x37
    (bp (pur (aFieldAddr 4 p9) m) fun x38 m =>
  bp (unt (aStore 1 x38 (.bool true) m)) fun _ m =>
  Q1w G p8 p7 p2 p9 p0 p10 m)
    (bp (pur (aFieldAddr 5 p9) m) fun x39 m =>
  bp (unt (aStore 1 x39 (.bool true) m)) fun _ m =>
  Q1w G p8 p7 p2 p9 p0 p10 m)))
def Q82 (G : Gt) (p6 p8 p1 p9 p7 p2 p0 : Value) (m : Mem) : Option Rs :=
  bp (pur (aLoad false 1 p6 m) m) fun x40 m =>
  bp (aBuildSlice Q2 [(.string ⟨#[]⟩)] 1 4 [(0, (.string ⟨#[97, 115]⟩)), (1, (.string ⟨#[114, 111, 117, 116, 101, 45, 109, 97, 112]⟩)), (2, (.string ⟨#[99, 108, 105, 101, 110, 116]⟩)), (3, (.string ⟨#[110, 101, 120, 116, 45, 104, 111, 112, 45, 115, 101, 108, 102]⟩))] m) fun x41 m =>
  bp (pur (aIndexAddrSl 1 x41 p8) m) fun x42 m =>
  bp (pur (aLoad false 1 x42 m) m) fun x43 m =>
  bp (G.tab Q1t [x40] m) fun x44 m =>
  ckB (again (pur (aLoad false 1 x42 m) m) x43 && true)
    (bp (aBuildSlice Q2 [(.string ⟨#[]⟩)] 1 3 [(0, (.string ⟨#[110, 101, 105, 103, 104, 98, 111, 114]⟩)), (1, x44), (2, x43)] m) fun x45 m =>
  Qga G p8 p6 p1 p9 p7 p2 p0 x45 m)
def Qgb (G : Gt) (p7 p2 p9 p6 p8 p1 p0 : Value) (m : Mem) : Option Rs :=
  bp (pur (bin .geq true true .int p7 (.int .i64 0)) m) fun x46 m =>
  brb x46
    (bp (pur (aNilCheck p2) m) fun x47 m =>
  bp (pur (aFieldAddr 4 x47) m) fun x48 m =>
  bp (pur (aLoad false 1 x48 m) m) fun x49 m =>
  bp (pur (aIndexAddrSl 6 x49 p7) m) fun x50 m =>
  bp (pur (aLoad true 6 x50 m) m) fun x51 m =>
  bp (unt (aStore 6 p9 x51 m)) fun _ m =>
  Q82 G p6 p8 p1 p9 p7 p2 p0 m)
    (Q82 G p6 p8 p1 p9 p7 p2 p0 m)
def Qgc (G : Gt) (p7 p2 p6 p8 p1 p0 : Value) (m : Mem) : Option Rs :=
  bp (some (aNew Qdp Qi9 m)) fun x52 m =>
  Qgb G p7 p2 x52 p6 p8 p1 p0 m
def Qgd (G : Gt) (p1 p7 p2 p6 p0 : Value) (m : Mem) : Option Rs :=
  bp (aBuildSlice Q2 [(.string ⟨#[]⟩)] 1 4 [(0, (.string ⟨#[97, 115]⟩)), (1, (.string ⟨#[114, 111, 117, 116, 101, 45, 109, 97, 112]⟩)), (2, (.string ⟨#[99, 108, 105, 101, 110, 116]⟩)), (3, (.string ⟨#[110, 101, 120, 116, 45, 104, 111, 112, 45, 115, 101, 108, 102]⟩))] m) fun x53 m =>
  bp (G.tab Qs [p1, x53] m) fun x54 m =>
  Qgc G p7 p2 p6 x54 p1 p0 m
def Qge (G : Gt) (p2 p6 p1 p0 : Value) (m : Mem) : Option Rs :=
  bp (pur (aNilCheck p2) m) fun x55 m =>
  bp (pur (aFieldAddr 4 x55) m) fun x56 m =>
  bp (pur (aLoad false 1 x56 m) m) fun x57 m =>
  bp (G.tab Q5m [x57, (.func (.func Qg0) ⟨[]⟩ ⟨[p6]⟩)] m) fun x58 m =>
  Qgd G p1 x58 p2 p6 p0 m
def Q9q (G : Gt) (p1 p2 p0 : Value) (m : Mem) : Option Rs :=
  bp (G.tab Qt [p1] m) fun x59 m =>
  bp (some (aNew Q1dt [(.int .u32 0)] m)) fun x60 m =>
  bp (unt (aStore 1 x60 x59 m)) fun _ m =>
  Qge G p2 x60 p1 p0 m
theorem Qwu (G : Gt) (a0 a1 a2 : Value) (m : Mem) : evFn Go.Proofs.Tryz.prog G.tab G.rds (drOf Go.Proofs.Tryz.prog G.tab) Go.Proofs.Tryz.f136 [a0, a1, a2] m = Q9q G a1 a2 a0 m :=
  evFn_of (r := fun ρ m => Q9q G (ρ 1) (ρ 2) (ρ 0) m) rfl rfl (tr (seqQ (f := fun ρ m => Qge G (ρ 2) (ρ 6) (ρ 1) (ρ 0) m) (tr (seqQ (f := fun ρ m => Qgd G (ρ 1) (ρ 7) (ρ 2) (ρ 6) (ρ 0) m) (tr (seqQ (f := fun ρ m => Qgc G (ρ 7) (ρ 2) (ρ 6) (ρ 8) (ρ 1) (ρ 0) m) (tr (seqQ (f := fun ρ m => Qgb G (ρ 7) (ρ 2) (ρ 9) (ρ 6) (ρ 8) (ρ 1) (ρ 0) m) (tr (seqQ (f := fun ρ m => Q82 G (ρ 6) (ρ 8) (ρ 1) (ρ 9) (ρ 7) (ρ 2) (ρ 0) m) (tr (seqQ (f := fun ρ m => Qga G (ρ 8) (ρ 6) (ρ 1) (ρ 9) (ρ 7) (ρ 2) (ρ 0) (ρ 10) m) (tr (seqQ (f := fun ρ m => Q1w G (ρ 8) (ρ 7) (ρ 2) (ρ 9) (ρ 0) (ρ 10) m) (tr (tr (seqQ (f := fun ρ m => Q4p G (ρ 0) (ρ 10) m) (fun ρ m => by kernel_rfl)) (blockQ (seqQ (f := fun ρ m => Q81 G (ρ 69) (ρ 2) (ρ 9) (ρ 0) (ρ 10) (ρ 7) (ρ 8) m) (tr (condQ (refQ) (seqQ (f := fun ρ m => Q80 G (ρ 86) (ρ 2) (ρ 7) (ρ 9) (ρ 0) (ρ 10) m) (fun ρ m => by kernel_rfl))) (fun ρ m => by kernel_rfl))))) (fun ρ m => by kernel_rfl))) (fun ρ m => by kernel_rfl))) (fun ρ m => by kernel_rfl))) (fun ρ m => by kernel_rfl))) (fun ρ m => by kernel_rfl))) (fun ρ m => by kernel_rfl))) (fun ρ m => by kernel_rfl))) (fun ρ m => by kernel_rfl)) m
def Qwo : Entry Go.Proofs.Tryz.prog := ⟨Qjl, Go.Proofs.Tryz.f136, Go.Proofs.Tryz.func136, by kernel_rfl, arg3 (fun G a0 a1 a2 m => Q9q G a1 a2 a0 m), okarg3 Qwu⟩
def Qsb (G : Gt) (p0 : Value) (m : Mem) : Option Rs :=
  bp (some (aNew Qq (Value.cells p0).toList m)) fun x0 m =>
  bp (some (aNew Q6s Qvm m)) fun x1 m =>
  bp (pur (aFieldAddr 2 x0) m) fun x2 m =>
  bp (pur (aLoad false 1 x2 m) m) fun x3 m =>
  bp (pur (aFieldAddr 4 x0) m) fun x4 m =>
  bp (pur (aLoad false 1 x4 m) m) fun x5 m =>
  bp (pur (aFieldAddr 7 x0) m) fun x6 m =>
  bp (pur (aLoad false 1 x6 m) m) fun x7 m =>
  bp (pur (aFieldAddr 8 x0) m) fun x8 m =>
  bp (pur (aLoad false 1 x8 m) m) fun x9 m =>
  bp (pur (aFieldAddr 9 x0) m) fun x10 m =>
  bp (pur (aLoad false 1 x10 m) m) fun x11 m =>
  bp (G.tab Qna [x3, (.func (.func Qsc) #[] #[])] m) fun x12 m =>
  ckB (again (pur (aLoad false 1 x4 m) m) x5 && (again (pur (aLoad false 1 x6 m) m) x7 && (again (pur (aLoad false 1 x8 m) m) x9 && (again (pur (aLoad false 1 x10 m) m) x11 && true))))
    (bp (G.tab Qg1 [x5, (.func (.func Qmq) #[] #[])] m) fun x13 m =>
  ckB (again (pur (aLoad false 1 x6 m) m) x7 && (again (pur (aLoad false 1 x8 m) m) x9 && (again (pur (aLoad false 1 x10 m) m) x11 && true)))
    (bp (G.tab Qaq [x7, (.func (.func Qhz) #[] #[])] m) fun x14 m =>
  ckB (again (pur (aLoad false 1 x8 m) m) x9 && (again (pur (aLoad false 1 x10 m) m) x11 && true))
    (bp (G.tab Q8o [x9, (.func (.func Qfg) #[] #[])] m) fun x15 m =>
  ckB (again (pur (aLoad false 1 x10 m) m) x11 && true)
    (bp (G.tab Qfy [x11, (.func (.func Qmo) #[] #[])] m) fun x16 m =>
  bp (pur (aBuild Qvm [(0, 1), (1, 1), (2, 1), (3, 1), (4, 1)] [(0, x12), (1, x13), (2, x14), (3, x15), (4, x16)]) m) fun x17 m =>
  bp (unt (aStore 5 x1 x17 m)) fun _ m =>
  ob (ob (aLoad true 5 x1 m) fun v => ob (some []) fun l => some (v :: l)) fun l => some (resVal l, m)))))
theorem Q19x (G : Gt) (a0 : Value) (m : Mem) : evFn Go.Proofs.Tryz.prog G.tab G.rds (drOf Go.Proofs.Tryz.prog G.tab) Go.Proofs.Tryz.f143 [a0] m = Qsb G a0 m :=
  evFn_of (r := fun ρ m => Qsb G (ρ 0) m) rfl rfl (fun ρ m => by kernel_rfl) m
def Q19n : Entry Go.Proofs.Tryz.prog := ⟨Qzs, Go.Proofs.Tryz.f143, Go.Proofs.Tryz.func143, by kernel_rfl, arg1 (fun G a0 m => Qsb G a0 m), okarg1 Q19x⟩
def Qfh (G : Gt) (p3 : Value) (m : Mem) : Option Rs :=
  some (p3, m)
def Qrh (G : Gt) (p1 p0 : Value) (m : Mem) : Option Rs :=
  bp (pur (aFieldAddr 2 p1) m) fun x0 m =>
  bp (pur (aLoad false 1 x0 m) m) fun x1 m =>
  bp (pur (aIndexAddrSl 1 x1 p0) m) fun x2 m =>
  bp (pur (aLoad false 1 x2 m) m) fun x3 m =>
  bp (G.tab Q6r [x3] m) fun x4 m =>
  brb x4
    (bp (pur (aFieldAddr 2 p1) m) fun x5 m =>
  bp (pur (aLoad false 1 x5 m) m) fun x6 m =>
  bp (G.tab Qo0 [x6, p0, (.func (.func Qsc) #[] #[])] m) fun x7 m =>
  bp (G.tab Qc [x7, (.bool true)] m) fun x8 m =>
  Qfh G x8 m)
    (bp (G.tab Qc [(.bool false), (.bool true)] m) fun x9 m =>
  Qfh G x9 m)
def Qjz (G : Gt) (p1 p0 : Value) (m : Mem) : Option Rs :=
  Qrh G p1 p0 m
theorem Q17t (G : Gt) (a0 a1 : Value) (m : Mem) : evFn Go.Proofs.Tryz.prog G.tab G.rds (drOf Go.Proofs.Tryz.prog G.tab) Go.Proofs.Tryz.f144 [a0, a1] m = Qjz G a1 a0 m :=
  evFn_of (r := fun ρ m => Qjz G (ρ 1) (ρ 0) m) rfl rfl (tr (seqQ (f := fun ρ m => Qrh G (ρ 1) (ρ 0) m) (tr (seqQ (f := fun ρ m => Qfh G (ρ 3) m) (fun ρ m => by kernel_rfl)) (fun ρ m => by kernel_rfl))) (fun ρ m => by kernel_rfl)) m
def Q17f : Entry Go.Proofs.Tryz.prog := ⟨Qud, Go.Proofs.Tryz.f144, Go.Proofs.Tryz.func144, by kernel_rfl, arg2 (fun G a0 a1 m => Qjz G a1 a0 m), okarg2 Q17t⟩
def Qub (G : Gt) (p0 p1 : Value) (m : Mem) : Option Rs :=
  bp (pur (un .not p0) m) fun x0 m =>
  brb x0
    (some ((.int .i64 1), m))
    (bp (pur (un .not p1) m) fun x1 m =>
  brb x1
    (some ((.int .i64 2), m))
    (some ((.int .i64 0), m)))
theorem Q1ay (G : Gt) (a0 a1 : Value) (m : Mem) : evFn Go.Proofs.Tryz.prog G.tab G.rds (drOf Go.Proofs.Tryz.prog G.tab) Go.Proofs.Tryz.f145 [a0, a1] m = Qub G a0 a1 m :=
  evFn_of (r := fun ρ m => Qub G (ρ 0) (ρ 1) m) rfl rfl (fun ρ m => by kernel_rfl) m
def Q1aq : Entry Go.Proofs.Tryz.prog := ⟨Qc, Go.Proofs.Tryz.f145, Go.Proofs.Tryz.func145, by kernel_rfl, arg2 (fun G a0 a1 m => Qub G a0 a1 m), okarg2 Q1ay⟩
def Qcb (G : Gt) (p0 p1 p2 : Value) (m : Mem) : Option Rs :=
  bp (some (aNew Q1du (Value.cells p0).toList m)) fun x0 m =>
  bp (some (aNew Q25 (Value.cells p1).toList m)) fun x1 m =>
  bp (some (aNew Q14s (Value.cells p2).toList m)) fun x2 m =>
  bp (pur (aLoad false 1 x0 m) m) fun x3 m =>
  bp (pur (aLoad false 1 x1 m) m) fun x4 m =>
  bp (G.tab Q74 [x3, (.func (.func Qj0) ⟨[]⟩ ⟨[x2, x0, x1]⟩)] m) fun x5 m =>
  ckB (again (pur (aLoad false 1 x1 m) m) x4 && true)
    (bp (pur (bin .eql false true .int x5 x4) m) fun x6 m =>
  some (x6, m))
theorem Q11a (G : Gt) (a0 a1 a2 : Value) (m : Mem) : evFn Go.Proofs.Tryz.prog G.tab G.rds (drOf Go.Proofs.Tryz.prog G.tab) Go.Proofs.Tryz.f146 [a0, a1, a2] m = Qcb G a0 a1 a2 m :=
  evFn_of (r := fun ρ m => Qcb G (ρ 0) (ρ 1) (ρ 2) m) rfl rfl (fun ρ m => by kernel_rfl) m
def Q10q : Entry Go.Proofs.Tryz.prog := ⟨Qo0, Go.Proofs.Tryz.f146, Go.Proofs.Tryz.func146, by kernel_rfl, arg3 (fun G a0 a1 a2 m => Qcb G a0 a1 a2 m), okarg3 Q11a⟩
def Qsd (G : Gt) (p0 : Value) (m : Mem) : Option Rs :=
  some (p0, m)
theorem Q19y (G : Gt) (a0 : Value) (m : Mem) : evFn Go.Proofs.Tryz.prog G.tab G.rds (drOf Go.Proofs.Tryz.prog G.tab) Go.Proofs.Tryz.f147 [a0] m = Qsd G a0 m :=
  evFn_of (r := fun ρ m => Qsd G (ρ 0) m) rfl rfl (fun ρ m => by kernel_rfl) m
def Q19o : Entry Go.Proofs.Tryz.prog := ⟨Qsc, Go.Proofs.Tryz.f147, Go.Proofs.Tryz.func147, by kernel_rfl, arg1 (fun G a0 m => Qsd G a0 m), okarg1 Q19y⟩
def Qk0 (G : Gt) (p1 p2 p0 : Value) (m : Mem) : Option Rs :=
  bp (pur (aLoad true 5 p1 m) m) fun x0 m =>
  bp (pur (aLoad true 12 p2 m) m) fun x1 m =>
  bp (G.tab Qtb [x0, x1, p0] m) fun x2 m =>
  some (x2, m)
theorem Q17u (G : Gt) (a0 a1 a2 : Value) (m : Mem) : evFn Go.Proofs.Tryz.prog G.tab G.rds (drOf Go.Proofs.Tryz.prog G.tab) Go.Proofs.Tryz.f148 [a0, a1, a2] m = Qk0 G a1 a2 a0 m :=
  evFn_of (r := fun ρ m => Qk0 G (ρ 1) (ρ 2) (ρ 0) m) rfl rfl (fun ρ m => by kernel_rfl) m
def Q17g : Entry Go.Proofs.Tryz.prog := ⟨Que, Go.Proofs.Tryz.f148, Go.Proofs.Tryz.func148, by kernel_rfl, arg3 (fun G a0 a1 a2 m => Qk0 G a1 a2 a0 m), okarg3 Q17u⟩
def Q83 (G : Gt) (p6 : Value) (m : Mem) : Option Rs :=
  some (p6, m)
def Q2n (G : Gt) (p9 p3 p7 : Value) (m : Mem) : Option Rs :=
  bp (pur (aFieldAddr 0 p3) m) fun x0 m =>
  bp (pur (aLoad false 1 x0 m) m) fun x1 m =>
  bp (pur (aFieldAddr 1 p7) m) fun x2 m =>
  bp (pur (aLoad false 1 x2 m) m) fun x3 m =>
  bp (G.tab Q1e [x1, x3] m) fun x4 m =>
  brb x4
    (bp (pur (aFieldAddr 1 p3) m) fun x5 m =>
  bp (pur (aLoad false 1 x5 m) m) fun x6 m =>
  bp (pur (aFieldAddr 5 p7) m) fun x7 m =>
  bp (pur (aLoad false 1 x7 m) m) fun x8 m =>
  bp (G.tab Q1e [x6, x8] m) fun x9 m =>
  brb x9
    (bp (pur (aFieldAddr 1 p3) m) fun x10 m =>
  bp (pur (aLoad false 1 x10 m) m) fun x11 m =>
  bp (pur (aFieldAddr 6 p7) m) fun x12 m =>
  bp (pur (aLoad false 1 x12 m) m) fun x13 m =>
  bp (G.tab Q1e [x11, x13] m) fun x14 m =>
  bp (G.tab Qc [p9, x14] m) fun x15 m =>
  Q83 G x15 m)
    (bp (G.tab Qc [p9, (.bool false)] m) fun x16 m =>
  Q83 G x16 m))
    (bp (G.tab Qc [p9, (.bool false)] m) fun x17 m =>
  Q83 G x17 m)
def Q3i (G : Gt) (p7 p4 p2 p8 p3 : Value) (m : Mem) : Option Rs :=
  bp (pur (aFieldAddr 0 p7) m) fun x18 m =>
  bp (pur (aLoad false 1 x18 m) m) fun x19 m =>
  bp (G.tab Q6r [x19] m) fun x20 m =>
  brb x20
    (bp (pur (aFieldAddr 3 p4) m) fun x21 m =>
  bp (pur (aLoad false 1 x21 m) m) fun x22 m =>
  bp (G.tab Qha [x22, p2, (.func (.func Qxm) #[] #[])] m) fun x23 m =>
  brb x23
    (brb p8
    (bp (pur (aFieldAddr 7 p7) m) fun x24 m =>
  bp (pur (aLoad false 1 x24 m) m) fun x25 m =>
  bp (pur (bin .leq true true .int x25 (.int .u8 2)) m) fun x26 m =>
  brb x26
    (bp (pur (aFieldAddr 8 p7) m) fun x27 m =>
  bp (pur (aLoad false 1 x27 m) m) fun x28 m =>
  bp (G.tab Q1i [x28, (.int .i64 (-1)), (.int .i64 16777216)] m) fun x29 m =>
  brb x29
    (bp (pur (aFieldAddr 9 p7) m) fun x30 m =>
  bp (pur (aLoad false 1 x30 m) m) fun x31 m =>
  bp (G.tab Q1i [x31, (.int .i64 1), (.int .i64 65535)] m) fun x32 m =>
  Q2n G x32 p3 p7 m)
    (Q2n G (.bool false) p3 p7 m))
    (Q2n G (.bool false) p3 p7 m))
    (Q2n G (.bool false) p3 p7 m))
    (Q2n G (.bool false) p3 p7 m))
    (Q2n G (.bool false) p3 p7 m)
def Qq7 (G : Gt) (p7 p4 p2 p3 : Value) (m : Mem) : Option Rs :=
  bp (pur (aFieldAddr 2 p7) m) fun x33 m =>
  bp (pur (aLoad false 1 x33 m) m) fun x34 m =>
  bp (pur (bin .eql true true .int x34 (.int .u32 0)) m) fun x35 m =>
  brb x35
    (bp (pur (aFieldAddr 3 p7) m) fun x36 m =>
  bp (pur (aLoad false 1 x36 m) m) fun x37 m =>
  bp (pur (bin .eql true true .int x37 (.int .i64 0)) m) fun x38 m =>
  brb x38
    (Q3i G p7 p4 p2 (.bool true) p3 m)
    (bp (pur (aFieldAddr 2 p7) m) fun x39 m =>
  bp (pur (aLoad false 1 x39 m) m) fun x40 m =>
  bp (pur (bin .neq true true .int x40 (.int .u32 0)) m) fun x41 m =>
  brb x41
    (bp (pur (aFieldAddr 3 p7) m) fun x42 m =>
  bp (pur (aLoad false 1 x42 m) m) fun x43 m =>
  bp (G.tab Q1i [x43, (.int .i64 1), (.int .i64 32)] m) fun x44 m =>
  Q3i G p7 p4 p2 x44 p3 m)
    (Q3i G p7 p4 p2 (.bool false) p3 m)))
    (bp (pur (aFieldAddr 2 p7) m) fun x45 m =>
  bp (pur (aLoad false 1 x45 m) m) fun x46 m =>
  bp (pur (bin .neq true true .int x46 (.int .u32 0)) m) fun x47 m =>
  brb x47
    (bp (pur (aFieldAddr 3 p7) m) fun x48 m =>
  bp (pur (aLoad false 1 x48 m) m) fun x49 m =>
  bp (G.tab Q1i [x49, (.int .i64 1), (.int .i64 32)] m) fun x50 m =>
  Q3i G p7 p4 p2 x50 p3 m)
    (Q3i G p7 p4 p2 (.bool false) p3 m))
def Qq8 (G : Gt) (p4 p2 p3 : Value) (m : Mem) : Option Rs :=
  bp (pur (aFieldAddr 3 p4) m) fun x51 m =>
  bp (pur (aLoad false 1 x51 m) m) fun x52 m =>
  bp (pur (aIndexAddrSl 11 x52 p2) m) fun x53 m =>
  bp (pur (aLoad true 11 x53 m) m) fun x54 m =>
  bp (some (aNew Q85 Qlo m)) fun x55 m =>
  bp (unt (aStore 11 x55 x54 m)) fun _ m =>
  Qq7 G x55 p4 p2 p3 m
def Qi0 (G : Gt) (p0 p1 p2 : Value) (m : Mem) : Option Rs :=
  bp (some (aNew Q6s (Value.cells p0).toList m)) fun x56 m =>
  bp (some (aNew Qq (Value.cells p1).toList m)) fun x57 m =>
  Qq8 G x57 p2 x56 m
theorem Q16p (G : Gt) (a0 a1 a2 : Value) (m : Mem) : evFn Go.Proofs.Tryz.prog G.tab G.rds (drOf Go.Proofs.Tryz.prog G.tab) Go.Proofs.Tryz.f149 [a0, a1, a2] m = Qi0 G a0 a1 a2 m :=
  evFn_of (r := fun ρ m => Qi0 G (ρ 0) (ρ 1) (ρ 2) m) rfl rfl (tr (seqQ (f := fun ρ m => Qq8 G (ρ 4) (ρ 2) (ρ 3) m) (tr (seqQ (f := fun ρ m => Qq7 G (ρ 7) (ρ 4) (ρ 2) (ρ 3) m) (tr (seqQ (f := fun ρ m => Q3i G (ρ 7) (ρ 4) (ρ 2) (ρ 8) (ρ 3) m) (tr (seqQ (f := fun ρ m => Q2n G (ρ 9) (ρ 3) (ρ 7) m) (tr (seqQ (f := fun ρ m => Q83 G (ρ 6) m) (fun ρ m => by kernel_rfl)) (fun ρ m => by kernel_rfl))) (fun ρ m => by kernel_rfl))) (fun ρ m => by kernel_rfl))) (fun ρ m => by kernel_rfl))) (fun ρ m => by kernel_rfl)) m
def Q160 : Entry Go.Proofs.Tryz.prog := ⟨Qtb, Go.Proofs.Tryz.f149, Go.Proofs.Tryz.func149, by kernel_rfl, arg3 (fun G a0 a1 a2 m => Qi0 G a0 a1 a2 m), okarg3 Q16p⟩
def Q8x (G : Gt) (p3 : Value) (m : Mem) : Option Rs :=
  some (p3, m)
def Qri (G : Gt) (p1 p0 : Value) (m : Mem) : Option Rs :=
  bp (pur (aFieldAddr 4 p1) m) fun x0 m =>
  bp (pur (aLoad false 1 x0 m) m) fun x1 m =>
  bp (pur (aIndexAddrSl 2 x1 p0) m) fun x2 m =>
  bp (pur (aFieldAddr 0 x2) m) fun x3 m =>
  bp (pur (aLoad false 1 x3 m) m) fun x4 m =>
  bp (G.tab Q6r [x4] m) fun x5 m =>
  brb x5
    (bp (pur (aFieldAddr 4 p1) m) fun x6 m =>
  bp (pur (aLoad false 1 x6 m) m) fun x7 m =>
  bp (G.tab Qgf [x7, p0, (.func (.func Qmq) #[] #[])] m) fun x8 m =>
  brb x8
    (bp (pur (aFieldAddr 4 p1) m) fun x9 m =>
  bp (pur (aLoad false 1 x9 m) m) fun x10 m =>
  bp (pur (aIndexAddrSl 2 x10 p0) m) fun x11 m =>
  bp (pur (aLoad true 2 x11 m) m) fun x12 m =>
  bp (G.tab Q11b [x12] m) fun x13 m =>
  bp (pur (bin .eql true true .int x13 (.int .i64 0)) m) fun x14 m =>
  bp (G.tab Qc [x14, (.bool true)] m) fun x15 m =>
  Q8x G x15 m)
    (bp (G.tab Qc [(.bool false), (.bool true)] m) fun x16 m =>
  Q8x G x16 m))
    (bp (G.tab Qc [(.bool false), (.bool true)] m) fun x17 m =>
  Q8x G x17 m)
def Qk1 (G : Gt) (p1 p0 : Value) (m : Mem) : Option Rs :=
  Qri G p1 p0 m
theorem Q17v (G : Gt) (a0 a1 : Value) (m : Mem) : evFn Go.Proofs.Tryz.prog G.tab G.rds (drOf Go.Proofs.Tryz.prog G.tab) Go.Proofs.Tryz.f150 [a0, a1] m = Qk1 G a1 a0 m :=
  evFn_of (r := fun ρ m => Qk1 G (ρ 1) (ρ 0) m) rfl rfl (tr (seqQ (f := fun ρ m => Qri G (ρ 1) (ρ 0) m) (tr (seqQ (f := fun ρ m => Q8x G (ρ 3) m) (fun ρ m => by kernel_rfl)) (fun ρ m => by kernel_rfl))) (fun ρ m => by kernel_rfl)) m
def Q17m : Entry Go.Proofs.Tryz.prog := ⟨Quf, Go.Proofs.Tryz.f150, Go.Proofs.Tryz.func150, by kernel_rfl, arg2 (fun G a0 a1 m => Qk1 G a1 a0 m), okarg2 Q17v⟩
def Q84 (G : Gt) (p0 p1 p2 : Value) (m : Mem) : Option Rs :=
  bp (some (aNew Q19z (Value.cells p0).toList m)) fun x0 m =>
  bp (some (aNew Q25 (Value.cells p1).toList m)) fun x1 m =>
  bp (some (aNew Qwv (Value.cells p2).toList m)) fun x2 m =>
  bp (pur (aLoad false 1 x0 m) m) fun x3 m =>
  let x4 : Value := (.func (.func Qcr) ⟨[]⟩ ⟨[x2, x0, x1]⟩)
  bp (pur (aLoad false 1 x1 m) m) fun x5 m =>
  bp (G.tab Q4a [x3, x4] m) fun x6 m =>
  ckB (again (pur (aLoad false 1 x1 m) m) x5 && true)
    (bp (pur (bin .eql false true .int x6 x5) m) fun x7 m =>
  some (x7, m))
theorem Qvb (G : Gt) (a0 a1 a2 : Value) (m : Mem) : evFn Go.Proofs.Tryz.prog G.tab G.rds (drOf Go.Proofs.Tryz.prog G.tab) Go.Proofs.Tryz.f151 [a0, a1, a2] m = Q84 G a0 a1 a2 m :=
  evFn_of (r := fun ρ m => Q84 G (ρ 0) (ρ 1) (ρ 2) m) rfl rfl (fun ρ m => by kernel_rfl) m
def Qv0 : Entry Go.Proofs.Tryz.prog := ⟨Qgf, Go.Proofs.Tryz.f151, Go.Proofs.Tryz.func151, by kernel_rfl, arg3 (fun G a0 a1 a2 m => Q84 G a0 a1 a2 m), okarg3 Qvb⟩
def Qmr (G : Gt) (p0 : Value) (m : Mem) : Option Rs :=
  bp (some (aNew Q5b (Value.cells p0).toList m)) fun x0 m =>
  bp (pur (aFieldAddr 0 x0) m) fun x1 m =>
  bp (pur (aLoad false 1 x1 m) m) fun x2 m =>
  some (x2, m)
theorem Q18m (G : Gt) (a0 : Value) (m : Mem) : evFn Go.Proofs.Tryz.prog G.tab G.rds (drOf Go.Proofs.Tryz.prog G.tab) Go.Proofs.Tryz.f152 [a0] m = Qmr G a0 m :=
  evFn_of (r := fun ρ m => Qmr G (ρ 0) m) rfl rfl (fun ρ m => by kernel_rfl) m
def Q18h : Entry Go.Proofs.Tryz.prog := ⟨Qmq, Go.Proofs.Tryz.f152, Go.Proofs.Tryz.func152, by kernel_rfl, arg1 (fun G a0 m => Qmr G a0 m), okarg1 Q18m⟩
def Qms (G : Gt) (p11 : Value) (m : Mem) : Option Rs :=
  brb p11
    (some ((.int .i64 121), m))
    (some ((.int .i64 0), m))
def Qwb (G : Gt) (p1 : Value) (m : Mem) : Option Rs :=
  bp (pur (aFieldAddr 1 p1) m) fun x0 m =>
  bp (pur (aLoad false 1 x0 m) m) fun x1 m =>
  bp (pur (lenK 1 x1 m) m) fun x2 m =>
  bp (pur (bin .gtr true true .int x2 (.int .i64 256)) m) fun x3 m =>
  brb x3
    (Qms G (.bool true) m)
    (bp (pur (aFieldAddr 1 p1) m) fun x4 m =>
  bp (pur (aLoad false 1 x4 m) m) fun x5 m =>
  bp (G.tab Q4n [x5, (.func (.func Qw4) #[] #[])] m) fun x6 m =>
  Qms G x6 m)
def Qse (G : Gt) (p0 : Value) (m : Mem) : Option Rs :=
  bp (some (aNew Q5b (Value.cells p0).toList m)) fun x7 m =>
  Qwb G x7 m
theorem Q1a0 (G : Gt) (a0 : Value) (m : Mem) : evFn Go.Proofs.Tryz.prog G.tab G.rds (drOf Go.Proofs.Tryz.prog G.tab) Go.Proofs.Tryz.f153 [a0] m = Qse G a0 m :=
  evFn_of (r := fun ρ m => Qse G (ρ 0) m) rfl rfl (tr (seqQ (f := fun ρ m => Qwb G (ρ 1) m) (tr (tr seqD (seqQ (f := fun ρ m => Qms G (ρ 11) m) (fun ρ m => by kernel_rfl))) (fun ρ m => by kernel_rfl))) (fun ρ m => by kernel_rfl)) m
def Q19q : Entry Go.Proofs.Tryz.prog := ⟨Q11b, Go.Proofs.Tryz.f153, Go.Proofs.Tryz.func153, by kernel_rfl, arg1 (fun G a0 m => Qse G a0 m), okarg1 Q1a0⟩
def Qk2 (G : Gt) (p1 p0 p2 : Value) (m : Mem) : Option Rs :=
  bp (pur (aFieldAddr 5 p1) m) fun x0 m =>
  bp (pur (aLoad false 1 x0 m) m) fun x1 m =>
  bp (pur (aIndexAddrSl 3 x1 p0) m) fun x2 m =>
  bp (pur (aFieldAddr 2 x2) m) fun x3 m =>
  bp (pur (aLoad false 1 x3 m) m) fun x4 m =>
  bp (pur (bin .neq true true .int x4 (.int .u32 0)) m) fun x5 m =>
  bp (pur (aFieldAddr 1 p2) m) fun x6 m =>
  bp (pur (aLoad false 1 x6 m) m) fun x7 m =>
  bp (pur (aFieldAddr 5 p1) m) fun x8 m =>
  bp (pur (aLoad false 1 x8 m) m) fun x9 m =>
  bp (pur (aIndexAddrSl 3 x9 p0) m) fun x10 m =>
  bp (pur (aFieldAddr 1 x10) m) fun x11 m =>
  bp (pur (aLoad false 1 x11 m) m) fun x12 m =>
  bp (G.tab Q1e [x7, x12] m) fun x13 m =>
  ckB (again (pur (aLoad false 1 x0 m) m) x1 && (again (pur (aLoad false 1 x3 m) m) x4 && true))
    (bp (G.tab Qc [x5, x13] m) fun x14 m =>
  some (x14, m))
theorem Q17w (G : Gt) (a0 a1 a2 : Value) (m : Mem) : evFn Go.Proofs.Tryz.prog G.tab G.rds (drOf Go.Proofs.Tryz.prog G.tab) Go.Proofs.Tryz.f154 [a0, a1, a2] m = Qk2 G a1 a0 a2 m :=
  evFn_of (r := fun ρ m => Qk2 G (ρ 1) (ρ 0) (ρ 2) m) rfl rfl (fun ρ m => by kernel_rfl) m
def Q17k : Entry Go.Proofs.Tryz.prog := ⟨Qug, Go.Proofs.Tryz.f154, Go.Proofs.Tryz.func154, by kernel_rfl, arg3 (fun G a0 a1 a2 m => Qk2 G a1 a0 a2 m), okarg3 Q17w⟩
end
end Go.Ab.Sh

set_option linter.unusedVariables false
set_option maxRecDepth 100000
namespace Go.Ab.Sh
open Go Go.Ab
noncomputable section
def Qsf (G : Gt) (p4 : Value) (m : Mem) : Option Rs :=
  some (p4, m)
def Q11c (G : Gt) (p1 p0 : Value) (m : Mem) : Option Rs :=
  bp (pur (bin .eql true true .str p1 (.string ⟨#[]⟩)) m) fun x0 m =>
  brb x0
    (Qsf G (.bool true) m)
    (bp (pur (aLookup .str (.int .i64 0) false p0 p1 m) m) fun x1 m =>
  bp (pur (bin .gtr true true .int x1 (.int .i64 0)) m) fun x2 m =>
  Qsf G x2 m)
def Qwc (G : Gt) (p1 p0 : Value) (m : Mem) : Option Rs :=
  Q11c G p1 p0 m
theorem Q1by (G : Gt) (a0 a1 : Value) (m : Mem) : evFn Go.Proofs.Tryz.prog G.tab G.rds (drOf Go.Proofs.Tryz.prog G.tab) Go.Proofs.Tryz.f155 [a0, a1] m = Qwc G a1 a0 m :=
  evFn_of (r := fun ρ m => Qwc G (ρ 1) (ρ 0) m) rfl rfl (tr (seqQ (f := fun ρ m => Q11c G (ρ 1) (ρ 0) m) (tr (seqQ (f := fun ρ m => Qsf G (ρ 4) m) (fun ρ m => by kernel_rfl)) (fun ρ m => by kernel_rfl))) (fun ρ m => by kernel_rfl)) m
def Q1bt : Entry Go.Proofs.Tryz.prog := ⟨Q1e, Go.Proofs.Tryz.f155, Go.Proofs.Tryz.func155, by kernel_rfl, arg2 (fun G a0 a1 m => Qwc G a1 a0 m), okarg2 Q1by⟩
def Qk3 (G : Gt) (p1 p2 p0 : Value) (m : Mem) : Option Rs :=
  bp (pur (aLoad true 5 p1 m) m) fun x0 m =>
  bp (pur (aFieldAddr 6 p2) m) fun x1 m =>
  bp (pur (aLoad false 1 x1 m) m) fun x2 m =>
  bp (pur (aIndexAddrSl 7 x2 p0) m) fun x3 m =>
  bp (pur (aLoad true 7 x3 m) m) fun x4 m =>
  bp (G.tab Qrj [x0, x4] m) fun x5 m =>
  some (x5, m)
theorem Q17x (G : Gt) (a0 a1 a2 : Value) (m : Mem) : evFn Go.Proofs.Tryz.prog G.tab G.rds (drOf Go.Proofs.Tryz.prog G.tab) Go.Proofs.Tryz.f156 [a0, a1, a2] m = Qk3 G a1 a2 a0 m :=
  evFn_of (r := fun ρ m => Qk3 G (ρ 1) (ρ 2) (ρ 0) m) rfl rfl (fun ρ m => by kernel_rfl) m
def Q17h : Entry Go.Proofs.Tryz.prog := ⟨Quh, Go.Proofs.Tryz.f156, Go.Proofs.Tryz.func156, by kernel_rfl, arg3 (fun G a0 a1 a2 m => Qk3 G a1 a2 a0 m), okarg3 Q17x⟩
def Q4o (G : Gt) (p5 p2 p3 : Value) (m : Mem) : Option Rs :=
  bp (pur (aFieldAddr 0 p2) m) fun x0 m =>
  bp (pur (aLoad false 1 x0 m) m) fun x1 m =>
  bp (pur (aFieldAddr 0 p3) m) fun x2 m =>
  bp (pur (aLoad false 1 x2 m) m) fun x3 m =>
  bp (G.tab Q1e [x1, x3] m) fun x4 m =>
  bp (G.tab Qc [p5, x4] m) fun x5 m =>
  some (x5, m)
def Qo1 (G : Gt) (p3 p2 : Value) (m : Mem) : Option Rs :=
  bp (pur (aFieldAddr 1 p3) m) fun x6 m =>
  bp (pur (aLoad true 2 x6 m) m) fun x7 m =>
  bp (G.tab Q6t [x7] m) fun x8 m =>
  bp (pur (bin .eql true true .int x8 (.int .i64 0)) m) fun x9 m =>
  brb x9
    (bp (pur (aFieldAddr 4 p3) m) fun x10 m =>
  bp (pur (aLoad false 1 x10 m) m) fun x11 m =>
  bp (pur (aFieldAddr 3 p3) m) fun x12 m =>
  bp (pur (aLoad false 1 x12 m) m) fun x13 m =>
  bp (pur (bin .eql true true .int x13 (.int .u32 0)) m) fun x14 m =>
  bp (pur (bin .eql false true .bool x11 x14) m) fun x15 m =>
  brb x15
    (bp (pur (aFieldAddr 5 p3) m) fun x16 m =>
  bp (pur (aLoad false 1 x16 m) m) fun x17 m =>
  bp (G.tab Q1i [x17, (.int .i64 1), (.int .i64 255)] m) fun x18 m =>
  brb x18
    (bp (pur (aFieldAddr 6 p3) m) fun x19 m =>
  bp (pur (aLoad false 1 x19 m) m) fun x20 m =>
  bp (G.tab Q1i [x20, (.int .i64 0), (.int .i64 16777216)] m) fun x21 m =>
  Q4o G x21 p2 p3 m)
    (Q4o G (.bool false) p2 p3 m))
    (Q4o G (.bool false) p2 p3 m))
    (Q4o G (.bool false) p2 p3 m)
def Qfi (G : Gt) (p0 p1 : Value) (m : Mem) : Option Rs :=
  bp (some (aNew Q6s (Value.cells p0).toList m)) fun x22 m =>
  bp (some (aNew Qbe (Value.cells p1).toList m)) fun x23 m =>
  Qo1 G x23 x22 m
theorem Q14t (G : Gt) (a0 a1 : Value) (m : Mem) : evFn Go.Proofs.Tryz.prog G.tab G.rds (drOf Go.Proofs.Tryz.prog G.tab) Go.Proofs.Tryz.f157 [a0, a1] m = Qfi G a0 a1 m :=
  evFn_of (r := fun ρ m => Qfi G (ρ 0) (ρ 1) m) rfl rfl (tr (seqQ (f := fun ρ m => Qo1 G (ρ 3) (ρ 2) m) (tr (seqQ (f := fun ρ m => Q4o G (ρ 5) (ρ 2) (ρ 3) m) (fun ρ m => by kernel_rfl)) (fun ρ m => by kernel_rfl))) (fun ρ m => by kernel_rfl)) m
def Q14b : Entry Go.Proofs.Tryz.prog := ⟨Qrj, Go.Proofs.Tryz.f157, Go.Proofs.Tryz.func157, by kernel_rfl, arg2 (fun G a0 a1 m => Qfi G a0 a1 m), okarg2 Q14t⟩
def Q8y (G : Gt) (p3 : Value) (m : Mem) : Option Rs :=
  some (p3, m)
def Qrk (G : Gt) (p1 p0 : Value) (m : Mem) : Option Rs :=
  bp (pur (aFieldAddr 7 p1) m) fun x0 m =>
  bp (pur (aLoad false 1 x0 m) m) fun x1 m =>
  bp (pur (aIndexAddrSl 2 x1 p0) m) fun x2 m =>
  bp (pur (aFieldAddr 0 x2) m) fun x3 m =>
  bp (pur (aLoad false 1 x3 m) m) fun x4 m =>
  bp (G.tab Q6r [x4] m) fun x5 m =>
  brb x5
    (bp (pur (aFieldAddr 7 p1) m) fun x6 m =>
  bp (pur (aLoad false 1 x6 m) m) fun x7 m =>
  bp (G.tab Qb0 [x7, p0, (.func (.func Qhz) #[] #[])] m) fun x8 m =>
  brb x8
    (bp (pur (aFieldAddr 7 p1) m) fun x9 m =>
  bp (pur (aLoad false 1 x9 m) m) fun x10 m =>
  bp (pur (aIndexAddrSl 2 x10 p0) m) fun x11 m =>
  bp (pur (aFieldAddr 1 x11) m) fun x12 m =>
  bp (pur (aLoad false 1 x12 m) m) fun x13 m =>
  bp (G.tab Qyb [x13] m) fun x14 m =>
  bp (G.tab Qc [x14, (.bool true)] m) fun x15 m =>
  Q8y G x15 m)
    (bp (G.tab Qc [(.bool false), (.bool true)] m) fun x16 m =>
  Q8y G x16 m))
    (bp (G.tab Qc [(.bool false), (.bool true)] m) fun x17 m =>
  Q8y G x17 m)
def Qk4 (G : Gt) (p1 p0 : Value) (m : Mem) : Option Rs :=
  Qrk G p1 p0 m
theorem Q17y (G : Gt) (a0 a1 : Value) (m : Mem) : evFn Go.Proofs.Tryz.prog G.tab G.rds (drOf Go.Proofs.Tryz.prog G.tab) Go.Proofs.Tryz.f158 [a0, a1] m = Qk4 G a1 a0 m :=
  evFn_of (r := fun ρ m => Qk4 G (ρ 1) (ρ 0) m) rfl rfl (tr (seqQ (f := fun ρ m => Qrk G (ρ 1) (ρ 0) m) (tr (seqQ (f := fun ρ m => Q8y G (ρ 3) m) (fun ρ m => by kernel_rfl)) (fun ρ m => by kernel_rfl))) (fun ρ m => by kernel_rfl)) m
def Q17o : Entry Go.Proofs.Tryz.prog := ⟨Qui, Go.Proofs.Tryz.f158, Go.Proofs.Tryz.func158, by kernel_rfl, arg2 (fun G a0 a1 m => Qk4 G a1 a0 m), okarg2 Q17y⟩
def Q5o (G : Gt) (p0 p1 p2 : Value) (m : Mem) : Option Rs :=
  bp (some (aNew Q16q (Value.cells p0).toList m)) fun x0 m =>
  bp (some (aNew Q25 (Value.cells p1).toList m)) fun x1 m =>
  bp (some (aNew Qtc (Value.cells p2).toList m)) fun x2 m =>
  bp (pur (aLoad false 1 x0 m) m) fun x3 m =>
  let x4 : Value := (.func (.func Q97) ⟨[]⟩ ⟨[x2, x0, x1]⟩)
  bp (pur (aLoad false 1 x1 m) m) fun x5 m =>
  bp (G.tab Q1a [x3, x4] m) fun x6 m =>
  ckB (again (pur (aLoad false 1 x1 m) m) x5 && true)
    (bp (pur (bin .eql false true .int x6 x5) m) fun x7 m =>
  some (x7, m))
theorem Qqp (G : Gt) (a0 a1 a2 : Value) (m : Mem) : evFn Go.Proofs.Tryz.prog G.tab G.rds (drOf Go.Proofs.Tryz.prog G.tab) Go.Proofs.Tryz.f159 [a0, a1, a2] m = Q5o G a0 a1 a2 m :=
  evFn_of (r := fun ρ m => Q5o G (ρ 0) (ρ 1) (ρ 2) m) rfl rfl (fun ρ m => by kernel_rfl) m
def Qqm : Entry Go.Proofs.Tryz.prog := ⟨Qb0, Go.Proofs.Tryz.f159, Go.Proofs.Tryz.func159, by kernel_rfl, arg3 (fun G a0 a1 a2 m => Q5o G a0 a1 a2 m), okarg3 Qqp⟩
def Qi1 (G : Gt) (p0 : Value) (m : Mem) : Option Rs :=
  bp (some (aNew Q2m (Value.cells p0).toList m)) fun x0 m =>
  bp (pur (aFieldAddr 0 x0) m) fun x1 m =>
  bp (pur (aLoad false 1 x1 m) m) fun x2 m =>
  some (x2, m)
theorem Q16r (G : Gt) (a0 : Value) (m : Mem) : evFn Go.Proofs.Tryz.prog G.tab G.rds (drOf Go.Proofs.Tryz.prog G.tab) Go.Proofs.Tryz.f160 [a0] m = Qi1 G a0 m :=
  evFn_of (r := fun ρ m => Qi1 G (ρ 0) m) rfl rfl (fun ρ m => by kernel_rfl) m
def Q162 : Entry Go.Proofs.Tryz.prog := ⟨Qhz, Go.Proofs.Tryz.f160, Go.Proofs.Tryz.func160, by kernel_rfl, arg1 (fun G a0 m => Qi1 G a0 m), okarg1 Q16r⟩
def Qk5 (G : Gt) (p2 : Value) (m : Mem) : Option Rs :=
  some (p2, m)
def Quq (G : Gt) (p0 : Value) (m : Mem) : Option Rs :=
  bp (pur (lenK 1 p0 m) m) fun x0 m =>
  bp (pur (bin .leq true true .int x0 (.int .i64 256)) m) fun x1 m =>
  brb x1
    (bp (G.tab Q44 [p0, (.func (.func Qun) #[] #[])] m) fun x2 m =>
  bp (pur (un .not x2) m) fun x3 m =>
  Qk5 G x3 m)
    (Qk5 G (.bool false) m)
def Qq9 (G : Gt) (p0 : Value) (m : Mem) : Option Rs :=
  Quq G p0 m
theorem Q198 (G : Gt) (a0 : Value) (m : Mem) : evFn Go.Proofs.Tryz.prog G.tab G.rds (drOf Go.Proofs.Tryz.prog G.tab) Go.Proofs.Tryz.f161 [a0] m = Qq9 G a0 m :=
  evFn_of (r := fun ρ m => Qq9 G (ρ 0) m) rfl rfl (tr (seqQ (f := fun ρ m => Quq G (ρ 0) m) (tr (seqQ (f := fun ρ m => Qk5 G (ρ 2) m) (fun ρ m => by kernel_rfl)) (fun ρ m => by kernel_rfl))) (fun ρ m => by kernel_rfl)) m
def Q191 : Entry Go.Proofs.Tryz.prog := ⟨Qyb, Go.Proofs.Tryz.f161, Go.Proofs.Tryz.func161, by kernel_rfl, arg1 (fun G a0 m => Qq9 G a0 m), okarg1 Q198⟩
def Q8z (G : Gt) (p3 : Value) (m : Mem) : Option Rs :=
  some (p3, m)
def Qrl (G : Gt) (p1 p0 : Value) (m : Mem) : Option Rs :=
  bp (pur (aFieldAddr 8 p1) m) fun x0 m =>
  bp (pur (aLoad false 1 x0 m) m) fun x1 m =>
  bp (pur (aIndexAddrSl 2 x1 p0) m) fun x2 m =>
  bp (pur (aFieldAddr 0 x2) m) fun x3 m =>
  bp (pur (aLoad false 1 x3 m) m) fun x4 m =>
  bp (G.tab Q6r [x4] m) fun x5 m =>
  brb x5
    (bp (pur (aFieldAddr 8 p1) m) fun x6 m =>
  bp (pur (aLoad false 1 x6 m) m) fun x7 m =>
  bp (G.tab Q8t [x7, p0, (.func (.func Qfg) #[] #[])] m) fun x8 m =>
  brb x8
    (bp (pur (aFieldAddr 8 p1) m) fun x9 m =>
  bp (pur (aLoad false 1 x9 m) m) fun x10 m =>
  bp (pur (aIndexAddrSl 2 x10 p0) m) fun x11 m =>
  bp (pur (aFieldAddr 1 x11) m) fun x12 m =>
  bp (pur (aLoad false 1 x12 m) m) fun x13 m =>
  bp (G.tab Qyc [x13] m) fun x14 m =>
  bp (G.tab Qc [x14, (.bool true)] m) fun x15 m =>
  Q8z G x15 m)
    (bp (G.tab Qc [(.bool false), (.bool true)] m) fun x16 m =>
  Q8z G x16 m))
    (bp (G.tab Qc [(.bool false), (.bool true)] m) fun x17 m =>
  Q8z G x17 m)
def Qk6 (G : Gt) (p1 p0 : Value) (m : Mem) : Option Rs :=
  Qrl G p1 p0 m
theorem Q17z (G : Gt) (a0 a1 : Value) (m : Mem) : evFn Go.Proofs.Tryz.prog G.tab G.rds (drOf Go.Proofs.Tryz.prog G.tab) Go.Proofs.Tryz.f162 [a0, a1] m = Qk6 G a1 a0 m :=
  evFn_of (r := fun ρ m => Qk6 G (ρ 1) (ρ 0) m) rfl rfl (tr (seqQ (f := fun ρ m => Qrl G (ρ 1) (ρ 0) m) (tr (seqQ (f := fun ρ m => Q8z G (ρ 3) m) (fun ρ m => by kernel_rfl)) (fun ρ m => by kernel_rfl))) (fun ρ m => by kernel_rfl)) m
def Q17i : Entry Go.Proofs.Tryz.prog := ⟨Quj, Go.Proofs.Tryz.f162, Go.Proofs.Tryz.func162, by kernel_rfl, arg2 (fun G a0 a1 m => Qk6 G a1 a0 m), okarg2 Q17z⟩
def Q4j (G : Gt) (p0 p1 p2 : Value) (m : Mem) : Option Rs :=
  bp (some (aNew Q11d (Value.cells p0).toList m)) fun x0 m =>
  bp (some (aNew Q25 (Value.cells p1).toList m)) fun x1 m =>
  bp (some (aNew Qqa (Value.cells p2).toList m)) fun x2 m =>
  bp (pur (aLoad false 1 x0 m) m) fun x3 m =>
  let x4 : Value := (.func (.func Q7k) ⟨[]⟩ ⟨[x2, x0, x1]⟩)
  bp (pur (aLoad false 1 x1 m) m) fun x5 m =>
  bp (G.tab Q11 [x3, x4] m) fun x6 m =>
  ckB (again (pur (aLoad false 1 x1 m) m) x5 && true)
    (bp (pur (bin .eql false true .int x6 x5) m) fun x7 m =>
  some (x7, m))
theorem Qmt (G : Gt) (a0 a1 a2 : Value) (m : Mem) : evFn Go.Proofs.Tryz.prog G.tab G.rds (drOf Go.Proofs.Tryz.prog G.tab) Go.Proofs.Tryz.f163 [a0, a1, a2] m = Q4j G a0 a1 a2 m :=
  evFn_of (r := fun ρ m => Q4j G (ρ 0) (ρ 1) (ρ 2) m) rfl rfl (fun ρ m => by kernel_rfl) m
def Qmh : Entry Go.Proofs.Tryz.prog := ⟨Q8t, Go.Proofs.Tryz.f163, Go.Proofs.Tryz.func163, by kernel_rfl, arg3 (fun G a0 a1 a2 m => Q4j G a0 a1 a2 m), okarg3 Qmt⟩
def Qfj (G : Gt) (p0 : Value) (m : Mem) : Option Rs :=
  bp (some (aNew Q24 (Value.cells p0).toList m)) fun x0 m =>
  bp (pur (aFieldAddr 0 x0) m) fun x1 m =>
  bp (pur (aLoad false 1 x1 m) m) fun x2 m =>
  some (x2, m)
theorem Q14u (G : Gt) (a0 : Value) (m : Mem) : evFn Go.Proofs.Tryz.prog G.tab G.rds (drOf Go.Proofs.Tryz.prog G.tab) Go.Proofs.Tryz.f164 [a0] m = Qfj G a0 m :=
  evFn_of (r := fun ρ m => Qfj G (ρ 0) m) rfl rfl (fun ρ m => by kernel_rfl) m
def Q14e : Entry Go.Proofs.Tryz.prog := ⟨Qfg, Go.Proofs.Tryz.f164, Go.Proofs.Tryz.func164, by kernel_rfl, arg1 (fun G a0 m => Qfj G a0 m), okarg1 Q14u⟩
def Qk7 (G : Gt) (p2 : Value) (m : Mem) : Option Rs :=
  some (p2, m)
def Qur (G : Gt) (p0 : Value) (m : Mem) : Option Rs :=
  bp (pur (lenK 1 p0 m) m) fun x0 m =>
  bp (pur (bin .leq true true .int x0 (.int .i64 256)) m) fun x1 m =>
  brb x1
    (bp (G.tab Q3j [p0, (.func (.func Quo) #[] #[])] m) fun x2 m =>
  bp (pur (un .not x2) m) fun x3 m =>
  Qk7 G x3 m)
    (Qk7 G (.bool false) m)
def Qqb (G : Gt) (p0 : Value) (m : Mem) : Option Rs :=
  Qur G p0 m
theorem Q199 (G : Gt) (a0 : Value) (m : Mem) : evFn Go.Proofs.Tryz.prog G.tab G.rds (drOf Go.Proofs.Tryz.prog G.tab) Go.Proofs.Tryz.f165 [a0] m = Qqb G a0 m :=
  evFn_of (r := fun ρ m => Qqb G (ρ 0) m) rfl rfl (tr (seqQ (f := fun ρ m => Qur G (ρ 0) m) (tr (seqQ (f := fun ρ m => Qk7 G (ρ 2) m) (fun ρ m => by kernel_rfl)) (fun ρ m => by kernel_rfl))) (fun ρ m => by kernel_rfl)) m
def Q192 : Entry Go.Proofs.Tryz.prog := ⟨Qyc, Go.Proofs.Tryz.f165, Go.Proofs.Tryz.func165, by kernel_rfl, arg1 (fun G a0 m => Qqb G a0 m), okarg1 Q199⟩
def Q90 (G : Gt) (p4 : Value) (m : Mem) : Option Rs :=
  some (p4, m)
def Qrm (G : Gt) (p2 p0 p5 p6 : Value) (m : Mem) : Option Rs :=
  bp (pur (aFieldAddr 9 p2) m) fun x0 m =>
  bp (pur (aLoad false 1 x0 m) m) fun x1 m =>
  bp (pur (aIndexAddrSl 3 x1 p0) m) fun x2 m =>
  bp (pur (aFieldAddr 0 x2) m) fun x3 m =>
  bp (pur (aLoad false 1 x3 m) m) fun x4 m =>
  bp (G.tab Q6r [x4] m) fun x5 m =>
  brb x5
    (bp (pur (aFieldAddr 9 p2) m) fun x6 m =>
  bp (pur (aLoad false 1 x6 m) m) fun x7 m =>
  bp (G.tab Qfz [x7, p0, (.func (.func Qmo) #[] #[])] m) fun x8 m =>
  brb x8
    (bp (G.tab Qc [p5, p6] m) fun x9 m =>
  Q90 G x9 m)
    (bp (G.tab Qc [(.bool false), p6] m) fun x10 m =>
  Q90 G x10 m))
    (bp (G.tab Qc [(.bool false), p6] m) fun x11 m =>
  Q90 G x11 m)
def Qrn (G : Gt) (p1 p2 p0 : Value) (m : Mem) : Option Rs :=
  bp (pur (aLoad true 5 p1 m) m) fun x12 m =>
  bp (pur (aFieldAddr 9 p2) m) fun x13 m =>
  bp (pur (aLoad false 1 x13 m) m) fun x14 m =>
  bp (pur (aIndexAddrSl 3 x14 p0) m) fun x15 m =>
  bp (pur (aFieldAddr 1 x15) m) fun x16 m =>
  bp (pur (aLoad false 1 x16 m) m) fun x17 m =>
  bp (G.tab Qpm [x12, x17] m) fun x18 m =>
  bp (pur (aExtract x18 0) m) fun x19 m =>
  bp (pur (aExtract x18 1) m) fun x20 m =>
  Qrm G p2 p0 x19 x20 m
def Qk8 (G : Gt) (p1 p2 p0 : Value) (m : Mem) : Option Rs :=
  Qrn G p1 p2 p0 m
theorem Q180 (G : Gt) (a0 a1 a2 : Value) (m : Mem) : evFn Go.Proofs.Tryz.prog G.tab G.rds (drOf Go.Proofs.Tryz.prog G.tab) Go.Proofs.Tryz.f166 [a0, a1, a2] m = Qk8 G a1 a2 a0 m :=
  evFn_of (r := fun ρ m => Qk8 G (ρ 1) (ρ 2) (ρ 0) m) rfl rfl (tr (seqQ (f := fun ρ m => Qrn G (ρ 1) (ρ 2) (ρ 0) m) (tr (seqQ (f := fun ρ m => Qrm G (ρ 2) (ρ 0) (ρ 5) (ρ 6) m) (tr (seqQ (f := fun ρ m => Q90 G (ρ 4) m) (fun ρ m => by kernel_rfl)) (fun ρ m => by kernel_rfl))) (fun ρ m => by kernel_rfl))) (fun ρ m => by kernel_rfl)) m
def Q17l : Entry Go.Proofs.Tryz.prog := ⟨Quk, Go.Proofs.Tryz.f166, Go.Proofs.Tryz.func166, by kernel_rfl, arg3 (fun G a0 a1 a2 m => Qk8 G a1 a2 a0 m), okarg3 Q180⟩
end
end Go.Ab.Sh
