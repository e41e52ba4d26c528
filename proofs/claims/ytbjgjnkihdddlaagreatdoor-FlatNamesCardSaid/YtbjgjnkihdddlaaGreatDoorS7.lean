/-
  Functions of the program as plain definitions, each with the theorem that it is what the evaluator makes of the code. No conditions.
-/
import Derived.Test.YtbjgjnkihdddlaaGreatDoorAb4
import Derived.Test.YtbjgjnkihdddlaaGreatDoorZ
import Derived.KernelRfl
import Derived.Test.YtbjgjnkihdddlaaGreatDoorProg
set_option linter.unusedVariables false
set_option maxRecDepth 100000
namespace Go.Ab.Sh
open Go Go.Ab
noncomputable section
def Qxc (G : Gt) (m : Mem) : Option Rs :=
  some (.tuple ⟨[(.string ⟨#[]⟩), (.int .i64 0)]⟩, m)
def Qxd (G : Gt) (k0 : Value → Value → Value → Mem → Option Rs) (p22 p21 p20 : Value) (m : Mem) : Option Rs :=
  bp (pur (bin .add true true .int p22 (.int .i64 1)) m) fun x0 m =>
  k0 x0 p21 p20 m
def Qmf (G : Gt) (k0 : Value → Value → Value → Mem → Option Rs) : Nat → Value → Value → Value → Value → Value → Value → Mem → Option Rs
  | 0, _, _, _, _, _, _, _ => none
  | i + 1, p40, p39, p5, p22, p21, p20, m =>
  bp (pur (bin .lss false true .int p40 p39) m) fun x1 m =>
  brb x1
    (bp (pur (aFieldAddr 3 p5) m) fun x2 m =>
  bp (pur (aLoad false 1 x2 m) m) fun x3 m =>
  bp (evCall G.tab x3 [p40] m) fun x4 m =>
  bp (pur (bin .eql true true .int x4 (.int .i64 1)) m) fun x5 m =>
  brb x5
    (bp (pur (aFieldAddr 0 p5) m) fun x6 m =>
  bp (pur (aLoad false 1 x6 m) m) fun x7 m =>
  bp (pur (bin .add true true .str x7 (.string ⟨#[32]⟩)) m) fun x8 m =>
  bp (G.tab Q26 [p40] m) fun x9 m =>
  ckB (again (pur (aLoad false 1 x6 m) m) x7 && true)
    (bp (pur (bin .add false true .str x8 x9) m) fun x10 m =>
  some (.tuple ⟨[x10, (.int .i64 121)]⟩, m)))
    (bp (pur (bin .eql true true .int x4 (.int .i64 2)) m) fun x11 m =>
  brb x11
    (bp (pur (aFieldAddr 0 p5) m) fun x12 m =>
  bp (pur (aLoad false 1 x12 m) m) fun x13 m =>
  bp (pur (bin .add true true .str x13 (.string ⟨#[32]⟩)) m) fun x14 m =>
  bp (G.tab Q26 [p40] m) fun x15 m =>
  ckB (again (pur (aLoad false 1 x12 m) m) x13 && true)
    (bp (pur (bin .add false true .str x14 x15) m) fun x16 m =>
  some (.tuple ⟨[x16, (.int .i64 120)]⟩, m)))
    (bp (pur (bin .add true true .int p40 (.int .i64 1)) m) fun x17 m =>
  (Qmf G k0 i) x17 p39 p5 p22 p21 p20 m)))
    (Qxd G k0 p22 p21 p20 m)
def Qvu (G : Gt) (k0 : Value → Value → Value → Mem → Option Rs) (p40 p39 p5 p22 p21 p20 : Value) (m : Mem) : Option Rs :=
  Qmf G k0 G.rds p40 p39 p5 p22 p21 p20 m
def Qvv (G : Gt) (k0 : Value → Value → Value → Mem → Option Rs) (p5 p22 p21 p20 : Value) (m : Mem) : Option Rs :=
  bp (pur (aFieldAddr 1 p5) m) fun x18 m =>
  bp (pur (aLoad false 1 x18 m) m) fun x19 m =>
  Qvu G k0 (.int .i64 0) x19 p5 p22 p21 p20 m
def Qxe (G : Gt) (k0 : Value → Value → Value → Mem → Option Rs) (p5 p22 p21 p20 : Value) (m : Mem) : Option Rs :=
  bp (pur (aFieldAddr 1 p5) m) fun x20 m =>
  bp (pur (aLoad false 1 x20 m) m) fun x21 m =>
  bp (pur (aFieldAddr 2 p5) m) fun x22 m =>
  bp (pur (aLoad false 1 x22 m) m) fun x23 m =>
  bp (pur (bin .gtr false true .int x21 x23) m) fun x24 m =>
  brb x24
    (bp (pur (aFieldAddr 0 p5) m) fun x25 m =>
  bp (pur (aLoad false 1 x25 m) m) fun x26 m =>
  bp (pur (bin .add true true .str x26 (.string ⟨#[32]⟩)) m) fun x27 m =>
  bp (pur (aFieldAddr 2 p5) m) fun x28 m =>
  bp (pur (aLoad false 1 x28 m) m) fun x29 m =>
  bp (G.tab Q26 [x29] m) fun x30 m =>
  ckB (again (pur (aLoad false 1 x25 m) m) x26 && true)
    (bp (pur (bin .add false true .str x27 x30) m) fun x31 m =>
  some (.tuple ⟨[x31, (.int .i64 121)]⟩, m)))
    (Qvv G k0 p5 p22 p21 p20 m)
def Qxf (G : Gt) (k0 : Value → Value → Value → Mem → Option Rs) (p20 p22 p21 : Value) (m : Mem) : Option Rs :=
  bp (pur (aIndexAddrSl 4 p20 p22) m) fun x32 m =>
  bp (pur (aLoad true 4 x32 m) m) fun x33 m =>
  bp (some (aNew Q157 Q2v m)) fun x34 m =>
  bp (unt (aStore 4 x34 x33 m)) fun _ m =>
  Qxe G k0 x34 p22 p21 p20 m
def Qxg (G : Gt) (k0 : Value → Value → Value → Mem → Option Rs) (p23 p20 p22 p21 : Value) (m : Mem) : Option Rs :=
  brb p23
    (Qxf G k0 p20 p22 p21 m)
    (Qxc G m)
def Q2a (G : Gt) : Nat → Value → Value → Value → Mem → Option Rs
  | 0, _, _, _, _ => none
  | i + 1, p22, p21, p20, m =>
  bp (pur (bin .lss false true .int p22 p21) m) fun x35 m =>
  Qxg G (Q2a G i) x35 p20 p22 p21 m
def Qxh (G : Gt) (p22 p21 p20 : Value) (m : Mem) : Option Rs :=
  Q2a G G.rds p22 p21 p20 m
def Qxi (G : Gt) (p1 : Value) (m : Mem) : Option Rs :=
  bp (pur (aLoad true 12 p1 m) m) fun x36 m =>
  bp (G.tab Qx4 [x36] m) fun x37 m =>
  bp (pur (lenK 1 x37 m) m) fun x38 m =>
  Qxh G (.int .i64 0) x38 x37 m
def Qmg (G : Gt) (p18 p1 : Value) (m : Mem) : Option Rs :=
  brb p18
    (some (.tuple ⟨[(.string ⟨#[107, 105, 110, 100]⟩), (.int .i64 121)]⟩, m))
    (Qxi G p1 m)
def Qxj (G : Gt) (p1 : Value) (m : Mem) : Option Rs :=
  bp (pur (aFieldAddr 1 p1) m) fun x39 m =>
  bp (pur (aLoad false 1 x39 m) m) fun x40 m =>
  bp (pur (bin .neq true true .int x40 (.int .u8 1)) m) fun x41 m =>
  brb x41
    (bp (pur (aFieldAddr 1 p1) m) fun x42 m =>
  bp (pur (aLoad false 1 x42 m) m) fun x43 m =>
  bp (pur (bin .neq true true .int x43 (.int .u8 2)) m) fun x44 m =>
  Qmg G x44 p1 m)
    (Qmg G (.bool false) p1 m)
def Qxk (G : Gt) (p1 : Value) (m : Mem) : Option Rs :=
  bp (pur (aFieldAddr 0 p1) m) fun x45 m =>
  bp (pur (aLoad false 1 x45 m) m) fun x46 m =>
  bp (G.tab Q6r [x46] m) fun x47 m =>
  bp (pur (un .not x47) m) fun x48 m =>
  brb x48
    (some (.tuple ⟨[(.string ⟨#[110, 97, 109, 101]⟩), (.int .i64 121)]⟩, m))
    (Qxj G p1 m)
def Qtl (G : Gt) (p0 : Value) (m : Mem) : Option Rs :=
  bp (some (aNew Qq (Value.cells p0).toList m)) fun x49 m =>
  Qxk G x49 m
theorem Q1ao (G : Gt) (a0 : Value) (m : Mem) : evFn Go.Proofs.Tryz.prog G.tab G.rds (drOf Go.Proofs.Tryz.prog G.tab) Go.Proofs.Tryz.f53 [a0] m = Qtl G a0 m :=
  evFn_of (r := fun ρ m => Qtl G (ρ 0) m) rfl rfl (tr (seqQ (f := fun ρ m => Qxk G (ρ 1) m) (tr (seqQ (f := fun ρ m => Qxj G (ρ 1) m) (tr (tr (seqQ (f := fun ρ m => Qxi G (ρ 1) m) (tr (tr (seqQ (f := fun ρ m => Qxc G m) (fun ρ m => by kernel_rfl)) (seqQ (f := fun ρ m => Qxh G (ρ 22) (ρ 21) (ρ 20) m) (tr (blockQ (loopQ (fun i ρ m => Q2a G i (ρ 22) (ρ 21) (ρ 20) m) (fun _ _ => rfl) (fun i0 => tr (seqQ (f := fun ρ m => Qxg G (Q2a G i0) (ρ 23) (ρ 20) (ρ 22) (ρ 21) m) (tr (seqQ (f := fun ρ m => Qxf G (Q2a G i0) (ρ 20) (ρ 22) (ρ 21) m) (tr (tr (seqQ (f := fun ρ m => Qxd G (Q2a G i0) (ρ 22) (ρ 21) (ρ 20) m) (fun ρ m => by kernel_rfl)) (blockQ (seqQ (f := fun ρ m => Qxe G (Q2a G i0) (ρ 5) (ρ 22) (ρ 21) (ρ 20) m) (tr (seqQ (f := fun ρ m => Qvv G (Q2a G i0) (ρ 5) (ρ 22) (ρ 21) (ρ 20) m) (tr (seqQ (f := fun ρ m => Qvu G (Q2a G i0) (ρ 40) (ρ 39) (ρ 5) (ρ 22) (ρ 21) (ρ 20) m) (tr (blockQ (loopQ (fun i ρ m => Qmf G (Q2a G i0) i (ρ 40) (ρ 39) (ρ 5) (ρ 22) (ρ 21) (ρ 20) m) (fun _ _ => rfl) (fun i1 => fun ρ m => by kernel_rfl))) (fun ρ m => by kernel_rfl))) (fun ρ m => by kernel_rfl))) (fun ρ m => by kernel_rfl))))) (fun ρ m => by kernel_rfl))) (fun ρ m => by kernel_rfl))) (fun ρ m => by kernel_rfl)))) (fun ρ m => by kernel_rfl)))) (fun ρ m => by kernel_rfl))) (seqQ (f := fun ρ m => Qmg G (ρ 18) (ρ 1) m) (fun ρ m => by kernel_rfl))) (fun ρ m => by kernel_rfl))) (fun ρ m => by kernel_rfl))) (fun ρ m => by kernel_rfl)) m
def Q1ap : Entry Go.Proofs.Tryz.prog := ⟨Qm9, Go.Proofs.Tryz.f53, Go.Proofs.Tryz.func53, by kernel_rfl, arg1 (fun G a0 m => Qtl G a0 m), okarg1 Q1ao⟩
def Qrz (G : Gt) (p2 : Value) (m : Mem) : Option Rs :=
  some (p2, m)
def Q10b (G : Gt) (p1 : Value) (m : Mem) : Option Rs :=
  bp (pur (aFieldAddr 0 p1) m) fun x0 m =>
  bp (pur (aLoad false 1 x0 m) m) fun x1 m =>
  bp (pur (bin .neq true true .int x1 (.int .u32 0)) m) fun x2 m =>
  brt x2
    (bp (pur (aFieldAddr 0 p1) m) fun x3 m =>
  bp (pur (aLoad false 1 x3 m) m) fun x4 m =>
  bp (conv (.int .i64) x4 m) fun x5 m =>
  bp (pur (aFieldAddr 1 p1) m) fun x6 m =>
  bp (pur (aLoad false 1 x6 m) m) fun x7 m =>
  bp (conv (.int .i64) x7 m) fun x8 m =>
  bp (G.tab Qe [x5] m) fun x9 m =>
  ckB (again (pur (aLoad false 1 x6 m) m) x7 && true)
    (bp (G.tab Qe [x8] m) fun x10 m =>
  ckB true
    (bp (aBuildSlice Q2 [(.string ⟨#[]⟩)] 1 3 [(0, (.string ⟨#[114, 97, 110, 103, 101]⟩)), (1, x9), (2, x10)] m) fun x11 m =>
  bp (G.tab Q6o [(.bool true), x11] m) fun x12 m =>
  Qrz G x12 m)))
    (bp (pur (aFieldAddr 1 p1) m) fun x13 m =>
  bp (pur (aLoad false 1 x13 m) m) fun x14 m =>
  bp (pur (bin .neq true true .int x14 (.int .u32 65535)) m) fun x15 m =>
  bp (pur (aFieldAddr 0 p1) m) fun x16 m =>
  bp (pur (aLoad false 1 x16 m) m) fun x17 m =>
  bp (conv (.int .i64) x17 m) fun x18 m =>
  bp (pur (aFieldAddr 1 p1) m) fun x19 m =>
  bp (pur (aLoad false 1 x19 m) m) fun x20 m =>
  bp (conv (.int .i64) x20 m) fun x21 m =>
  bp (G.tab Qe [x18] m) fun x22 m =>
  ckB (again (pur (aLoad false 1 x13 m) m) x14 && (again (pur (aLoad false 1 x19 m) m) x20 && true))
    (bp (G.tab Qe [x21] m) fun x23 m =>
  ckB (again (pur (aLoad false 1 x13 m) m) x14 && true)
    (bp (aBuildSlice Q2 [(.string ⟨#[]⟩)] 1 3 [(0, (.string ⟨#[114, 97, 110, 103, 101]⟩)), (1, x22), (2, x23)] m) fun x24 m =>
  bp (G.tab Q6o [x15, x24] m) fun x25 m =>
  Qrz G x25 m)))
    (none)
def Qvw (G : Gt) (p0 : Value) (m : Mem) : Option Rs :=
  bp (some (aNew Quz (Value.cells p0).toList m)) fun x26 m =>
  Q10b G x26 m
theorem Q1bl (G : Gt) (a0 : Value) (m : Mem) : evFn Go.Proofs.Tryz.prog G.tab G.rds (drOf Go.Proofs.Tryz.prog G.tab) Go.Proofs.Tryz.f54 [a0] m = Qvw G a0 m :=
  evFn_of (r := fun ρ m => Qvw G (ρ 0) m) rfl rfl (tr (seqQ (f := fun ρ m => Q10b G (ρ 1) m) (tr (seqQ (f := fun ρ m => Qrz G (ρ 2) m) (fun ρ m => by kernel_rfl)) (fun ρ m => by kernel_rfl))) (fun ρ m => by kernel_rfl)) m
def Q1bm : Entry Go.Proofs.Tryz.prog := ⟨Qgj, Go.Proofs.Tryz.f54, Go.Proofs.Tryz.func54, by kernel_rfl, arg1 (fun G a0 m => Qvw G a0 m), okarg1 Q1bl⟩
def Qs0 (G : Gt) (k0 : Value → Value → Value → Value → Mem → Option Rs) (p7 p6 p5 p1 : Value) (m : Mem) : Option Rs :=
  bp (pur (bin .add true true .int p7 (.int .i64 1)) m) fun x0 m =>
  k0 x0 p6 p5 p1 m
def Q10c (G : Gt) (k0 : Value → Value → Value → Value → Mem → Option Rs) (p5 p7 p1 p6 : Value) (m : Mem) : Option Rs :=
  bp (pur (aIndexAddrSl 4 p5 p7) m) fun x1 m =>
  bp (pur (aLoad true 4 x1 m) m) fun x2 m =>
  bp (some (aNew Q5a Q6u m)) fun x3 m =>
  bp (unt (aStore 4 x3 x2 m)) fun _ m =>
  bp (pur (aLoad false 1 p1 m) m) fun x4 m =>
  brb x4
    (bp (pur (aFieldAddr 0 x3) m) fun x5 m =>
  bp (pur (aLoad false 1 x5 m) m) fun x6 m =>
  bp (G.tab Ql3 [x6] m) fun x7 m =>
  bp (pur (bin .eql true true .int x7 (.int .i64 1)) m) fun x8 m =>
  bp (unt (aStore 1 p1 x8 m)) fun _ m =>
  Qs0 G k0 p7 p6 p5 p1 m)
    (bp (unt (aStore 1 p1 (.bool false) m)) fun _ m =>
  Qs0 G k0 p7 p6 p5 p1 m)
def Q10d (G : Gt) (k0 : Value → Value → Value → Value → Mem → Option Rs) (p8 p5 p7 p1 p6 : Value) (m : Mem) : Option Rs :=
  brb p8
    (Q10c G k0 p5 p7 p1 p6 m)
    (some (.tuple ⟨[]⟩, m))
def Q8e (G : Gt) : Nat → Value → Value → Value → Value → Mem → Option Rs
  | 0, _, _, _, _, _ => none
  | i + 1, p7, p6, p5, p1, m =>
  bp (pur (bin .lss false true .int p7 p6) m) fun x9 m =>
  Q10d G (Q8e G i) x9 p5 p7 p1 p6 m
def Q10e (G : Gt) (p7 p6 p5 p1 : Value) (m : Mem) : Option Rs :=
  Q8e G G.rds p7 p6 p5 p1 m
def Qvx (G : Gt) (p0 p1 : Value) (m : Mem) : Option Rs :=
  bp (pur (lenK 1 p0 m) m) fun x10 m =>
  Q10e G (.int .i64 0) x10 p0 p1 m
theorem Q1bn (G : Gt) (a0 a1 : Value) (m : Mem) : evFn Go.Proofs.Tryz.prog G.tab G.rds (drOf Go.Proofs.Tryz.prog G.tab) Go.Proofs.Tryz.f55 [a0, a1] m = Qvx G a0 a1 m :=
  evFn_of (r := fun ρ m => Qvx G (ρ 0) (ρ 1) m) rfl rfl (tr (seqQ (f := fun ρ m => Q10e G (ρ 7) (ρ 6) (ρ 5) (ρ 1) m) (tr (blockQ (loopQ (fun i ρ m => Q8e G i (ρ 7) (ρ 6) (ρ 5) (ρ 1) m) (fun _ _ => rfl) (fun i0 => tr (seqQ (f := fun ρ m => Q10d G (Q8e G i0) (ρ 8) (ρ 5) (ρ 7) (ρ 1) (ρ 6) m) (tr (seqQ (f := fun ρ m => Q10c G (Q8e G i0) (ρ 5) (ρ 7) (ρ 1) (ρ 6) m) (tr (seqQ (f := fun ρ m => Qs0 G (Q8e G i0) (ρ 7) (ρ 6) (ρ 5) (ρ 1) m) (fun ρ m => by kernel_rfl)) (fun ρ m => by kernel_rfl))) (fun ρ m => by kernel_rfl))) (fun ρ m => by kernel_rfl)))) (fun ρ m => by kernel_rfl))) (fun ρ m => by kernel_rfl)) m
def Q1bo : Entry Go.Proofs.Tryz.prog := ⟨Q15h, Go.Proofs.Tryz.f55, Go.Proofs.Tryz.func55, by kernel_rfl, arg2 (fun G a0 a1 m => Qvx G a0 a1 m), okarg2 Q1bn⟩
def Qaa (G : Gt) (p0 : Value) (m : Mem) : Option Rs :=
  bp (pur (aIndexStr (.string ⟨#[0, 1, 1, 2, 1, 2, 2, 3, 1, 2, 2, 3, 2, 3, 3, 4, 1, 2, 2, 3, 2, 3, 3, 4, 2, 3, 3, 4, 3, 4, 4, 5, 1, 2, 2, 3, 2, 3, 3, 4, 2, 3, 3, 4, 3, 4, 4, 5, 2, 3, 3, 4, 3, 4, 4, 5, 3, 4, 4, 5, 4, 5, 5, 6, 1, 2, 2, 3, 2, 3, 3, 4, 2, 3, 3, 4, 3, 4, 4, 5, 2, 3, 3, 4, 3, 4, 4, 5, 3, 4, 4, 5, 4, 5, 5, 6, 2, 3, 3, 4, 3, 4, 4, 5, 3, 4, 4, 5, 4, 5, 5, 6, 3, 4, 4, 5, 4, 5, 5, 6, 4, 5, 5, 6, 5, 6, 6, 7, 1, 2, 2, 3, 2, 3, 3, 4, 2, 3, 3, 4, 3, 4, 4, 5, 2, 3, 3, 4, 3, 4, 4, 5, 3, 4, 4, 5, 4, 5, 5, 6, 2, 3, 3, 4, 3, 4, 4, 5, 3, 4, 4, 5, 4, 5, 5, 6, 3, 4, 4, 5, 4, 5, 5, 6, 4, 5, 5, 6, 5, 6, 6, 7, 2, 3, 3, 4, 3, 4, 4, 5, 3, 4, 4, 5, 4, 5, 5, 6, 3, 4, 4, 5, 4, 5, 5, 6, 4, 5, 5, 6, 5, 6, 6, 7, 3, 4, 4, 5, 4, 5, 5, 6, 4, 5, 5, 6, 5, 6, 6, 7, 4, 5, 5, 6, 5, 6, 6, 7, 5, 6, 6, 7, 6, 7, 7, 8]⟩) p0) m) fun x0 m =>
  bp (conv (.int .i64) x0 m) fun x1 m =>
  some (x1, m)
theorem Qyj (G : Gt) (a0 : Value) (m : Mem) : evFn Go.Proofs.Tryz.prog G.tab G.rds (drOf Go.Proofs.Tryz.prog G.tab) Go.Proofs.Tryz.f56 [a0] m = Qaa G a0 m :=
  evFn_of (r := fun ρ m => Qaa G (ρ 0) m) rfl rfl (fun ρ m => by kernel_rfl) m
def Qyk : Entry Go.Proofs.Tryz.prog := ⟨Ql3, Go.Proofs.Tryz.f56, Go.Proofs.Tryz.func56, by kernel_rfl, arg1 (fun G a0 m => Qaa G a0 m), okarg1 Qyj⟩
def Q5c (G : Gt) (p0 p1 : Value) (m : Mem) : Option Rs :=
  bp (G.tab Q65 [p0] m) fun x0 m =>
  bp (pur (aNilCheck p0) m) fun x1 m =>
  bp (pur (aFieldAddr 1 x1) m) fun x2 m =>
  bp (pur (aLoad false 1 x2 m) m) fun x3 m =>
  bp (aAppend Q3a 1 1 x3 p1 m) fun x4 m =>
  bp (pur (aNilCheck p0) m) fun x5 m =>
  bp (pur (aFieldAddr 1 x5) m) fun x6 m =>
  bp (unt (aStore 1 x6 x4 m)) fun _ m =>
  bp (pur (lenK 0 p1 m) m) fun x7 m =>
  some (.tuple ⟨[x7, .nilIface]⟩, m)
theorem Qpa (G : Gt) (a0 a1 : Value) (m : Mem) : evFn Go.Proofs.Tryz.prog G.tab G.rds (drOf Go.Proofs.Tryz.prog G.tab) Go.Proofs.Tryz.f57 [a0, a1] m = Q5c G a0 a1 m :=
  evFn_of (r := fun ρ m => Q5c G (ρ 0) (ρ 1) m) rfl rfl (fun ρ m => by kernel_rfl) m
def Qpb : Entry Go.Proofs.Tryz.prog := ⟨Q59, Go.Proofs.Tryz.f57, Go.Proofs.Tryz.func57, by kernel_rfl, arg2 (fun G a0 a1 m => Q5c G a0 a1 m), okarg2 Qpa⟩
def Q69 (G : Gt) (p0 p1 : Value) (m : Mem) : Option Rs :=
  bp (G.tab Q65 [p0] m) fun x0 m =>
  bp (pur (aNilCheck p0) m) fun x1 m =>
  bp (pur (aFieldAddr 1 x1) m) fun x2 m =>
  bp (pur (aLoad false 1 x2 m) m) fun x3 m =>
  bp (aBuildSlice Q3a [(.int .u8 0)] 1 1 [(0, p1)] m) fun x4 m =>
  bp (apS Q3a 1 1 x3 x4 m) fun x5 m =>
  bp (pur (aNilCheck p0) m) fun x6 m =>
  bp (pur (aFieldAddr 1 x6) m) fun x7 m =>
  bp (unt (aStore 1 x7 x5 m)) fun _ m =>
  some (.nilIface, m)
theorem Qs1 (G : Gt) (a0 a1 : Value) (m : Mem) : evFn Go.Proofs.Tryz.prog G.tab G.rds (drOf Go.Proofs.Tryz.prog G.tab) Go.Proofs.Tryz.f58 [a0, a1] m = Q69 G a0 a1 m :=
  evFn_of (r := fun ρ m => Q69 G (ρ 0) (ρ 1) m) rfl rfl (fun ρ m => by kernel_rfl) m
def Qs2 : Entry Go.Proofs.Tryz.prog := ⟨Q60, Go.Proofs.Tryz.f58, Go.Proofs.Tryz.func58, by kernel_rfl, arg2 (fun G a0 a1 m => Q69 G a0 a1 m), okarg2 Qs1⟩
def Qyl (G : Gt) (p0 : Value) (m : Mem) : Option Rs :=
  bp (some (aNew Q1d (Value.cells p0).toList m)) fun x0 m =>
  bp (pur (aFieldAddr 1 x0) m) fun x1 m =>
  bp (pur (aLoad false 1 x1 m) m) fun x2 m =>
  bp (pur (bin .eql true true .int x2 (.int .i64 0)) m) fun x3 m =>
  brb x3
    (some ((.string ⟨#[97, 110, 121]⟩), m))
    (bp (pur (aFieldAddr 0 x0) m) fun x4 m =>
  bp (pur (aLoad false 1 x4 m) m) fun x5 m =>
  bp (pur (aFieldAddr 1 x0) m) fun x6 m =>
  bp (pur (aLoad false 1 x6 m) m) fun x7 m =>
  bp (G.tab Q1t [x5] m) fun x8 m =>
  ckB (again (pur (aLoad false 1 x6 m) m) x7 && true)
    (bp (pur (bin .add true true .str x8 (.string ⟨#[32]⟩)) m) fun x9 m =>
  bp (G.tab Qkf [x7, (.bool true)] m) fun x10 m =>
  bp (pur (bin .add false true .str x9 x10) m) fun x11 m =>
  some (x11, m)))
theorem Q1cs (G : Gt) (a0 : Value) (m : Mem) : evFn Go.Proofs.Tryz.prog G.tab G.rds (drOf Go.Proofs.Tryz.prog G.tab) Go.Proofs.Tryz.f59 [a0] m = Qyl G a0 m :=
  evFn_of (r := fun ρ m => Qyl G (ρ 0) m) rfl rfl (fun ρ m => by kernel_rfl) m
def Q1ct : Entry Go.Proofs.Tryz.prog := ⟨Qyf, Go.Proofs.Tryz.f59, Go.Proofs.Tryz.func59, by kernel_rfl, arg1 (fun G a0 m => Qyl G a0 m), okarg1 Q1cs⟩
def Qtm (G : Gt) (p9 p0 : Value) (m : Mem) : Option Rs :=
  brb p9
    (some (.tuple ⟨[(.int .u32 0), (.int .i64 1)]⟩, m))
    (bp (G.tab Qm7 [p0] m) fun x0 m =>
  bp (pur (un .xor x0) m) fun x1 m =>
  some (.tuple ⟨[x1, (.int .i64 0)]⟩, m))
def Q12n (G : Gt) (p0 : Value) (m : Mem) : Option Rs :=
  bp (pur (bin .lss true true .int p0 (.int .i64 0)) m) fun x2 m =>
  brb x2
    (Qtm G (.bool true) p0 m)
    (bp (pur (bin .gtr true true .int p0 (.int .i64 32)) m) fun x3 m =>
  Qtm G x3 p0 m)
def Qym (G : Gt) (p0 : Value) (m : Mem) : Option Rs :=
  Q12n G p0 m
theorem Q1cu (G : Gt) (a0 : Value) (m : Mem) : evFn Go.Proofs.Tryz.prog G.tab G.rds (drOf Go.Proofs.Tryz.prog G.tab) Go.Proofs.Tryz.f62 [a0] m = Qym G a0 m :=
  evFn_of (r := fun ρ m => Qym G (ρ 0) m) rfl rfl (tr (seqQ (f := fun ρ m => Q12n G (ρ 0) m) (tr (tr seqD (seqQ (f := fun ρ m => Qtm G (ρ 9) (ρ 0) m) (fun ρ m => by kernel_rfl))) (fun ρ m => by kernel_rfl))) (fun ρ m => by kernel_rfl)) m
def Q1cv : Entry Go.Proofs.Tryz.prog := ⟨Q186, Go.Proofs.Tryz.f62, Go.Proofs.Tryz.func62, by kernel_rfl, arg1 (fun G a0 m => Qym G a0 m), okarg1 Q1cu⟩
def Qjq (G : Gt) (p0 : Value) (m : Mem) : Option Rs :=
  bp (some (aNew Q1d (Value.cells p0).toList m)) fun x0 m =>
  bp (pur (aFieldAddr 0 x0) m) fun x1 m =>
  bp (pur (aLoad false 1 x1 m) m) fun x2 m =>
  bp (pur (aFieldAddr 1 x0) m) fun x3 m =>
  bp (pur (aLoad false 1 x3 m) m) fun x4 m =>
  bp (G.tab Q1t [x2] m) fun x5 m =>
  ckB (again (pur (aLoad false 1 x3 m) m) x4 && true)
    (bp (pur (bin .add true true .str x5 (.string ⟨#[47]⟩)) m) fun x6 m =>
  bp (G.tab Q26 [x4] m) fun x7 m =>
  bp (pur (bin .add false true .str x6 x7) m) fun x8 m =>
  some (x8, m))
theorem Q178 (G : Gt) (a0 : Value) (m : Mem) : evFn Go.Proofs.Tryz.prog G.tab G.rds (drOf Go.Proofs.Tryz.prog G.tab) Go.Proofs.Tryz.f63 [a0] m = Qjq G a0 m :=
  evFn_of (r := fun ρ m => Qjq G (ρ 0) m) rfl rfl (fun ρ m => by kernel_rfl) m
def Q179 : Entry Go.Proofs.Tryz.prog := ⟨Qjm, Go.Proofs.Tryz.f63, Go.Proofs.Tryz.func63, by kernel_rfl, arg1 (fun G a0 m => Qjq G a0 m), okarg1 Q178⟩
def Q10f (G : Gt) (p3 : Value) (m : Mem) : Option Rs :=
  bp (G.tab Q61 [p3, (.string ⟨#[32]⟩)] m) fun x0 m =>
  some (x0, m)
def Qs3 (G : Gt) : Nat → Value → Value → Value → Value → Mem → Option Rs
  | 0, _, _, _, _, _ => none
  | i + 1, p8, p7, p6, p3, m =>
  bp (pur (bin .lss false true .int p8 p7) m) fun x1 m =>
  brb x1
    (bp (pur (aIndexAddrSl 1 p6 p8) m) fun x2 m =>
  bp (pur (aLoad false 1 x2 m) m) fun x3 m =>
  bp (G.tab Qvo [x3] m) fun x4 m =>
  bp (aBuildSlice Q2 [(.string ⟨#[]⟩)] 1 1 [(0, x4)] m) fun x5 m =>
  bp (apS Q2 1 16 p3 x5 m) fun x6 m =>
  bp (pur (bin .add true true .int p8 (.int .i64 1)) m) fun x7 m =>
  (Qs3 G i) x7 p7 p6 x6 m)
    (Q10f G p3 m)
def Q10g (G : Gt) (p8 p7 p6 p3 : Value) (m : Mem) : Option Rs :=
  Qs3 G G.rds p8 p7 p6 p3 m
def Q10h (G : Gt) (p0 p3 : Value) (m : Mem) : Option Rs :=
  bp (pur (lenK 1 p0 m) m) fun x8 m =>
  Q10g G (.int .i64 0) x8 p0 p3 m
def Q10i (G : Gt) (p0 : Value) (m : Mem) : Option Rs :=
  Q10h G p0 (.slice none 0 0) m
def Qvy (G : Gt) (p0 : Value) (m : Mem) : Option Rs :=
  Q10i G p0 m
theorem Q1bp (G : Gt) (a0 : Value) (m : Mem) : evFn Go.Proofs.Tryz.prog G.tab G.rds (drOf Go.Proofs.Tryz.prog G.tab) Go.Proofs.Tryz.f64 [a0] m = Qvy G a0 m :=
  evFn_of (r := fun ρ m => Qvy G (ρ 0) m) rfl rfl (tr (seqQ (f := fun ρ m => Q10i G (ρ 0) m) (tr (seqQ (f := fun ρ m => Q10h G (ρ 0) (ρ 3) m) (tr (tr (seqQ (f := fun ρ m => Q10f G (ρ 3) m) (fun ρ m => by kernel_rfl)) (seqQ (f := fun ρ m => Q10g G (ρ 8) (ρ 7) (ρ 6) (ρ 3) m) (tr (blockQ (loopQ (fun i ρ m => Qs3 G i (ρ 8) (ρ 7) (ρ 6) (ρ 3) m) (fun _ _ => rfl) (fun i0 => fun ρ m => by kernel_rfl))) (fun ρ m => by kernel_rfl)))) (fun ρ m => by kernel_rfl))) (fun ρ m => by kernel_rfl))) (fun ρ m => by kernel_rfl)) m
def Q1bq : Entry Go.Proofs.Tryz.prog := ⟨Qvf, Go.Proofs.Tryz.f64, Go.Proofs.Tryz.func64, by kernel_rfl, arg1 (fun G a0 m => Qvy G a0 m), okarg1 Q1bp⟩
def Qbk (G : Gt) (p0 : Value) (m : Mem) : Option Rs :=
  bp (pur (bin .lss true true .int p0 (.int .i64 0)) m) fun x0 m =>
  brb x0
    (bp (pur (bin .add true true .int p0 (.int .i64 1)) m) fun x1 m =>
  bp (pur (un .neg x1) m) fun x2 m =>
  bp (conv (.int .u64) x2 m) fun x3 m =>
  bp (pur (bin .add true true .int x3 (.int .u64 1)) m) fun x4 m =>
  bp (G.tab Qba [x4] m) fun x5 m =>
  bp (pur (bin .add true true .str (.string ⟨#[45]⟩) x5) m) fun x6 m =>
  some (x6, m))
    (bp (conv (.int .u64) p0 m) fun x7 m =>
  bp (G.tab Qba [x7] m) fun x8 m =>
  some (x8, m))
theorem Q10j (G : Gt) (a0 : Value) (m : Mem) : evFn Go.Proofs.Tryz.prog G.tab G.rds (drOf Go.Proofs.Tryz.prog G.tab) Go.Proofs.Tryz.f65 [a0] m = Qbk G a0 m :=
  evFn_of (r := fun ρ m => Qbk G (ρ 0) m) rfl rfl (fun ρ m => by kernel_rfl) m
def Q10k : Entry Go.Proofs.Tryz.prog := ⟨Qbl, Go.Proofs.Tryz.f65, Go.Proofs.Tryz.func65, by kernel_rfl, arg1 (fun G a0 m => Qbk G a0 m), okarg1 Q10j⟩
def Qgy (G : Gt) (p3 : Value) (m : Mem) : Option Rs :=
  some (p3, m)
def Q8l (G : Gt) : Nat → Value → Value → Value → Mem → Option Rs
  | 0, _, _, _, _ => none
  | i + 1, p4, p0, p3, m =>
  bp (pur (lenK 1 p0 m) m) fun x0 m =>
  bp (pur (bin .lss false true .int p4 x0) m) fun x1 m =>
  brb x1
    (bp (pur (aIndexAddrSl 1 p0 p4) m) fun x2 m =>
  bp (pur (aLoad false 1 x2 m) m) fun x3 m =>
  bp (conv (.int .i64) x3 m) fun x4 m =>
  bp (aBuildSlice Q25 [(.int .i64 0)] 1 1 [(0, x4)] m) fun x5 m =>
  bp (apS Q25 1 8 p3 x5 m) fun x6 m =>
  bp (pur (bin .add true true .int p4 (.int .i64 1)) m) fun x7 m =>
  (Q8l G i) x7 p0 x6 m)
    (Qgy G p3 m)
def Qgz (G : Gt) (p4 p0 p3 : Value) (m : Mem) : Option Rs :=
  Q8l G G.rds p4 p0 p3 m
def Qh0 (G : Gt) (p0 p3 : Value) (m : Mem) : Option Rs :=
  Qgz G (.int .i64 0) p0 p3 m
def Qh1 (G : Gt) (p0 : Value) (m : Mem) : Option Rs :=
  bp (pur (lenK 1 p0 m) m) fun x8 m =>
  bp (aBuildSlice Q25 [(.int .i64 0)] 1 1 [(0, x8)] m) fun x9 m =>
  Qh0 G p0 x9 m
def Qab (G : Gt) (p0 : Value) (m : Mem) : Option Rs :=
  Qh1 G p0 m
theorem Qyn (G : Gt) (a0 : Value) (m : Mem) : evFn Go.Proofs.Tryz.prog G.tab G.rds (drOf Go.Proofs.Tryz.prog G.tab) Go.Proofs.Tryz.f66 [a0] m = Qab G a0 m :=
  evFn_of (r := fun ρ m => Qab G (ρ 0) m) rfl rfl (tr (seqQ (f := fun ρ m => Qh1 G (ρ 0) m) (tr (seqQ (f := fun ρ m => Qh0 G (ρ 0) (ρ 3) m) (tr (tr (seqQ (f := fun ρ m => Qgy G (ρ 3) m) (fun ρ m => by kernel_rfl)) (seqQ (f := fun ρ m => Qgz G (ρ 4) (ρ 0) (ρ 3) m) (tr (blockQ (loopQ (fun i ρ m => Q8l G i (ρ 4) (ρ 0) (ρ 3) m) (fun _ _ => rfl) (fun i0 => fun ρ m => by kernel_rfl))) (fun ρ m => by kernel_rfl)))) (fun ρ m => by kernel_rfl))) (fun ρ m => by kernel_rfl))) (fun ρ m => by kernel_rfl)) m
def Qyo : Entry Go.Proofs.Tryz.prog := ⟨Q6p, Go.Proofs.Tryz.f66, Go.Proofs.Tryz.func66, by kernel_rfl, arg1 (fun G a0 m => Qab G a0 m), okarg1 Qyn⟩
end
end Go.Ab.Sh

set_option linter.unusedVariables false
set_option maxRecDepth 100000
namespace Go.Ab.Sh
open Go Go.Ab
noncomputable section
def Qbm (G : Gt) (p3 : Value) (m : Mem) : Option Rs :=
  some (p3, m)
def Q6a (G : Gt) : Nat → Value → Value → Value → Mem → Option Rs
  | 0, _, _, _, _ => none
  | i + 1, p4, p0, p3, m =>
  bp (pur (lenK 1 p0 m) m) fun x0 m =>
  bp (pur (bin .lss false true .int p4 x0) m) fun x1 m =>
  brb x1
    (bp (pur (aIndexAddrSl 4 p0 p4) m) fun x2 m =>
  bp (pur (aFieldAddr 0 x2) m) fun x3 m =>
  bp (pur (aLoad false 1 x3 m) m) fun x4 m =>
  bp (conv (.int .i64) x4 m) fun x5 m =>
  bp (pur (aIndexAddrSl 4 p0 p4) m) fun x6 m =>
  bp (pur (aFieldAddr 1 x6) m) fun x7 m =>
  bp (pur (aLoad false 1 x7 m) m) fun x8 m =>
  bp (pur (aIndexAddrSl 4 p0 p4) m) fun x9 m =>
  bp (pur (aFieldAddr 2 x9) m) fun x10 m =>
  bp (pur (aLoad false 1 x10 m) m) fun x11 m =>
  bp (conv (.int .i64) x11 m) fun x12 m =>
  bp (aBuildSlice Q25 [(.int .i64 0)] 1 3 [(0, x5), (1, x8), (2, x12)] m) fun x13 m =>
  bp (pur (aIndexAddrSl 4 p0 p4) m) fun x14 m =>
  bp (pur (aFieldAddr 3 x14) m) fun x15 m =>
  bp (pur (aLoad false 1 x15 m) m) fun x16 m =>
  bp (aBuildSlice Q2 [(.string ⟨#[]⟩)] 1 1 [(0, x16)] m) fun x17 m =>
  bp (G.tab Qa [x13, x17] m) fun x18 m =>
  bp (pur (bin .add false true .str p3 x18) m) fun x19 m =>
  bp (pur (bin .add true true .int p4 (.int .i64 1)) m) fun x20 m =>
  (Q6a G i) x20 p0 x19 m)
    (Qbm G p3 m)
def Qbn (G : Gt) (p4 p0 p3 : Value) (m : Mem) : Option Rs :=
  Q6a G G.rds p4 p0 p3 m
def Qbo (G : Gt) (p0 p3 : Value) (m : Mem) : Option Rs :=
  Qbn G (.int .i64 0) p0 p3 m
def Qbp (G : Gt) (p0 : Value) (m : Mem) : Option Rs :=
  bp (pur (lenK 1 p0 m) m) fun x21 m =>
  bp (aBuildSlice Q25 [(.int .i64 0)] 1 1 [(0, x21)] m) fun x22 m =>
  bp (G.tab Qa [x22, (.slice none 0 0)] m) fun x23 m =>
  Qbo G p0 x23 m
def Q75 (G : Gt) (p0 : Value) (m : Mem) : Option Rs :=
  Qbp G p0 m
theorem Qtn (G : Gt) (a0 : Value) (m : Mem) : evFn Go.Proofs.Tryz.prog G.tab G.rds (drOf Go.Proofs.Tryz.prog G.tab) Go.Proofs.Tryz.f67 [a0] m = Q75 G a0 m :=
  evFn_of (r := fun ρ m => Q75 G (ρ 0) m) rfl rfl (tr (seqQ (f := fun ρ m => Qbp G (ρ 0) m) (tr (seqQ (f := fun ρ m => Qbo G (ρ 0) (ρ 3) m) (tr (tr (seqQ (f := fun ρ m => Qbm G (ρ 3) m) (fun ρ m => by kernel_rfl)) (seqQ (f := fun ρ m => Qbn G (ρ 4) (ρ 0) (ρ 3) m) (tr (blockQ (loopQ (fun i ρ m => Q6a G i (ρ 4) (ρ 0) (ρ 3) m) (fun _ _ => rfl) (fun i0 => fun ρ m => by kernel_rfl))) (fun ρ m => by kernel_rfl)))) (fun ρ m => by kernel_rfl))) (fun ρ m => by kernel_rfl))) (fun ρ m => by kernel_rfl)) m
def Qto : Entry Go.Proofs.Tryz.prog := ⟨Q76, Go.Proofs.Tryz.f67, Go.Proofs.Tryz.func67, by kernel_rfl, arg1 (fun G a0 m => Q75 G a0 m), okarg1 Qtn⟩
def Qdi (G : Gt) (p9 p10 p0 : Value) (m : Mem) : Option Rs :=
  bp (pur (aIndexAddrSl 1 p9 p10) m) fun x0 m =>
  bp (unt (aStore 1 x0 p0 m)) fun _ m =>
  bp (pur (bin .add true true .int p10 (.int .i64 1)) m) fun x1 m =>
  bp (pur (aSliceSl 1 p9 none (some x1)) m) fun x2 m =>
  some (x2, m)
def Qdj (G : Gt) : Nat → Value → Value → Value → Value → Value → Value → Mem → Option Rs
  | 0, _, _, _, _, _, _, _ => none
  | i + 1, p10, p3, p0, p1, p9, p2, m =>
  bp (pur (bin .lss false true .int p10 p3) m) fun x3 m =>
  brb x3
    (bp (G.tab Qx5 [p0, p1] m) fun x4 m =>
  bp (pur (bin .lss true true .int x4 (.int .i64 0)) m) fun x5 m =>
  brb x5
    (Qdi G p9 p10 p0 m)
    (bp (pur (bin .add false true .int x4 p2) m) fun x6 m =>
  bp (pur (aSliceStr p0 none (some x6)) m) fun x7 m =>
  bp (pur (aIndexAddrSl 1 p9 p10) m) fun x8 m =>
  bp (unt (aStore 1 x8 x7 m)) fun _ m =>
  bp (pur (lenK 0 p1 m) m) fun x9 m =>
  bp (pur (bin .add false true .int x4 x9) m) fun x10 m =>
  bp (pur (aSliceStr p0 (some x10) none) m) fun x11 m =>
  bp (pur (bin .add true true .int p10 (.int .i64 1)) m) fun x12 m =>
  (Qdj G i) x12 p3 x11 p1 p9 p2 m))
    (Qdi G p9 p10 p0 m)
def Qpc (G : Gt) (p10 p3 p0 p1 p9 p2 : Value) (m : Mem) : Option Rs :=
  Qdj G G.rds p10 p3 p0 p1 p9 p2 m
def Qpd (G : Gt) (p3 p0 p1 p9 p2 : Value) (m : Mem) : Option Rs :=
  Qpc G (.int .i64 0) p3 p0 p1 p9 p2 m
def Qpe (G : Gt) (p3 p0 p1 p9 p2 : Value) (m : Mem) : Option Rs :=
  bp (pur (bin .sub true true .int p3 (.int .i64 1)) m) fun x13 m =>
  Qpd G x13 p0 p1 p9 p2 m
def Qpf (G : Gt) (p3 p0 p1 p2 : Value) (m : Mem) : Option Rs :=
  bp (aMakeSlice Q2 [(.string ⟨#[]⟩)] 1 16 p3 p3 m) fun x14 m =>
  Qpe G p3 p0 p1 x14 p2 m
def Qdk (G : Gt) (p3 p0 p1 p2 : Value) (m : Mem) : Option Rs :=
  bp (pur (lenK 0 p0 m) m) fun x15 m =>
  bp (pur (bin .add true true .int x15 (.int .i64 1)) m) fun x16 m =>
  bp (pur (aMin p3 x16) m) fun x17 m =>
  Qpf G x17 p0 p1 p2 m
def Qpg (G : Gt) (p3 p0 p1 p2 : Value) (m : Mem) : Option Rs :=
  bp (pur (bin .lss true true .int p3 (.int .i64 0)) m) fun x18 m =>
  brb x18
    (bp (G.tab Qxl [p0, p1] m) fun x19 m =>
  bp (pur (bin .add true true .int x19 (.int .i64 1)) m) fun x20 m =>
  Qdk G x20 p0 p1 p2 m)
    (Qdk G p3 p0 p1 p2 m)
def Qph (G : Gt) (p1 p0 p3 p2 : Value) (m : Mem) : Option Rs :=
  bp (pur (bin .eql true true .str p1 (.string ⟨#[]⟩)) m) fun x21 m =>
  brb x21
    (bp (G.tab Q17a [p0, p3] m) fun x22 m =>
  some (x22, m))
    (Qpg G p3 p0 p1 p2 m)
def Qpi (G : Gt) (p3 p1 p0 p2 : Value) (m : Mem) : Option Rs :=
  bp (pur (bin .eql true true .int p3 (.int .i64 0)) m) fun x23 m =>
  brb x23
    (some ((.slice none 0 0), m))
    (Qph G p1 p0 p3 p2 m)
def Qh2 (G : Gt) (p3 p1 p0 p2 : Value) (m : Mem) : Option Rs :=
  Qpi G p3 p1 p0 p2 m
theorem Q15i (G : Gt) (a0 a1 a2 a3 : Value) (m : Mem) : evFn Go.Proofs.Tryz.prog G.tab G.rds (drOf Go.Proofs.Tryz.prog G.tab) Go.Proofs.Tryz.f68 [a0, a1, a2, a3] m = Qh2 G a3 a1 a0 a2 m :=
  evFn_of (r := fun ρ m => Qh2 G (ρ 3) (ρ 1) (ρ 0) (ρ 2) m) rfl rfl (tr (seqQ (f := fun ρ m => Qpi G (ρ 3) (ρ 1) (ρ 0) (ρ 2) m) (tr (seqQ (f := fun ρ m => Qph G (ρ 1) (ρ 0) (ρ 3) (ρ 2) m) (tr (seqQ (f := fun ρ m => Qpg G (ρ 3) (ρ 0) (ρ 1) (ρ 2) m) (tr (seqQ (f := fun ρ m => Qdk G (ρ 3) (ρ 0) (ρ 1) (ρ 2) m) (tr (seqQ (f := fun ρ m => Qpf G (ρ 3) (ρ 0) (ρ 1) (ρ 2) m) (tr (seqQ (f := fun ρ m => Qpe G (ρ 3) (ρ 0) (ρ 1) (ρ 9) (ρ 2) m) (tr (seqQ (f := fun ρ m => Qpd G (ρ 3) (ρ 0) (ρ 1) (ρ 9) (ρ 2) m) (tr (seqQ (f := fun ρ m => Qpc G (ρ 10) (ρ 3) (ρ 0) (ρ 1) (ρ 9) (ρ 2) m) (tr (tr (seqQ (f := fun ρ m => Qdi G (ρ 9) (ρ 10) (ρ 0) m) (fun ρ m => by kernel_rfl)) (blockQ (loopQ (fun i ρ m => Qdj G i (ρ 10) (ρ 3) (ρ 0) (ρ 1) (ρ 9) (ρ 2) m) (fun _ _ => rfl) (fun i0 => fun ρ m => by kernel_rfl)))) (fun ρ m => by kernel_rfl))) (fun ρ m => by kernel_rfl))) (fun ρ m => by kernel_rfl))) (fun ρ m => by kernel_rfl))) (fun ρ m => by kernel_rfl))) (fun ρ m => by kernel_rfl))) (fun ρ m => by kernel_rfl))) (fun ρ m => by kernel_rfl))) (fun ρ m => by kernel_rfl)) m
def Q15j : Entry Go.Proofs.Tryz.prog := ⟨Qsu, Go.Proofs.Tryz.f68, Go.Proofs.Tryz.func68, by kernel_rfl, arg4 (fun G a0 a1 a2 a3 m => Qh2 G a3 a1 a0 a2 m), okarg4 Q15i⟩
def Qh3 (G : Gt) (p0 : Value) (m : Mem) : Option Rs :=
  some (p0, m)
def Q8m (G : Gt) (k0 : Value → Value → Mem → Option Rs) (p13 p0 p1 : Value) (m : Mem) : Option Rs :=
  brb p13
    (bp (pur (aSliceStr p0 (some (.int .i64 1)) none) m) fun x0 m =>
  k0 x0 p1 m)
    (Qh3 G p0 m)
def Q3e (G : Gt) : Nat → Value → Value → Mem → Option Rs
  | 0, _, _, _ => none
  | i + 1, p0, p1, m =>
  bp (pur (lenK 0 p0 m) m) fun x1 m =>
  bp (pur (bin .gtr true true .int x1 (.int .i64 0)) m) fun x2 m =>
  brb x2
    (bp (pur (aIndexStr p0 (.int .i64 0)) m) fun x3 m =>
  bp (pur (bin .eql false true .int x3 p1) m) fun x4 m =>
  Q8m G (Q3e G i) x4 p0 p1 m)
    (Q8m G (Q3e G i) (.bool false) p0 p1 m)
def Qh4 (G : Gt) (p0 p1 : Value) (m : Mem) : Option Rs :=
  Q3e G G.rds p0 p1 m
def Qac (G : Gt) (p0 p1 : Value) (m : Mem) : Option Rs :=
  Qh4 G p0 p1 m
theorem Qyp (G : Gt) (a0 a1 : Value) (m : Mem) : evFn Go.Proofs.Tryz.prog G.tab G.rds (drOf Go.Proofs.Tryz.prog G.tab) Go.Proofs.Tryz.f69 [a0, a1] m = Qac G a0 a1 m :=
  evFn_of (r := fun ρ m => Qac G (ρ 0) (ρ 1) m) rfl rfl (tr (seqQ (f := fun ρ m => Qh4 G (ρ 0) (ρ 1) m) (tr (tr (seqQ (f := fun ρ m => Qh3 G (ρ 0) m) (fun ρ m => by kernel_rfl)) (blockQ (loopQ (fun i ρ m => Q3e G i (ρ 0) (ρ 1) m) (fun _ _ => rfl) (fun i0 => tr (tr seqD (seqQ (f := fun ρ m => Q8m G (Q3e G i0) (ρ 13) (ρ 0) (ρ 1) m) (fun ρ m => by kernel_rfl))) (fun ρ m => by kernel_rfl))))) (fun ρ m => by kernel_rfl))) (fun ρ m => by kernel_rfl)) m
def Qyq : Entry Go.Proofs.Tryz.prog := ⟨Qa7, Go.Proofs.Tryz.f69, Go.Proofs.Tryz.func69, by kernel_rfl, arg2 (fun G a0 a1 m => Qac G a0 a1 m), okarg2 Qyp⟩
def Qh5 (G : Gt) (p2 : Value) (m : Mem) : Option Rs :=
  bp (pur (aLoad true 256 p2 m) m) fun x0 m =>
  bp (unt (aStore 256 p2 x0 m)) fun _ m =>
  ob (ob (aLoad true 256 p2 m) fun v => ob (some [(.bool true)]) fun l => some (v :: l)) fun l => some (resVal l, m)
def Q8n (G : Gt) : Nat → Value → Value → Value → Mem → Option Rs
  | 0, _, _, _, _ => none
  | i + 1, p4, p0, p2, m =>
  bp (pur (lenK 0 p0 m) m) fun x1 m =>
  bp (pur (bin .lss false true .int p4 x1) m) fun x2 m =>
  brb x2
    (bp (pur (aIndexStr p0 p4) m) fun x3 m =>
  bp (pur (bin .geq true true .int x3 (.int .u8 128)) m) fun x4 m =>
  brb x4
    (bp (pur (aLoad true 256 p2 m) m) fun x5 m =>
  bp (unt (aStore 256 p2 x5 m)) fun _ m =>
  ob (ob (aLoad true 256 p2 m) fun v => ob (some [(.bool false)]) fun l => some (v :: l)) fun l => some (resVal l, m))
    (bp (pur (aIndexAddrArr 256 1 p2 x3) m) fun x6 m =>
  bp (unt (aStore 1 x6 (.bool true) m)) fun _ m =>
  bp (pur (bin .add true true .int p4 (.int .i64 1)) m) fun x7 m =>
  (Q8n G i) x7 p0 p2 m))
    (Qh5 G p2 m)
def Qh6 (G : Gt) (p4 p0 p2 : Value) (m : Mem) : Option Rs :=
  Q8n G G.rds p4 p0 p2 m
def Qh7 (G : Gt) (p0 p2 : Value) (m : Mem) : Option Rs :=
  Qh6 G (.int .i64 0) p0 p2 m
def Qad (G : Gt) (p0 : Value) (m : Mem) : Option Rs :=
  bp (some (aNew Qgq Qgr m)) fun x8 m =>
  Qh7 G p0 x8 m
theorem Qyr (G : Gt) (a0 : Value) (m : Mem) : evFn Go.Proofs.Tryz.prog G.tab G.rds (drOf Go.Proofs.Tryz.prog G.tab) Go.Proofs.Tryz.f70 [a0] m = Qad G a0 m :=
  evFn_of (r := fun ρ m => Qad G (ρ 0) m) rfl rfl (tr (seqQ (f := fun ρ m => Qh7 G (ρ 0) (ρ 2) m) (tr (tr (seqQ (f := fun ρ m => Qh5 G (ρ 2) m) (fun ρ m => by kernel_rfl)) (seqQ (f := fun ρ m => Qh6 G (ρ 4) (ρ 0) (ρ 2) m) (tr (blockQ (loopQ (fun i ρ m => Q8n G i (ρ 4) (ρ 0) (ρ 2) m) (fun _ _ => rfl) (fun i0 => fun ρ m => by kernel_rfl))) (fun ρ m => by kernel_rfl)))) (fun ρ m => by kernel_rfl))) (fun ρ m => by kernel_rfl)) m
def Qys : Entry Go.Proofs.Tryz.prog := ⟨Qa8, Go.Proofs.Tryz.f70, Go.Proofs.Tryz.func70, by kernel_rfl, arg1 (fun G a0 m => Qad G a0 m), okarg1 Qyr⟩
def Q7q (G : Gt) (p0 : Value) (m : Mem) : Option Rs :=
  some (p0, m)
def Q7r (G : Gt) : Nat → Value → Value → Mem → Option Rs
  | 0, _, _, _ => none
  | i + 1, p0, p1, m =>
  bp (pur (lenK 0 p0 m) m) fun x0 m =>
  bp (pur (bin .gtr true true .int x0 (.int .i64 0)) m) fun x1 m =>
  brb x1
    (bp (pur (aIndexStr p0 (.int .i64 0)) m) fun x2 m =>
  bp (G.tab Q68 [p1, x2] m) fun x3 m =>
  bp (pur (un .not x3) m) fun x4 m =>
  brb x4
    (Q7q G p0 m)
    (bp (pur (aSliceStr p0 (some (.int .i64 1)) none) m) fun x5 m =>
  (Q7r G i) x5 p1 m))
    (Q7q G p0 m)
def Qfx (G : Gt) (p0 p1 : Value) (m : Mem) : Option Rs :=
  Q7r G G.rds p0 p1 m
def Q9g (G : Gt) (p0 p1 : Value) (m : Mem) : Option Rs :=
  Qfx G p0 p1 m
theorem Qwj (G : Gt) (a0 a1 : Value) (m : Mem) : evFn Go.Proofs.Tryz.prog G.tab G.rds (drOf Go.Proofs.Tryz.prog G.tab) Go.Proofs.Tryz.f71 [a0, a1] m = Q9g G a0 a1 m :=
  evFn_of (r := fun ρ m => Q9g G (ρ 0) (ρ 1) m) rfl rfl (tr (seqQ (f := fun ρ m => Qfx G (ρ 0) (ρ 1) m) (tr (tr (seqQ (f := fun ρ m => Q7q G (ρ 0) m) (fun ρ m => by kernel_rfl)) (blockQ (loopQ (fun i ρ m => Q7r G i (ρ 0) (ρ 1) m) (fun _ _ => rfl) (fun i0 => fun ρ m => by kernel_rfl)))) (fun ρ m => by kernel_rfl))) (fun ρ m => by kernel_rfl)) m
def Qwk : Entry Go.Proofs.Tryz.prog := ⟨Q9a, Go.Proofs.Tryz.f71, Go.Proofs.Tryz.func71, by kernel_rfl, arg2 (fun G a0 a1 m => Q9g G a0 a1 m), okarg2 Qwj⟩
def Q77 (G : Gt) (p0 p1 : Value) (m : Mem) : Option Rs :=
  bp (G.tab Q66 [p0, p1] m) fun x0 m =>
  bp (pur (bin .geq true true .int x0 (.int .i64 0)) m) fun x1 m =>
  brb x1
    (bp (pur (aSliceStr p0 none (some x0)) m) fun x2 m =>
  bp (pur (lenK 0 p1 m) m) fun x3 m =>
  bp (pur (bin .add false true .int x0 x3) m) fun x4 m =>
  bp (pur (aSliceStr p0 (some x4) none) m) fun x5 m =>
  some (.tuple ⟨[x2, x5, (.bool true)]⟩, m))
    (some (.tuple ⟨[p0, (.string ⟨#[]⟩), (.bool false)]⟩, m))
theorem Qtp (G : Gt) (a0 a1 : Value) (m : Mem) : evFn Go.Proofs.Tryz.prog G.tab G.rds (drOf Go.Proofs.Tryz.prog G.tab) Go.Proofs.Tryz.f73 [a0, a1] m = Q77 G a0 a1 m :=
  evFn_of (r := fun ρ m => Q77 G (ρ 0) (ρ 1) m) rfl rfl (fun ρ m => by kernel_rfl) m
def Qtq : Entry Go.Proofs.Tryz.prog := ⟨Qea, Go.Proofs.Tryz.f73, Go.Proofs.Tryz.func73, by kernel_rfl, arg2 (fun G a0 a1 m => Q77 G a0 a1 m), okarg2 Qtp⟩
def Q15k (G : Gt) (m : Mem) : Option Rs :=
  some ((.bool true), m)
def Qbq (G : Gt) (k0 : Value → Mem → Option Rs) (p51 p14 : Value) (m : Mem) : Option Rs :=
  brb p51
    (some ((.bool false), m))
    (k0 p14 m)
def Qbr (G : Gt) (k0 : Value → Mem → Option Rs) (p5 p3 p4 p14 : Value) (m : Mem) : Option Rs :=
  bp (pur (un .not p5) m) fun x0 m =>
  brb x0
    (bp (pur (bin .eql true true .int p3 (.int .i64 0)) m) fun x1 m =>
  brb x1
    (Qbq G k0 (.bool true) p14 m)
    (bp (pur (bin .lss true true .int p4 (.int .i32 48)) m) fun x2 m =>
  brb x2
    (bp (G.tab Qr3 [(.string ⟨#[45, 95, 46, 47]⟩), p4] m) fun x3 m =>
  bp (pur (bin .lss true true .int x3 (.int .i64 0)) m) fun x4 m =>
  Qbq G k0 x4 p14 m)
    (bp (pur (bin .gtr true true .int p4 (.int .i32 57)) m) fun x5 m =>
  brb x5
    (bp (G.tab Qr3 [(.string ⟨#[45, 95, 46, 47]⟩), p4] m) fun x6 m =>
  bp (pur (bin .lss true true .int x6 (.int .i64 0)) m) fun x7 m =>
  Qbq G k0 x7 p14 m)
    (Qbq G k0 (.bool false) p14 m))))
    (Qbq G k0 (.bool false) p14 m)
def Q15l (G : Gt) (k0 : Value → Mem → Option Rs) (p4 p3 p14 : Value) (m : Mem) : Option Rs :=
  bp (pur (bin .geq true true .int p4 (.int .i32 97)) m) fun x8 m =>
  brb x8
    (bp (pur (bin .leq true true .int p4 (.int .i32 122)) m) fun x9 m =>
  brb x9
    (Qbr G k0 (.bool true) p3 p4 p14 m)
    (bp (pur (bin .geq true true .int p4 (.int .i32 65)) m) fun x10 m =>
  brb x10
    (bp (pur (bin .leq true true .int p4 (.int .i32 90)) m) fun x11 m =>
  Qbr G k0 x11 p3 p4 p14 m)
    (Qbr G k0 (.bool false) p3 p4 p14 m)))
    (bp (pur (bin .geq true true .int p4 (.int .i32 65)) m) fun x12 m =>
  brb x12
    (bp (pur (bin .leq true true .int p4 (.int .i32 90)) m) fun x13 m =>
  Qbr G k0 x13 p3 p4 p14 m)
    (Qbr G k0 (.bool false) p3 p4 p14 m))
def Q15m (G : Gt) (k0 : Value → Mem → Option Rs) (p15 p14 : Value) (m : Mem) : Option Rs :=
  bp (pur (aExtract p15 1) m) fun x14 m =>
  bp (pur (aExtract p15 2) m) fun x15 m =>
  Q15l G k0 x15 x14 p14 m
def Q15n (G : Gt) (k0 : Value → Mem → Option Rs) (p16 p15 p14 : Value) (m : Mem) : Option Rs :=
  brb p16
    (Q15m G k0 p15 p14 m)
    (Q15k G m)
def Q6w (G : Gt) : Nat → Value → Mem → Option Rs
  | 0, _, _ => none
  | i + 1, p14, m =>
  bp (aNextStr p14 m) fun x16 m =>
  bp (pur (aExtract x16 0) m) fun x17 m =>
  Q15n G (Q6w G i) x17 x16 p14 m
def Q15o (G : Gt) (p14 : Value) (m : Mem) : Option Rs :=
  Q6w G G.rds p14 m
def Q15p (G : Gt) (p0 : Value) (m : Mem) : Option Rs :=
  bp (aRangeStr p0 m) fun x18 m =>
  Q15o G x18 m
def Qtr (G : Gt) (p12 p0 : Value) (m : Mem) : Option Rs :=
  brb p12
    (some ((.bool false), m))
    (Q15p G p0 m)
def Q15q (G : Gt) (p0 : Value) (m : Mem) : Option Rs :=
  bp (pur (bin .eql true true .str p0 (.string ⟨#[]⟩)) m) fun x19 m =>
  brb x19
    (Qtr G (.bool true) p0 m)
    (bp (pur (lenK 0 p0 m) m) fun x20 m =>
  bp (pur (bin .gtr true true .int x20 (.int .i64 32)) m) fun x21 m =>
  Qtr G x21 p0 m)
def Q121 (G : Gt) (p0 : Value) (m : Mem) : Option Rs :=
  Q15q G p0 m
theorem Q1dp (G : Gt) (a0 : Value) (m : Mem) : evFn Go.Proofs.Tryz.prog G.tab G.rds (drOf Go.Proofs.Tryz.prog G.tab) Go.Proofs.Tryz.f74 [a0] m = Q121 G a0 m :=
  evFn_of (r := fun ρ m => Q121 G (ρ 0) m) rfl rfl (tr (seqQ (f := fun ρ m => Q15q G (ρ 0) m) (tr (tr (seqQ (f := fun ρ m => Q15p G (ρ 0) m) (tr (tr (seqQ (f := fun ρ m => Q15k G m) (fun ρ m => by kernel_rfl)) (seqQ (f := fun ρ m => Q15o G (ρ 14) m) (tr (blockQ (loopQ (fun i ρ m => Q6w G i (ρ 14) m) (fun _ _ => rfl) (fun i0 => tr (seqQ (f := fun ρ m => Q15n G (Q6w G i0) (ρ 16) (ρ 15) (ρ 14) m) (tr (seqQ (f := fun ρ m => Q15m G (Q6w G i0) (ρ 15) (ρ 14) m) (tr (blockQ (seqQ (f := fun ρ m => Q15l G (Q6w G i0) (ρ 4) (ρ 3) (ρ 14) m) (tr (seqQ (f := fun ρ m => Qbr G (Q6w G i0) (ρ 5) (ρ 3) (ρ 4) (ρ 14) m) (tr (seqQ (f := fun ρ m => Qbq G (Q6w G i0) (ρ 51) (ρ 14) m) (fun ρ m => by kernel_rfl)) (fun ρ m => by kernel_rfl))) (fun ρ m => by kernel_rfl)))) (fun ρ m => by kernel_rfl))) (fun ρ m => by kernel_rfl))) (fun ρ m => by kernel_rfl)))) (fun ρ m => by kernel_rfl)))) (fun ρ m => by kernel_rfl))) (seqQ (f := fun ρ m => Qtr G (ρ 12) (ρ 0) m) (fun ρ m => by kernel_rfl))) (fun ρ m => by kernel_rfl))) (fun ρ m => by kernel_rfl)) m
def Q1dq : Entry Go.Proofs.Tryz.prog := ⟨Q190, Go.Proofs.Tryz.f74, Go.Proofs.Tryz.func74, by kernel_rfl, arg1 (fun G a0 m => Q121 G a0 m), okarg1 Q1dp⟩
def Qbs (G : Gt) (p0 p1 : Value) (m : Mem) : Option Rs :=
  bp (pur (aNilCheck p0) m) fun x0 m =>
  bp (pur (aFieldAddr 13 x0) m) fun x1 m =>
  bp (pur (aLoad false 1 x1 m) m) fun x2 m =>
  bp (aBuildSlice Q2 [(.string ⟨#[]⟩)] 1 3 [(0, (.string ⟨#[105, 110]⟩)), (1, x2), (2, (.string ⟨#[46]⟩))] m) fun x3 m =>
  bp (apS Q2 1 16 x3 p1 m) fun x4 m =>
  bp (G.tab Q4m [p0, x4] m) fun x5 m =>
  some (.tuple ⟨[]⟩, m)
theorem Q10l (G : Gt) (a0 a1 : Value) (m : Mem) : evFn Go.Proofs.Tryz.prog G.tab G.rds (drOf Go.Proofs.Tryz.prog G.tab) Go.Proofs.Tryz.f75 [a0, a1] m = Qbs G a0 a1 m :=
  evFn_of (r := fun ρ m => Qbs G (ρ 0) (ρ 1) m) rfl rfl (fun ρ m => by kernel_rfl) m
def Q10m : Entry Go.Proofs.Tryz.prog := ⟨Qf, Go.Proofs.Tryz.f75, Go.Proofs.Tryz.func75, by kernel_rfl, arg2 (fun G a0 a1 m => Qbs G a0 a1 m), okarg2 Q10l⟩
def Qbt (G : Gt) (p3 : Value) (m : Mem) : Option Rs :=
  some (p3, m)
def Qn5 (G : Gt) (p4 p0 p3 : Value) (m : Mem) : Option Rs :=
  bp (pur (bin .neq true true .int p4 (.int .i64 0)) m) fun x0 m =>
  brb x0
    (bp (G.tab Q8 [p0, (.int .i64 130)] m) fun x1 m =>
  Qbt G p3 m)
    (Qbt G p3 m)
def Qn6 (G : Gt) (p0 : Value) (m : Mem) : Option Rs :=
  bp (G.tab Qg [p0] m) fun x2 m =>
  bp (G.tab Qvq [x2] m) fun x3 m =>
  bp (pur (aExtract x3 0) m) fun x4 m =>
  bp (pur (aExtract x3 1) m) fun x5 m =>
  Qn5 G x5 p0 x4 m
def Qf6 (G : Gt) (p0 : Value) (m : Mem) : Option Rs :=
  Qn6 G p0 m
theorem Q141 (G : Gt) (a0 : Value) (m : Mem) : evFn Go.Proofs.Tryz.prog G.tab G.rds (drOf Go.Proofs.Tryz.prog G.tab) Go.Proofs.Tryz.f76 [a0] m = Qf6 G a0 m :=
  evFn_of (r := fun ρ m => Qf6 G (ρ 0) m) rfl rfl (tr (seqQ (f := fun ρ m => Qn6 G (ρ 0) m) (tr (seqQ (f := fun ρ m => Qn5 G (ρ 4) (ρ 0) (ρ 3) m) (tr (seqQ (f := fun ρ m => Qbt G (ρ 3) m) (fun ρ m => by kernel_rfl)) (fun ρ m => by kernel_rfl))) (fun ρ m => by kernel_rfl))) (fun ρ m => by kernel_rfl)) m
def Q142 : Entry Go.Proofs.Tryz.prog := ⟨Qt, Go.Proofs.Tryz.f76, Go.Proofs.Tryz.func76, by kernel_rfl, arg1 (fun G a0 m => Qf6 G a0 m), okarg1 Q141⟩
def Qbu (G : Gt) (p6 : Value) (m : Mem) : Option Rs :=
  some (p6, m)
def Qn7 (G : Gt) (p7 p0 p6 : Value) (m : Mem) : Option Rs :=
  bp (pur (bin .neq true true .int p7 (.int .i64 0)) m) fun x0 m =>
  brb x0
    (bp (G.tab Q8 [p0, (.int .i64 10)] m) fun x1 m =>
  Qbu G p6 m)
    (Qbu G p6 m)
def Qbv (G : Gt) (p5 p0 : Value) (m : Mem) : Option Rs :=
  bp (G.tab Q187 [p5] m) fun x2 m =>
  bp (pur (aExtract x2 0) m) fun x3 m =>
  bp (pur (aExtract x2 1) m) fun x4 m =>
  Qn7 G x4 p0 x3 m
def Qn8 (G : Gt) (p1 p5 p0 : Value) (m : Mem) : Option Rs :=
  brb p1
    (bp (pur (un .xor p5) m) fun x5 m =>
  Qbv G x5 p0 m)
    (Qbv G p5 p0 m)
def Qn9 (G : Gt) (p0 p1 : Value) (m : Mem) : Option Rs :=
  bp (G.tab Qt [p0] m) fun x6 m =>
  Qn8 G p1 x6 p0 m
def Qf7 (G : Gt) (p0 p1 : Value) (m : Mem) : Option Rs :=
  Qn9 G p0 p1 m
theorem Q143 (G : Gt) (a0 a1 : Value) (m : Mem) : evFn Go.Proofs.Tryz.prog G.tab G.rds (drOf Go.Proofs.Tryz.prog G.tab) Go.Proofs.Tryz.f77 [a0, a1] m = Qf7 G a0 a1 m :=
  evFn_of (r := fun ρ m => Qf7 G (ρ 0) (ρ 1) m) rfl rfl (tr (seqQ (f := fun ρ m => Qn9 G (ρ 0) (ρ 1) m) (tr (seqQ (f := fun ρ m => Qn8 G (ρ 1) (ρ 5) (ρ 0) m) (tr (seqQ (f := fun ρ m => Qbv G (ρ 5) (ρ 0) m) (tr (seqQ (f := fun ρ m => Qn7 G (ρ 7) (ρ 0) (ρ 6) m) (tr (seqQ (f := fun ρ m => Qbu G (ρ 6) m) (fun ρ m => by kernel_rfl)) (fun ρ m => by kernel_rfl))) (fun ρ m => by kernel_rfl))) (fun ρ m => by kernel_rfl))) (fun ρ m => by kernel_rfl))) (fun ρ m => by kernel_rfl)) m
def Q144 : Entry Go.Proofs.Tryz.prog := ⟨Q5v, Go.Proofs.Tryz.f77, Go.Proofs.Tryz.func77, by kernel_rfl, arg2 (fun G a0 a1 m => Qf7 G a0 a1 m), okarg2 Q143⟩
def Qh8 (G : Gt) (p0 : Value) (m : Mem) : Option Rs :=
  bp (G.tab Qd [p0, (.string ⟨#[118, 114, 102]⟩)] m) fun x0 m =>
  brb x0
    (bp (G.tab Qh [p0] m) fun x1 m =>
  some (x1, m))
    (some ((.string ⟨#[]⟩), m))
theorem Q15r (G : Gt) (a0 : Value) (m : Mem) : evFn Go.Proofs.Tryz.prog G.tab G.rds (drOf Go.Proofs.Tryz.prog G.tab) Go.Proofs.Tryz.f78 [a0] m = Qh8 G a0 m :=
  evFn_of (r := fun ρ m => Qh8 G (ρ 0) m) rfl rfl (fun ρ m => by kernel_rfl) m
def Q15s : Entry Go.Proofs.Tryz.prog := ⟨Qa0, Go.Proofs.Tryz.f78, Go.Proofs.Tryz.func78, by kernel_rfl, arg1 (fun G a0 m => Qh8 G a0 m), okarg1 Q15r⟩
def Qdl (G : Gt) (p7 p6 : Value) (m : Mem) : Option Rs :=
  bp (pur (aLoad true 2 p7 m) m) fun x0 m =>
  bp (unt (aStore 2 p6 x0 m)) fun _ m =>
  ob (ob (aLoad true 2 p6 m) fun v => ob (some []) fun l => some (v :: l)) fun l => some (resVal l, m)
def Qpj (G : Gt) (p7 p0 p6 : Value) (m : Mem) : Option Rs :=
  bp (pur (aLoad true 2 p7 m) m) fun x1 m =>
  bp (G.tab Q6t [x1] m) fun x2 m =>
  bp (pur (bin .neq true true .int x2 (.int .i64 0)) m) fun x3 m =>
  brb x3
    (bp (G.tab Q8 [p0, (.int .i64 10)] m) fun x4 m =>
  Qdl G p7 p6 m)
    (Qdl G p7 p6 m)
def Qpk (G : Gt) (p1 p2 p0 p6 : Value) (m : Mem) : Option Rs :=
  bp (pur (aBuild Q19 [(0, 1), (1, 1)] [(0, p1), (1, p2)]) m) fun x5 m =>
  bp (some (aNew Q1d Q19 m)) fun x6 m =>
  bp (unt (aStore 2 x6 x5 m)) fun _ m =>
  Qpj G x6 p0 p6 m
def Qh9 (G : Gt) (p1 p2 p0 : Value) (m : Mem) : Option Rs :=
  bp (some (aNew Q1d Q19 m)) fun x7 m =>
  Qpk G p1 p2 p0 x7 m
theorem Q15t (G : Gt) (a0 a1 a2 : Value) (m : Mem) : evFn Go.Proofs.Tryz.prog G.tab G.rds (drOf Go.Proofs.Tryz.prog G.tab) Go.Proofs.Tryz.f79 [a0, a1, a2] m = Qh9 G a1 a2 a0 m :=
  evFn_of (r := fun ρ m => Qh9 G (ρ 1) (ρ 2) (ρ 0) m) rfl rfl (tr (seqQ (f := fun ρ m => Qpk G (ρ 1) (ρ 2) (ρ 0) (ρ 6) m) (tr (seqQ (f := fun ρ m => Qpj G (ρ 7) (ρ 0) (ρ 6) m) (tr (seqQ (f := fun ρ m => Qdl G (ρ 7) (ρ 6) m) (fun ρ m => by kernel_rfl)) (fun ρ m => by kernel_rfl))) (fun ρ m => by kernel_rfl))) (fun ρ m => by kernel_rfl)) m
def Q15u : Entry Go.Proofs.Tryz.prog := ⟨Q9z, Go.Proofs.Tryz.f79, Go.Proofs.Tryz.func79, by kernel_rfl, arg3 (fun G a0 a1 a2 m => Qh9 G a1 a2 a0 m), okarg3 Q15t⟩
end
end Go.Ab.Sh
