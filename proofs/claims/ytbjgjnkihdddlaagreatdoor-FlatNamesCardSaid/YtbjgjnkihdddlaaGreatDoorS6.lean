/-
  Functions of the program as plain definitions, each with the theorem that it is what the evaluator makes of the code. No conditions.
-/
import Derived.Test.YtbjgjnkihdddlaaGreatDoorAb4
import Derived.Test.YtbjgjnkihdddlaaGreatDoorZ
import Derived.KernelRfl
import Derived.Test.YtbjgjnkihdddlaaGreatDoorProg
set_option linter.unusedVariables false
set_option maxRecDepth 100000
namespace Go.Ab.Sh
open Go Go.Ab
noncomputable section
def Qa9 (G : Gt) (p0 p5 : Value) (m : Mem) : Option Rs :=
  bp (aBuildSlice Q2 [(.string ⟨#[]⟩)] 1 1 [(0, p5)] m) fun x5 m =>
  bp (G.tab Qf [p0, x5] m) fun x6 m =>
  some (.tuple ⟨[]⟩, m)
def Qku (G : Gt) (p4 p1 p0 p5 : Value) (m : Mem) : Option Rs :=
  bp (pur (aNilCheck p4) m) fun x7 m =>
  bp (pur (aFieldAddr 3 x7) m) fun x8 m =>
  bp (pur (aLoad false 1 x8 m) m) fun x9 m =>
  bp (pur (bin .eql true true .int x9 (.int .i64 0)) m) fun x10 m =>
  brb x10
    (bp (G.tab Q8 [p1, (.int .i64 10)] m) fun x11 m =>
  Qa9 G p0 p5 m)
    (Qa9 G p0 p5 m)
def Qkv (G : Gt) (p4 p1 p0 p5 : Value) (m : Mem) : Option Rs :=
  bp (G.tab Q5v [p1, (.bool false)] m) fun x12 m =>
  bp (pur (aNilCheck p4) m) fun x13 m =>
  bp (pur (aFieldAddr 3 x13) m) fun x14 m =>
  bp (unt (aStore 1 x14 x12 m)) fun _ m =>
  Qku G p4 p1 p0 p5 m
def Q5q (G : Gt) (p0 p5 p1 : Value) (m : Mem) : Option Rs :=
  bp (pur (aNilCheck p1) m) fun x39 m =>
  bp (pur (aFieldAddr 0 x39) m) fun x40 m =>
  bp (pur (aLoad false 1 x40 m) m) fun x41 m =>
  bp (pur (aNilCheck p1) m) fun x42 m =>
  bp (pur (aFieldAddr 0 x42) m) fun x43 m =>
  bp (pur (aLoad false 1 x43 m) m) fun x44 m =>
  bp (pur (lenK 1 x44 m) m) fun x45 m =>
  bp (pur (bin .rem true true .int (.int .i64 1) x45) m) fun x46 m =>
  bp (pur (aIndexAddrSl 3 x41 x46) m) fun x47 m =>
  bp (pur (aFieldAddr 0 x47) m) fun x48 m =>
  bp (pur (aLoad false 1 x48 m) m) fun x49 m =>
  bp (aBuildSlice Q2 [(.string ⟨#[]⟩)] 1 2 [(0, p5), (1, x49)] m) fun x50 m =>
  bp (G.tab Qf [p0, x50] m) fun x51 m =>
  some (.tuple ⟨[]⟩, m)
def Qiq (G : Gt) (p7 p4 p1 p0 p5 : Value) (m : Mem) : Option Rs :=
  bp (pur (bin .eql true true .int p7 (.int .i64 0)) m) fun x52 m =>
  brb x52
    (bp (G.tab Q3 [p1, (.int .i64 0), (.int .i64 16777216)] m) fun x53 m =>
  bp (pur (aNilCheck p4) m) fun x54 m =>
  bp (pur (aFieldAddr 8 x54) m) fun x55 m =>
  bp (unt (aStore 1 x55 x53 m)) fun _ m =>
  Q5q G p0 p5 p1 m)
    (bp (pur (bin .eql true true .int p7 (.int .i64 1)) m) fun x56 m =>
  brb x56
    (bp (G.tab Q3 [p1, (.int .i64 1), (.int .i64 65535)] m) fun x57 m =>
  bp (pur (aNilCheck p4) m) fun x58 m =>
  bp (pur (aFieldAddr 9 x58) m) fun x59 m =>
  bp (unt (aStore 1 x59 x57 m)) fun _ m =>
  Q5q G p0 p5 p1 m)
    (bp (pur (aNilCheck p4) m) fun x60 m =>
  bp (pur (aFieldAddr 10 x60) m) fun x61 m =>
  bp (unt (aStore 1 x61 (.bool true) m)) fun _ m =>
  Q5q G p0 p5 p1 m))
def Qir (G : Gt) (p99 p1 p4 p0 p5 p23 : Value) (m : Mem) : Option Rs :=
  brb p99
    (bp (aBuildSlice Q2 [(.string ⟨#[]⟩)] 1 3 [(0, (.string ⟨#[97, 114, 101, 97]⟩)), (1, (.string ⟨#[99, 111, 115, 116]⟩)), (2, (.string ⟨#[112, 97, 115, 115, 105, 118, 101]⟩))] m) fun x62 m =>
  bp (G.tab Qs [p1, x62] m) fun x63 m =>
  Qiq G x63 p4 p1 p0 p5 m)
    (bp (pur (bin .eql true true .str p23 (.string ⟨#[115, 104, 117, 116, 100, 111, 119, 110]⟩)) m) fun x64 m =>
  brb x64
    (bp (pur (aNilCheck p4) m) fun x65 m =>
  bp (pur (aFieldAddr 4 x65) m) fun x66 m =>
  bp (unt (aStore 1 x66 (.bool true) m)) fun _ m =>
  bp (aBuildSlice Q2 [(.string ⟨#[]⟩)] 1 1 [(0, p5)] m) fun x67 m =>
  bp (G.tab Qf [p0, x67] m) fun x68 m =>
  some (.tuple ⟨[]⟩, m))
    (bp (G.tab Q8 [p1, (.int .i64 130)] m) fun x69 m =>
  some (.tuple ⟨[]⟩, m)))
def Qkw (G : Gt) (p84 p4 p1 p0 p5 p23 : Value) (m : Mem) : Option Rs :=
  brb p84
    (bp (aBuildSlice Q3a [(.int .u8 0)] 1 2 [(0, (.int .u8 1)), (1, (.int .u8 2))] m) fun x30 m =>
  bp (aBuildSlice Q2 [(.string ⟨#[]⟩)] 1 2 [(0, (.string ⟨#[105, 110, 115, 105, 100, 101]⟩)), (1, (.string ⟨#[111, 117, 116, 115, 105, 100, 101]⟩))] m) fun x31 m =>
  bp (G.tab Qs [p1, x31] m) fun x32 m =>
  bp (pur (aIndexAddrSl 1 x30 x32) m) fun x33 m =>
  bp (pur (aLoad false 1 x33 m) m) fun x34 m =>
  bp (pur (aNilCheck p4) m) fun x35 m =>
  bp (pur (aFieldAddr 7 x35) m) fun x36 m =>
  bp (unt (aStore 1 x36 x34 m)) fun _ m =>
  bp (aBuildSlice Q2 [(.string ⟨#[]⟩)] 1 1 [(0, p5)] m) fun x37 m =>
  bp (G.tab Qf [p0, x37] m) fun x38 m =>
  some (.tuple ⟨[]⟩, m))
    (bp (pur (bin .eql true true .str p23 (.string ⟨#[111, 115, 112, 102]⟩)) m) fun x70 m =>
  Qir G x70 p1 p4 p0 p5 p23 m)
def Qkx (G : Gt) (p60 p1 p4 p0 p5 p23 : Value) (m : Mem) : Option Rs :=
  brb p60
    (bp (G.tab Qh [p1] m) fun x18 m =>
  bp (aBuildSlice Q2 [(.string ⟨#[]⟩)] 1 2 [(0, (.string ⟨#[105, 110]⟩)), (1, (.string ⟨#[111, 117, 116]⟩))] m) fun x19 m =>
  bp (G.tab Qs [p1, x19] m) fun x20 m =>
  bp (pur (bin .eql true true .int x20 (.int .i64 0)) m) fun x21 m =>
  brb x21
    (bp (pur (aNilCheck p4) m) fun x22 m =>
  bp (pur (aFieldAddr 5 x22) m) fun x23 m =>
  bp (unt (aStore 1 x23 x18 m)) fun _ m =>
  bp (aBuildSlice Q2 [(.string ⟨#[]⟩)] 1 2 [(0, p5), (1, (.string ⟨#[105, 110]⟩))] m) fun x24 m =>
  bp (G.tab Qf [p0, x24] m) fun x25 m =>
  some (.tuple ⟨[]⟩, m))
    (bp (pur (aNilCheck p4) m) fun x26 m =>
  bp (pur (aFieldAddr 6 x26) m) fun x27 m =>
  bp (unt (aStore 1 x27 x18 m)) fun _ m =>
  bp (aBuildSlice Q2 [(.string ⟨#[]⟩)] 1 2 [(0, p5), (1, (.string ⟨#[111, 117, 116]⟩))] m) fun x28 m =>
  bp (G.tab Qf [p0, x28] m) fun x29 m =>
  some (.tuple ⟨[]⟩, m)))
    (bp (pur (bin .eql true true .str p23 (.string ⟨#[110, 97, 116]⟩)) m) fun x71 m =>
  Qkw G x71 p4 p1 p0 p5 p23 m)
def Qky (G : Gt) (p37 p4 p1 p0 p5 p23 : Value) (m : Mem) : Option Rs :=
  brb p37
    (bp (G.tab Qt [p1] m) fun x15 m =>
  bp (pur (aNilCheck p4) m) fun x16 m =>
  bp (pur (aFieldAddr 2 x16) m) fun x17 m =>
  bp (unt (aStore 1 x17 x15 m)) fun _ m =>
  Qkv G p4 p1 p0 p5 m)
    (bp (pur (bin .eql true true .str p23 (.string ⟨#[102, 105, 108, 116, 101, 114]⟩)) m) fun x72 m =>
  Qkx G x72 p1 p4 p0 p5 p23 m)
def Qkz (G : Gt) (p26 p4 p1 p0 p5 p23 : Value) (m : Mem) : Option Rs :=
  brb p26
    (bp (G.tab Qh [p1] m) fun x0 m =>
  bp (pur (aNilCheck p4) m) fun x1 m =>
  bp (pur (aFieldAddr 1 x1) m) fun x2 m =>
  bp (unt (aStore 1 x2 x0 m)) fun _ m =>
  bp (aBuildSlice Q2 [(.string ⟨#[]⟩)] 1 1 [(0, p5)] m) fun x3 m =>
  bp (G.tab Qf [p0, x3] m) fun x4 m =>
  some (.tuple ⟨[]⟩, m))
    (bp (pur (bin .eql true true .str p23 (.string ⟨#[97, 100, 100, 114, 101, 115, 115]⟩)) m) fun x73 m =>
  Qky G x73 p4 p1 p0 p5 p23 m)
def Ql0 (G : Gt) (p23 p4 p1 p0 p5 : Value) (m : Mem) : Option Rs :=
  bp (pur (bin .eql true true .str p23 (.string ⟨#[118, 114, 102]⟩)) m) fun x74 m =>
  Qkz G x74 p4 p1 p0 p5 p23 m
def Ql1 (G : Gt) (p5 p4 p1 p0 : Value) (m : Mem) : Option Rs :=
  Ql0 G p5 p4 p1 p0 p5 m
def Ql2 (G : Gt) (p1 p4 p0 : Value) (m : Mem) : Option Rs :=
  bp (G.tab Qg [p1] m) fun x75 m =>
  Ql1 G x75 p4 p1 p0 m
def Qdd (G : Gt) (p0 p1 : Value) (m : Mem) : Option Rs :=
  bp (pur (aNilCheck p0) m) fun x76 m =>
  bp (pur (aFieldAddr 0 x76) m) fun x77 m =>
  bp (pur (aFieldAddr 3 x77) m) fun x78 m =>
  bp (pur (aLoad false 1 x78 m) m) fun x79 m =>
  bp (pur (aNilCheck p0) m) fun x80 m =>
  bp (pur (aFieldAddr 0 x80) m) fun x81 m =>
  bp (pur (aFieldAddr 3 x81) m) fun x82 m =>
  bp (pur (aLoad false 1 x82 m) m) fun x83 m =>
  bp (pur (lenK 1 x83 m) m) fun x84 m =>
  bp (pur (bin .sub true true .int x84 (.int .i64 1)) m) fun x85 m =>
  bp (pur (aIndexAddrSl 11 x79 x85) m) fun x86 m =>
  Ql2 G p1 x86 p0 m
theorem Q11z (G : Gt) (a0 a1 : Value) (m : Mem) : evFn Go.Proofs.Tryz.prog G.tab G.rds (drOf Go.Proofs.Tryz.prog G.tab) Go.Proofs.Tryz.f43 [a0, a1] m = Qdd G a0 a1 m :=
  evFn_of (r := fun ρ m => Qdd G (ρ 0) (ρ 1) m) rfl rfl (tr (seqQ (f := fun ρ m => Ql2 G (ρ 1) (ρ 4) (ρ 0) m) (tr (seqQ (f := fun ρ m => Ql1 G (ρ 5) (ρ 4) (ρ 1) (ρ 0) m) (tr (seqQ (f := fun ρ m => Ql0 G (ρ 23) (ρ 4) (ρ 1) (ρ 0) (ρ 5) m) (tr (blockQ (seqQ (f := fun ρ m => Qkz G (ρ 26) (ρ 4) (ρ 1) (ρ 0) (ρ 5) (ρ 23) m) (tr (condQ (refQ) (seqQ (f := fun ρ m => Qky G (ρ 37) (ρ 4) (ρ 1) (ρ 0) (ρ 5) (ρ 23) m) (tr (condQ (seqQ (f := fun ρ m => Qkv G (ρ 4) (ρ 1) (ρ 0) (ρ 5) m) (tr (seqQ (f := fun ρ m => Qku G (ρ 4) (ρ 1) (ρ 0) (ρ 5) m) (tr (seqQ (f := fun ρ m => Qa9 G (ρ 0) (ρ 5) m) (fun ρ m => by kernel_rfl)) (fun ρ m => by kernel_rfl))) (fun ρ m => by kernel_rfl))) (seqQ (f := fun ρ m => Qkx G (ρ 60) (ρ 1) (ρ 4) (ρ 0) (ρ 5) (ρ 23) m) (tr (condQ (refQ) (seqQ (f := fun ρ m => Qkw G (ρ 84) (ρ 4) (ρ 1) (ρ 0) (ρ 5) (ρ 23) m) (tr (condQ (refQ) (seqQ (f := fun ρ m => Qir G (ρ 99) (ρ 1) (ρ 4) (ρ 0) (ρ 5) (ρ 23) m) (tr (condQ (seqQ (f := fun ρ m => Qiq G (ρ 7) (ρ 4) (ρ 1) (ρ 0) (ρ 5) m) (tr (seqQ (f := fun ρ m => Q5q G (ρ 0) (ρ 5) (ρ 1) m) (fun ρ m => by kernel_rfl)) (fun ρ m => by kernel_rfl))) (refQ)) (fun ρ m => by kernel_rfl)))) (fun ρ m => by kernel_rfl)))) (fun ρ m => by kernel_rfl)))) (fun ρ m => by kernel_rfl)))) (fun ρ m => by kernel_rfl)))) (fun ρ m => by kernel_rfl))) (fun ρ m => by kernel_rfl))) (fun ρ m => by kernel_rfl))) (fun ρ m => by kernel_rfl)) m
def Q120 : Entry Go.Proofs.Tryz.prog := ⟨Qow, Go.Proofs.Tryz.f43, Go.Proofs.Tryz.func43, by kernel_rfl, arg2 (fun G a0 a1 m => Qdd G a0 a1 m), okarg2 Q11z⟩
def Qf2 (G : Gt) (p4 p5 : Value) (m : Mem) : Option Rs :=
  bp (pur (aNilCheck p4) m) fun x0 m =>
  bp (pur (aFieldAddr 6 x0) m) fun x1 m =>
  bp (pur (aLoad false 1 x1 m) m) fun x2 m =>
  bp (pur (aLoad true 7 p5 m) m) fun x3 m =>
  bp (aBuildSlice Qbe Qgt 7 1 [(0, x3)] m) fun x4 m =>
  bp (apS Qbe 7 56 x2 x4 m) fun x5 m =>
  bp (pur (aNilCheck p4) m) fun x6 m =>
  bp (pur (aFieldAddr 6 x6) m) fun x7 m =>
  bp (unt (aStore 1 x7 x5 m)) fun _ m =>
  some (.tuple ⟨[]⟩, m)
def Qf3 (G : Gt) (p1 p5 p4 : Value) (m : Mem) : Option Rs :=
  bp (G.tab Qd [p1, (.string ⟨#[116, 97, 103]⟩)] m) fun x8 m =>
  brb x8
    (bp (G.tab Q3 [p1, (.int .i64 0), (.int .i64 16777216)] m) fun x9 m =>
  bp (pur (aFieldAddr 6 p5) m) fun x10 m =>
  bp (unt (aStore 1 x10 x9 m)) fun _ m =>
  Qf2 G p4 p5 m)
    (Qf2 G p4 p5 m)
def Qf4 (G : Gt) (p1 p5 p4 : Value) (m : Mem) : Option Rs :=
  bp (G.tab Qd [p1, (.string ⟨#[100, 105, 115, 116, 97, 110, 99, 101]⟩)] m) fun x11 m =>
  brb x11
    (bp (G.tab Q3 [p1, (.int .i64 1), (.int .i64 255)] m) fun x12 m =>
  bp (pur (aFieldAddr 5 p5) m) fun x13 m =>
  bp (unt (aStore 1 x13 x12 m)) fun _ m =>
  Qf3 G p1 p5 p4 m)
    (Qf3 G p1 p5 p4 m)
def Qqs (G : Gt) (p1 p5 p4 : Value) (m : Mem) : Option Rs :=
  bp (G.tab Qd [p1, (.string ⟨#[100, 105, 115, 99, 97, 114, 100]⟩)] m) fun x14 m =>
  bp (pur (aFieldAddr 4 p5) m) fun x15 m =>
  bp (unt (aStore 1 x15 x14 m)) fun _ m =>
  bp (pur (aFieldAddr 4 p5) m) fun x16 m =>
  bp (pur (aLoad false 1 x16 m) m) fun x17 m =>
  bp (pur (un .not x17) m) fun x18 m =>
  brb x18
    (bp (G.tab Qgo [p1] m) fun x19 m =>
  bp (pur (aFieldAddr 3 p5) m) fun x20 m =>
  bp (unt (aStore 1 x20 x19 m)) fun _ m =>
  Qf4 G p1 p5 p4 m)
    (Qf4 G p1 p5 p4 m)
def Qqt (G : Gt) (p1 p6 p5 p4 : Value) (m : Mem) : Option Rs :=
  bp (G.tab Q5v [p1, (.bool false)] m) fun x21 m =>
  bp (G.tab Q9z [p1, p6, x21] m) fun x22 m =>
  bp (pur (aFieldAddr 1 p5) m) fun x23 m =>
  bp (unt (aStore 2 x23 x22 m)) fun _ m =>
  Qqs G p1 p5 p4 m
def Qqu (G : Gt) (p1 p5 p4 : Value) (m : Mem) : Option Rs :=
  bp (G.tab Qt [p1] m) fun x24 m =>
  Qqt G p1 x24 p5 p4 m
def Qde (G : Gt) (p4 p10 p9 : Value) (m : Mem) : Option Rs :=
  bp (pur (aNilCheck p4) m) fun x39 m =>
  bp (pur (aFieldAddr 7 x39) m) fun x40 m =>
  bp (pur (aLoad false 1 x40 m) m) fun x41 m =>
  bp (pur (aNilCheck p4) m) fun x42 m =>
  bp (pur (aFieldAddr 7 x42) m) fun x43 m =>
  bp (pur (aLoad false 1 x43 m) m) fun x44 m =>
  bp (pur (aIndexAddrSl 2 x44 p10) m) fun x45 m =>
  bp (pur (aFieldAddr 1 x45) m) fun x46 m =>
  bp (pur (aLoad false 1 x46 m) m) fun x47 m =>
  bp (pur (aLoad true 5 p9 m) m) fun x48 m =>
  bp (aBuildSlice Q86 Qa5 5 1 [(0, x48)] m) fun x49 m =>
  bp (apS Q86 5 40 x47 x49 m) fun x50 m =>
  ckB (again (pur (aLoad false 1 x40 m) m) x41 && true)
    (bp (pur (aIndexAddrSl 2 x41 p10) m) fun x51 m =>
  bp (pur (aFieldAddr 1 x51) m) fun x52 m =>
  bp (unt (aStore 1 x52 x50 m)) fun _ m =>
  some (.tuple ⟨[]⟩, m))
def Qox (G : Gt) (p10 p4 p8 p9 : Value) (m : Mem) : Option Rs :=
  bp (pur (bin .lss true true .int p10 (.int .i64 0)) m) fun x53 m =>
  brb x53
    (bp (pur (aNilCheck p4) m) fun x54 m =>
  bp (pur (aFieldAddr 7 x54) m) fun x55 m =>
  bp (pur (aLoad false 1 x55 m) m) fun x56 m =>
  bp (pur (lenK 1 x56 m) m) fun x57 m =>
  bp (pur (aNilCheck p4) m) fun x58 m =>
  bp (pur (aFieldAddr 7 x58) m) fun x59 m =>
  bp (pur (aLoad false 1 x59 m) m) fun x60 m =>
  bp (pur (aLoad false 1 p8 m) m) fun x61 m =>
  bp (pur (aBuild Q62 [(0, 1), (1, 1)] [(0, x61)]) m) fun x62 m =>
  bp (aBuildSlice Q2m Q62 2 1 [(0, x62)] m) fun x63 m =>
  bp (apS Q2m 2 40 x60 x63 m) fun x64 m =>
  bp (pur (aNilCheck p4) m) fun x65 m =>
  bp (pur (aFieldAddr 7 x65) m) fun x66 m =>
  bp (unt (aStore 1 x66 x64 m)) fun _ m =>
  Qde G p4 x57 p9 m)
    (Qde G p4 p10 p9 m)
def Qoy (G : Gt) (p4 p8 p9 : Value) (m : Mem) : Option Rs :=
  bp (pur (aNilCheck p4) m) fun x67 m =>
  bp (pur (aFieldAddr 7 x67) m) fun x68 m =>
  bp (pur (aLoad false 1 x68 m) m) fun x69 m =>
  bp (G.tab Q1a [x69, (.func (.func Qqv) ⟨[]⟩ ⟨[p8]⟩)] m) fun x70 m =>
  Qox G x70 p4 p8 p9 m
def Qoz (G : Gt) (p1 p4 p8 : Value) (m : Mem) : Option Rs :=
  bp (G.tab Qp0 [p1] m) fun x71 m =>
  bp (some (aNew Q86 Qa5 m)) fun x72 m =>
  bp (unt (aStore 5 x72 x71 m)) fun _ m =>
  Qoy G p4 p8 x72 m
def Qdf (G : Gt) (p4 p13 p12 : Value) (m : Mem) : Option Rs :=
  bp (pur (aNilCheck p4) m) fun x75 m =>
  bp (pur (aFieldAddr 8 x75) m) fun x76 m =>
  bp (pur (aLoad false 1 x76 m) m) fun x77 m =>
  bp (pur (aNilCheck p4) m) fun x78 m =>
  bp (pur (aFieldAddr 8 x78) m) fun x79 m =>
  bp (pur (aLoad false 1 x79 m) m) fun x80 m =>
  bp (pur (aIndexAddrSl 2 x80 p13) m) fun x81 m =>
  bp (pur (aFieldAddr 1 x81) m) fun x82 m =>
  bp (pur (aLoad false 1 x82 m) m) fun x83 m =>
  bp (pur (aLoad true 2 p12 m) m) fun x84 m =>
  bp (aBuildSlice Qb8 Qgk 2 1 [(0, x84)] m) fun x85 m =>
  bp (apS Qb8 2 32 x83 x85 m) fun x86 m =>
  ckB (again (pur (aLoad false 1 x76 m) m) x77 && true)
    (bp (pur (aIndexAddrSl 2 x77 p13) m) fun x87 m =>
  bp (pur (aFieldAddr 1 x87) m) fun x88 m =>
  bp (unt (aStore 1 x88 x86 m)) fun _ m =>
  some (.tuple ⟨[]⟩, m))
def Qp1 (G : Gt) (p13 p4 p11 p12 : Value) (m : Mem) : Option Rs :=
  bp (pur (bin .lss true true .int p13 (.int .i64 0)) m) fun x89 m =>
  brb x89
    (bp (pur (aNilCheck p4) m) fun x90 m =>
  bp (pur (aFieldAddr 8 x90) m) fun x91 m =>
  bp (pur (aLoad false 1 x91 m) m) fun x92 m =>
  bp (pur (lenK 1 x92 m) m) fun x93 m =>
  bp (pur (aNilCheck p4) m) fun x94 m =>
  bp (pur (aFieldAddr 8 x94) m) fun x95 m =>
  bp (pur (aLoad false 1 x95 m) m) fun x96 m =>
  bp (pur (aLoad false 1 p11 m) m) fun x97 m =>
  bp (pur (aBuild Q3y [(0, 1), (1, 1)] [(0, x97)]) m) fun x98 m =>
  bp (aBuildSlice Q24 Q3y 2 1 [(0, x98)] m) fun x99 m =>
  bp (apS Q24 2 40 x96 x99 m) fun x100 m =>
  bp (pur (aNilCheck p4) m) fun x101 m =>
  bp (pur (aFieldAddr 8 x101) m) fun x102 m =>
  bp (unt (aStore 1 x102 x100 m)) fun _ m =>
  Qdf G p4 x93 p12 m)
    (Qdf G p4 p13 p12 m)
def Qp2 (G : Gt) (p4 p11 p12 : Value) (m : Mem) : Option Rs :=
  bp (pur (aNilCheck p4) m) fun x103 m =>
  bp (pur (aFieldAddr 8 x103) m) fun x104 m =>
  bp (pur (aLoad false 1 x104 m) m) fun x105 m =>
  bp (G.tab Q11 [x105, (.func (.func Q140) ⟨[]⟩ ⟨[p11]⟩)] m) fun x106 m =>
  Qp1 G x106 p4 p11 p12 m
def Qp3 (G : Gt) (p1 p4 p11 : Value) (m : Mem) : Option Rs :=
  bp (aBuildSlice Q2 [(.string ⟨#[]⟩)] 1 2 [(0, (.string ⟨#[112, 101, 114, 109, 105, 116]⟩)), (1, (.string ⟨#[100, 101, 110, 121]⟩))] m) fun x107 m =>
  bp (G.tab Qs [p1, x107] m) fun x108 m =>
  bp (pur (bin .eql true true .int x108 (.int .i64 0)) m) fun x109 m =>
  bp (G.tab Qdc [p1] m) fun x110 m =>
  bp (pur (aBuild Qgk [(0, 1), (1, 1)] [(0, x109), (1, x110)]) m) fun x111 m =>
  bp (some (aNew Qb8 Qgk m)) fun x112 m =>
  bp (unt (aStore 2 x112 x111 m)) fun _ m =>
  Qp2 G p4 p11 x112 m
def Qp4 (G : Gt) (p133 p1 p4 p19 : Value) (m : Mem) : Option Rs :=
  brb p133
    (bp (G.tab Qh [p1] m) fun x113 m =>
  bp (some (aNew Q2 [(.string ⟨#[]⟩)] m)) fun x114 m =>
  bp (unt (aStore 1 x114 x113 m)) fun _ m =>
  Qp3 G p1 p4 x114 m)
    (bp (pur (bin .eql true true .str p19 (.string ⟨#[110, 97, 116]⟩)) m) fun x115 m =>
  brb x115
    (bp (aBuildSlice Q2 [(.string ⟨#[]⟩)] 1 2 [(0, (.string ⟨#[115, 111, 117, 114, 99, 101]⟩)), (1, (.string ⟨#[100, 101, 115, 116, 105, 110, 97, 116, 105, 111, 110]⟩))] m) fun x116 m =>
  bp (G.tab Qs [p1, x116] m) fun x117 m =>
  bp (pur (bin .eql true true .int x117 (.int .i64 1)) m) fun x118 m =>
  bp (pur (aBuild Qe7 [(0, 1), (1, 1), (2, 1)] [(0, x118)]) m) fun x119 m =>
  bp (some (aNew Qe8 Qe7 m)) fun x120 m =>
  bp (unt (aStore 3 x120 x119 m)) fun _ m =>
  bp (G.tab Qf5 [p1, (.string ⟨#[102, 105, 108, 116, 101, 114]⟩)] m) fun x121 m =>
  bp (G.tab Qh [p1] m) fun x122 m =>
  bp (pur (aFieldAddr 1 x120) m) fun x123 m =>
  bp (unt (aStore 1 x123 x122 m)) fun _ m =>
  bp (G.tab Qf5 [p1, (.string ⟨#[116, 111]⟩)] m) fun x124 m =>
  bp (G.tab Qt [p1] m) fun x125 m =>
  bp (pur (aFieldAddr 2 x120) m) fun x126 m =>
  bp (unt (aStore 1 x126 x125 m)) fun _ m =>
  bp (pur (aNilCheck p4) m) fun x127 m =>
  bp (pur (aFieldAddr 5 x127) m) fun x128 m =>
  bp (pur (aLoad false 1 x128 m) m) fun x129 m =>
  bp (pur (aLoad true 3 x120 m) m) fun x130 m =>
  bp (aBuildSlice Qe8 Qe7 3 1 [(0, x130)] m) fun x131 m =>
  bp (apS Qe8 3 32 x129 x131 m) fun x132 m =>
  bp (pur (aNilCheck p4) m) fun x133 m =>
  bp (pur (aFieldAddr 5 x133) m) fun x134 m =>
  bp (unt (aStore 1 x134 x132 m)) fun _ m =>
  some (.tuple ⟨[]⟩, m))
    (bp (G.tab Q8 [p1, (.int .i64 130)] m) fun x135 m =>
  some (.tuple ⟨[]⟩, m)))
def Qp5 (G : Gt) (p85 p1 p4 p19 : Value) (m : Mem) : Option Rs :=
  brb p85
    (bp (G.tab Qh [p1] m) fun x73 m =>
  bp (some (aNew Q2 [(.string ⟨#[]⟩)] m)) fun x74 m =>
  bp (unt (aStore 1 x74 x73 m)) fun _ m =>
  Qoz G p1 p4 x74 m)
    (bp (pur (bin .eql true true .str p19 (.string ⟨#[99, 111, 109, 109, 117, 110, 105, 116, 121, 45, 108, 105, 115, 116]⟩)) m) fun x136 m =>
  Qp4 G x136 p1 p4 p19 m)
def Qqw (G : Gt) (p64 p1 p0 p4 p19 : Value) (m : Mem) : Option Rs :=
  brb p64
    (bp (G.tab Qh [p1] m) fun x28 m =>
  bp (aBuildSlice Q2 [(.string ⟨#[]⟩)] 1 2 [(0, (.string ⟨#[102, 105, 108, 116, 101, 114]⟩)), (1, x28)] m) fun x29 m =>
  bp (G.tab Q40 [p0, (.func (.func Qqx) ⟨[p0]⟩ ⟨[]⟩), x29] m) fun x30 m =>
  bp (pur (aNilCheck p4) m) fun x31 m =>
  bp (pur (aFieldAddr 4 x31) m) fun x32 m =>
  bp (pur (aLoad false 1 x32 m) m) fun x33 m =>
  bp (pur (aBuild Qbf [(0, 1), (1, 1)] [(0, x28)]) m) fun x34 m =>
  bp (aBuildSlice Q5b Qbf 2 1 [(0, x34)] m) fun x35 m =>
  bp (apS Q5b 2 40 x33 x35 m) fun x36 m =>
  bp (pur (aNilCheck p4) m) fun x37 m =>
  bp (pur (aFieldAddr 4 x37) m) fun x38 m =>
  bp (unt (aStore 1 x38 x36 m)) fun _ m =>
  some (.tuple ⟨[]⟩, m))
    (bp (pur (bin .eql true true .str p19 (.string ⟨#[112, 114, 101, 102, 105, 120, 45, 108, 105, 115, 116]⟩)) m) fun x137 m =>
  Qp5 G x137 p1 p4 p19 m)
def Qqy (G : Gt) (p22 p1 p4 p19 p0 : Value) (m : Mem) : Option Rs :=
  brb p22
    (bp (G.tab Qa0 [p1] m) fun x25 m =>
  bp (pur (aBuild Qgt [(0, 1), (1, 2), (3, 1), (4, 1), (5, 1), (6, 1)] [(0, x25), (4, (.int .i64 1))]) m) fun x26 m =>
  bp (some (aNew Qbe Qgt m)) fun x27 m =>
  bp (unt (aStore 7 x27 x26 m)) fun _ m =>
  Qqu G p1 x27 p4 m)
    (bp (pur (bin .eql true true .str p19 (.string ⟨#[102, 105, 108, 116, 101, 114]⟩)) m) fun x138 m =>
  Qqw G x138 p1 p0 p4 p19 m)
def Qqz (G : Gt) (p19 p1 p4 p0 : Value) (m : Mem) : Option Rs :=
  bp (pur (bin .eql true true .str p19 (.string ⟨#[114, 111, 117, 116, 101]⟩)) m) fun x139 m =>
  Qqy G x139 p1 p4 p19 p0 m
def Qr0 (G : Gt) (p1 p4 p0 : Value) (m : Mem) : Option Rs :=
  bp (G.tab Qg [p1] m) fun x140 m =>
  Qqz G x140 p1 p4 p0 m
def Qjo (G : Gt) (p0 p1 : Value) (m : Mem) : Option Rs :=
  bp (pur (aNilCheck p0) m) fun x141 m =>
  bp (pur (aFieldAddr 0 x141) m) fun x142 m =>
  Qr0 G p1 x142 p0 m
theorem Q176 (G : Gt) (a0 a1 : Value) (m : Mem) : evFn Go.Proofs.Tryz.prog G.tab G.rds (drOf Go.Proofs.Tryz.prog G.tab) Go.Proofs.Tryz.f44 [a0, a1] m = Qjo G a0 a1 m :=
  evFn_of (r := fun ρ m => Qjo G (ρ 0) (ρ 1) m) rfl rfl (tr (seqQ (f := fun ρ m => Qr0 G (ρ 1) (ρ 4) (ρ 0) m) (tr (seqQ (f := fun ρ m => Qqz G (ρ 19) (ρ 1) (ρ 4) (ρ 0) m) (tr (blockQ (seqQ (f := fun ρ m => Qqy G (ρ 22) (ρ 1) (ρ 4) (ρ 19) (ρ 0) m) (tr (condQ (seqQ (f := fun ρ m => Qqu G (ρ 1) (ρ 5) (ρ 4) m) (tr (seqQ (f := fun ρ m => Qqt G (ρ 1) (ρ 6) (ρ 5) (ρ 4) m) (tr (seqQ (f := fun ρ m => Qqs G (ρ 1) (ρ 5) (ρ 4) m) (tr (seqQ (f := fun ρ m => Qf4 G (ρ 1) (ρ 5) (ρ 4) m) (tr (seqQ (f := fun ρ m => Qf3 G (ρ 1) (ρ 5) (ρ 4) m) (tr (seqQ (f := fun ρ m => Qf2 G (ρ 4) (ρ 5) m) (fun ρ m => by kernel_rfl)) (fun ρ m => by kernel_rfl))) (fun ρ m => by kernel_rfl))) (fun ρ m => by kernel_rfl))) (fun ρ m => by kernel_rfl))) (fun ρ m => by kernel_rfl))) (seqQ (f := fun ρ m => Qqw G (ρ 64) (ρ 1) (ρ 0) (ρ 4) (ρ 19) m) (tr (condQ (refQ) (seqQ (f := fun ρ m => Qp5 G (ρ 85) (ρ 1) (ρ 4) (ρ 19) m) (tr (condQ (seqQ (f := fun ρ m => Qoz G (ρ 1) (ρ 4) (ρ 8) m) (tr (seqQ (f := fun ρ m => Qoy G (ρ 4) (ρ 8) (ρ 9) m) (tr (seqQ (f := fun ρ m => Qox G (ρ 10) (ρ 4) (ρ 8) (ρ 9) m) (tr (seqQ (f := fun ρ m => Qde G (ρ 4) (ρ 10) (ρ 9) m) (fun ρ m => by kernel_rfl)) (fun ρ m => by kernel_rfl))) (fun ρ m => by kernel_rfl))) (fun ρ m => by kernel_rfl))) (seqQ (f := fun ρ m => Qp4 G (ρ 133) (ρ 1) (ρ 4) (ρ 19) m) (tr (condQ (seqQ (f := fun ρ m => Qp3 G (ρ 1) (ρ 4) (ρ 11) m) (tr (seqQ (f := fun ρ m => Qp2 G (ρ 4) (ρ 11) (ρ 12) m) (tr (seqQ (f := fun ρ m => Qp1 G (ρ 13) (ρ 4) (ρ 11) (ρ 12) m) (tr (seqQ (f := fun ρ m => Qdf G (ρ 4) (ρ 13) (ρ 12) m) (fun ρ m => by kernel_rfl)) (fun ρ m => by kernel_rfl))) (fun ρ m => by kernel_rfl))) (fun ρ m => by kernel_rfl))) (refQ)) (fun ρ m => by kernel_rfl)))) (fun ρ m => by kernel_rfl)))) (fun ρ m => by kernel_rfl)))) (fun ρ m => by kernel_rfl)))) (fun ρ m => by kernel_rfl))) (fun ρ m => by kernel_rfl))) (fun ρ m => by kernel_rfl)) m
def Q177 : Entry Go.Proofs.Tryz.prog := ⟨Qum, Go.Proofs.Tryz.f44, Go.Proofs.Tryz.func44, by kernel_rfl, arg2 (fun G a0 a1 m => Qjo G a0 a1 m), okarg2 Q176⟩
def Qdg (G : Gt) (p5 : Value) (m : Mem) : Option Rs :=
  bp (pur (aMax p5 (.int .i64 0)) m) fun x0 m =>
  some (x0, m)
def Qp6 (G : Gt) (p5 p0 : Value) (m : Mem) : Option Rs :=
  bp (pur (bin .lss true true .int p5 (.int .i64 0)) m) fun x1 m =>
  brb x1
    (bp (G.tab Q8 [p0, (.int .i64 130)] m) fun x2 m =>
  Qdg G p5 m)
    (Qdg G p5 m)
def Qp7 (G : Gt) (p1 p0 : Value) (m : Mem) : Option Rs :=
  bp (G.tab Qg [p0] m) fun x3 m =>
  bp (G.tab Q92 [p1, x3] m) fun x4 m =>
  Qp6 G x4 p0 m
def Qgu (G : Gt) (p1 p0 : Value) (m : Mem) : Option Rs :=
  Qp7 G p1 p0 m
theorem Q15c (G : Gt) (a0 a1 : Value) (m : Mem) : evFn Go.Proofs.Tryz.prog G.tab G.rds (drOf Go.Proofs.Tryz.prog G.tab) Go.Proofs.Tryz.f45 [a0, a1] m = Qgu G a1 a0 m :=
  evFn_of (r := fun ρ m => Qgu G (ρ 1) (ρ 0) m) rfl rfl (tr (seqQ (f := fun ρ m => Qp7 G (ρ 1) (ρ 0) m) (tr (seqQ (f := fun ρ m => Qp6 G (ρ 5) (ρ 0) m) (tr (seqQ (f := fun ρ m => Qdg G (ρ 5) m) (fun ρ m => by kernel_rfl)) (fun ρ m => by kernel_rfl))) (fun ρ m => by kernel_rfl))) (fun ρ m => by kernel_rfl)) m
def Q15d : Entry Go.Proofs.Tryz.prog := ⟨Qs, Go.Proofs.Tryz.f45, Go.Proofs.Tryz.func45, by kernel_rfl, arg2 (fun G a0 a1 m => Qgu G a1 a0 m), okarg2 Q15c⟩
end
end Go.Ab.Sh

set_option linter.unusedVariables false
set_option maxRecDepth 100000
namespace Go.Ab.Sh
open Go Go.Ab
noncomputable section
def Q9d (G : Gt) (p0 p9 p8 p3 p2 p5 : Value) (m : Mem) : Option Rs :=
  bp (pur (aNilCheck p0) m) fun x0 m =>
  bp (pur (aFieldAddr 17 x0) m) fun x1 m =>
  bp (unt (aStore 1 x1 p9 m)) fun _ m =>
  bp (pur (aNilCheck p8) m) fun x2 m =>
  bp (pur (aFieldAddr 9 x2) m) fun x3 m =>
  bp (pur (aLoad false 1 x3 m) m) fun x4 m =>
  bp (pur (aNilCheck p8) m) fun x5 m =>
  bp (pur (aFieldAddr 9 x5) m) fun x6 m =>
  bp (pur (aLoad false 1 x6 m) m) fun x7 m =>
  bp (pur (aIndexAddrSl 3 x7 p9) m) fun x8 m =>
  bp (pur (aFieldAddr 1 x8) m) fun x9 m =>
  bp (pur (aLoad false 1 x9 m) m) fun x10 m =>
  bp (pur (aBuild Qgv [(0, 1), (1, 1), (2, 1), (3, 1), (4, 1), (5, 1), (6, 1), (7, 1), (8, 1), (9, 1), (10, 1), (11, 1), (12, 1), (13, 1), (14, 1)] [(0, p3), (1, p2), (4, (.int .i64 (-1))), (5, (.int .i64 (-1))), (6, (.int .i64 (-1))), (7, (.int .i64 (-1))), (8, (.int .i64 (-1))), (9, (.int .i64 (-1)))]) m) fun x11 m =>
  bp (aBuildSlice Q6v Qgv 15 1 [(0, x11)] m) fun x12 m =>
  bp (apS Q6v 15 168 x10 x12 m) fun x13 m =>
  ckB (again (pur (aLoad false 1 x3 m) m) x4 && true)
    (bp (pur (aIndexAddrSl 3 x4 p9) m) fun x14 m =>
  bp (pur (aFieldAddr 1 x14) m) fun x15 m =>
  bp (unt (aStore 1 x15 x13 m)) fun _ m =>
  bp (pur (aLoad false 1 p5 m) m) fun x16 m =>
  bp (conv (.int .u32) p3 m) fun x17 m =>
  bp (G.tab Q1t [x17] m) fun x18 m =>
  ckB (again (pur (aLoad false 1 p5 m) m) x16 && true)
    (bp (aBuildSlice Q2 [(.string ⟨#[]⟩)] 1 3 [(0, (.string ⟨#[114, 111, 117, 116, 101, 45, 109, 97, 112]⟩)), (1, x16), (2, x18)] m) fun x19 m =>
  bp (G.tab Q40 [p0, (.func (.func Qss) ⟨[p0]⟩ ⟨[]⟩), x19] m) fun x20 m =>
  some (.tuple ⟨[]⟩, m)))
def Qis (G : Gt) (p9 p8 p5 p0 p3 p2 : Value) (m : Mem) : Option Rs :=
  bp (pur (bin .lss true true .int p9 (.int .i64 0)) m) fun x21 m =>
  brb x21
    (bp (pur (aNilCheck p8) m) fun x22 m =>
  bp (pur (aFieldAddr 9 x22) m) fun x23 m =>
  bp (pur (aLoad false 1 x23 m) m) fun x24 m =>
  bp (pur (lenK 1 x24 m) m) fun x25 m =>
  bp (pur (aNilCheck p8) m) fun x26 m =>
  bp (pur (aFieldAddr 9 x26) m) fun x27 m =>
  bp (pur (aLoad false 1 x27 m) m) fun x28 m =>
  bp (pur (aLoad false 1 p5 m) m) fun x29 m =>
  bp (pur (aBuild Q8i [(0, 1), (1, 1), (2, 1)] [(0, x29)]) m) fun x30 m =>
  bp (aBuildSlice Q42 Q8i 3 1 [(0, x30)] m) fun x31 m =>
  bp (apS Q42 3 48 x28 x31 m) fun x32 m =>
  bp (pur (aNilCheck p8) m) fun x33 m =>
  bp (pur (aFieldAddr 9 x33) m) fun x34 m =>
  bp (unt (aStore 1 x34 x32 m)) fun _ m =>
  Q9d G p0 x25 p8 p3 p2 p5 m)
    (Q9d G p0 p9 p8 p3 p2 p5 m)
def Qit (G : Gt) (p8 p5 p0 p3 p2 : Value) (m : Mem) : Option Rs :=
  bp (pur (aNilCheck p8) m) fun x35 m =>
  bp (pur (aFieldAddr 9 x35) m) fun x36 m =>
  bp (pur (aLoad false 1 x36 m) m) fun x37 m =>
  bp (G.tab Q1z [x37, (.func (.func Qiu) ⟨[]⟩ ⟨[p5]⟩)] m) fun x38 m =>
  Qis G x38 p8 p5 p0 p3 p2 m
def Qiv (G : Gt) (p0 p5 p3 p2 : Value) (m : Mem) : Option Rs :=
  bp (pur (aNilCheck p0) m) fun x39 m =>
  bp (pur (aFieldAddr 0 x39) m) fun x40 m =>
  Qit G x40 p5 p0 p3 p2 m
def Qbg (G : Gt) (p1 p0 p3 p2 : Value) (m : Mem) : Option Rs :=
  bp (some (aNew Q2 (Value.cells p1).toList m)) fun x41 m =>
  Qiv G p0 x41 p3 p2 m
theorem Q105 (G : Gt) (a0 a1 a2 a3 : Value) (m : Mem) : evFn Go.Proofs.Tryz.prog G.tab G.rds (drOf Go.Proofs.Tryz.prog G.tab) Go.Proofs.Tryz.f46 [a0, a1, a2, a3] m = Qbg G a1 a0 a3 a2 m :=
  evFn_of (r := fun ρ m => Qbg G (ρ 1) (ρ 0) (ρ 3) (ρ 2) m) rfl rfl (tr (seqQ (f := fun ρ m => Qiv G (ρ 0) (ρ 5) (ρ 3) (ρ 2) m) (tr (seqQ (f := fun ρ m => Qit G (ρ 8) (ρ 5) (ρ 0) (ρ 3) (ρ 2) m) (tr (seqQ (f := fun ρ m => Qis G (ρ 9) (ρ 8) (ρ 5) (ρ 0) (ρ 3) (ρ 2) m) (tr (seqQ (f := fun ρ m => Q9d G (ρ 0) (ρ 9) (ρ 8) (ρ 3) (ρ 2) (ρ 5) m) (fun ρ m => by kernel_rfl)) (fun ρ m => by kernel_rfl))) (fun ρ m => by kernel_rfl))) (fun ρ m => by kernel_rfl))) (fun ρ m => by kernel_rfl)) m
def Q106 : Entry Go.Proofs.Tryz.prog := ⟨Qn2, Go.Proofs.Tryz.f46, Go.Proofs.Tryz.func46, by kernel_rfl, arg4 (fun G a0 a1 a2 a3 m => Qbg G a1 a0 a3 a2 m), okarg4 Q105⟩
def Q9e (G : Gt) (p8 : Value) (m : Mem) : Option Rs :=
  some (p8, m)
def Q9f (G : Gt) (p29 p0 p8 : Value) (m : Mem) : Option Rs :=
  brb p29
    (bp (G.tab Q8 [p0, (.int .i64 131)] m) fun x0 m =>
  Q9e G p8 m)
    (Q9e G p8 m)
def Qiw (G : Gt) (p9 p8 p1 p0 : Value) (m : Mem) : Option Rs :=
  bp (pur (un .not p9) m) fun x1 m =>
  brb x1
    (Q9f G (.bool true) p0 p8 m)
    (bp (pur (bin .lss false true .int p8 p1) m) fun x2 m =>
  Q9f G x2 p0 p8 m)
def Qix (G : Gt) (p7 p2 p1 p0 : Value) (m : Mem) : Option Rs :=
  bp (G.tab Q15e [p7, p2] m) fun x3 m =>
  bp (pur (aExtract x3 0) m) fun x4 m =>
  bp (pur (aExtract x3 1) m) fun x5 m =>
  Qiw G x5 x4 p1 p0 m
def Qiy (G : Gt) (p7 p0 p2 p1 : Value) (m : Mem) : Option Rs :=
  bp (G.tab Q188 [p7] m) fun x6 m =>
  bp (pur (un .not x6) m) fun x7 m =>
  brb x7
    (bp (G.tab Q8 [p0, (.int .i64 130)] m) fun x8 m =>
  some ((.int .i64 0), m))
    (Qix G p7 p2 p1 p0 m)
def Qiz (G : Gt) (p0 p2 p1 : Value) (m : Mem) : Option Rs :=
  bp (G.tab Qg [p0] m) fun x9 m =>
  Qiy G x9 p0 p2 p1 m
def Qbh (G : Gt) (p0 p2 p1 : Value) (m : Mem) : Option Rs :=
  Qiz G p0 p2 p1 m
theorem Q107 (G : Gt) (a0 a1 a2 : Value) (m : Mem) : evFn Go.Proofs.Tryz.prog G.tab G.rds (drOf Go.Proofs.Tryz.prog G.tab) Go.Proofs.Tryz.f47 [a0, a1, a2] m = Qbh G a0 a2 a1 m :=
  evFn_of (r := fun ρ m => Qbh G (ρ 0) (ρ 2) (ρ 1) m) rfl rfl (tr (seqQ (f := fun ρ m => Qiz G (ρ 0) (ρ 2) (ρ 1) m) (tr (seqQ (f := fun ρ m => Qiy G (ρ 7) (ρ 0) (ρ 2) (ρ 1) m) (tr (seqQ (f := fun ρ m => Qix G (ρ 7) (ρ 2) (ρ 1) (ρ 0) m) (tr (seqQ (f := fun ρ m => Qiw G (ρ 9) (ρ 8) (ρ 1) (ρ 0) m) (tr (tr (seqQ (f := fun ρ m => Q9e G (ρ 8) m) (fun ρ m => by kernel_rfl)) (seqQ (f := fun ρ m => Q9f G (ρ 29) (ρ 0) (ρ 8) m) (fun ρ m => by kernel_rfl))) (fun ρ m => by kernel_rfl))) (fun ρ m => by kernel_rfl))) (fun ρ m => by kernel_rfl))) (fun ρ m => by kernel_rfl))) (fun ρ m => by kernel_rfl)) m
def Q108 : Entry Go.Proofs.Tryz.prog := ⟨Q3, Go.Proofs.Tryz.f47, Go.Proofs.Tryz.func47, by kernel_rfl, arg3 (fun G a0 a1 a2 m => Qbh G a0 a2 a1 m), okarg3 Q107⟩
def Qbi (G : Gt) (p0 p1 : Value) (m : Mem) : Option Rs :=
  bp (pur (aNilCheck p0) m) fun x0 m =>
  bp (pur (aFieldAddr 0 x0) m) fun x1 m =>
  bp (aBuildSlice Q2 [(.string ⟨#[]⟩)] 1 2 [(0, (.string ⟨#[111, 115, 112, 102]⟩)), (1, (.string ⟨#[98, 103, 112]⟩))] m) fun x2 m =>
  bp (G.tab Qs [p1, x2] m) fun x3 m =>
  bp (pur (bin .eql true true .int x3 (.int .i64 0)) m) fun x4 m =>
  brb x4
    (bp (G.tab Qa0 [p1] m) fun x5 m =>
  bp (aBuildSlice Q2 [(.string ⟨#[]⟩)] 1 3 [(0, (.string ⟨#[114, 111, 117, 116, 101, 114]⟩)), (1, (.string ⟨#[111, 115, 112, 102]⟩)), (2, x5)] m) fun x6 m =>
  bp (G.tab Q40 [p0, (.func (.func Qr1) ⟨[p0]⟩ ⟨[]⟩), x6] m) fun x7 m =>
  bp (pur (aNilCheck x1) m) fun x8 m =>
  bp (pur (aFieldAddr 10 x8) m) fun x9 m =>
  bp (pur (aLoad false 1 x9 m) m) fun x10 m =>
  bp (pur (aBuild Qp8 [(0, 1), (1, 1), (2, 1)] [(0, x5)]) m) fun x11 m =>
  bp (aBuildSlice Qd9 Qp8 3 1 [(0, x11)] m) fun x12 m =>
  bp (apS Qd9 3 48 x10 x12 m) fun x13 m =>
  bp (pur (aNilCheck x1) m) fun x14 m =>
  bp (pur (aFieldAddr 10 x14) m) fun x15 m =>
  bp (unt (aStore 1 x15 x13 m)) fun _ m =>
  some (.tuple ⟨[]⟩, m))
    (bp (G.tab Q3 [p1, (.int .i64 1), (.int .i64 4294967295)] m) fun x16 m =>
  bp (G.tab Qa0 [p1] m) fun x17 m =>
  bp (aBuildSlice Q2 [(.string ⟨#[]⟩)] 1 3 [(0, (.string ⟨#[114, 111, 117, 116, 101, 114]⟩)), (1, (.string ⟨#[98, 103, 112]⟩)), (2, x17)] m) fun x18 m =>
  bp (G.tab Q40 [p0, (.func (.func Qst) ⟨[p0]⟩ ⟨[]⟩), x18] m) fun x19 m =>
  bp (pur (aNilCheck x1) m) fun x20 m =>
  bp (pur (aFieldAddr 11 x20) m) fun x21 m =>
  bp (pur (aLoad false 1 x21 m) m) fun x22 m =>
  bp (conv (.int .u32) x16 m) fun x23 m =>
  bp (pur (aBuild Qn3 [(0, 1), (1, 1), (2, 1), (3, 1), (4, 1), (5, 1)] [(0, x17), (1, x23)]) m) fun x24 m =>
  bp (aBuildSlice Q9y Qn3 6 1 [(0, x24)] m) fun x25 m =>
  bp (apS Q9y 6 96 x22 x25 m) fun x26 m =>
  bp (pur (aNilCheck x1) m) fun x27 m =>
  bp (pur (aFieldAddr 11 x27) m) fun x28 m =>
  bp (unt (aStore 1 x28 x26 m)) fun _ m =>
  some (.tuple ⟨[]⟩, m))
theorem Q109 (G : Gt) (a0 a1 : Value) (m : Mem) : evFn Go.Proofs.Tryz.prog G.tab G.rds (drOf Go.Proofs.Tryz.prog G.tab) Go.Proofs.Tryz.f48 [a0, a1] m = Qbi G a0 a1 m :=
  evFn_of (r := fun ρ m => Qbi G (ρ 0) (ρ 1) m) rfl rfl (fun ρ m => by kernel_rfl) m
def Q10a : Entry Go.Proofs.Tryz.prog := ⟨Qn4, Go.Proofs.Tryz.f48, Go.Proofs.Tryz.func48, by kernel_rfl, arg2 (fun G a0 a1 m => Qbi G a0 a1 m), okarg2 Q109⟩
def Qgw (G : Gt) (p0 p1 : Value) (m : Mem) : Option Rs :=
  bp (G.tab Qr2 [p0] m) fun x0 m =>
  bp (G.tab Q31 [p0, x0, p1] m) fun x1 m =>
  some (.tuple ⟨[]⟩, m)
theorem Q15f (G : Gt) (a0 a1 : Value) (m : Mem) : evFn Go.Proofs.Tryz.prog G.tab G.rds (drOf Go.Proofs.Tryz.prog G.tab) Go.Proofs.Tryz.f49 [a0, a1] m = Qgw G a0 a1 m :=
  evFn_of (r := fun ρ m => Qgw G (ρ 0) (ρ 1) m) rfl rfl (fun ρ m => by kernel_rfl) m
def Q15g : Entry Go.Proofs.Tryz.prog := ⟨Q8, Go.Proofs.Tryz.f49, Go.Proofs.Tryz.func49, by kernel_rfl, arg2 (fun G a0 a1 m => Qgw G a0 a1 m), okarg2 Q15f⟩
def Q32 (G : Gt) (k0 : Value → Value → Value → Value → Value → Value → Value → Mem → Option Rs) (p97 p0 p1 p2 p13 p4 p3 p10 p11 p12 : Value) (m : Mem) : Option Rs :=
  brb p97
    (bp (G.tab Qbj [p0, p1, p2, p13, p4] m) fun x0 m =>
  k0 p2 x0 p0 p4 p3 p10 p11 m)
    (bp (G.tab Qgi [p0, p1, p2, p13, p4] m) fun x1 m =>
  bp (pur (aExtract x1 0) m) fun x2 m =>
  bp (pur (aExtract x1 1) m) fun x3 m =>
  bp (pur (bin .sub false true .int x2 p1) m) fun x4 m =>
  bp (pur (bin .sub false true .int p2 x2) m) fun x5 m =>
  bp (pur (bin .quo true true .int p12 (.int .i64 8)) m) fun x6 m =>
  bp (pur (bin .lss false true .int x4 x5) m) fun x7 m =>
  brb x7
    (bp (pur (bin .geq false true .int x4 x6) m) fun x8 m =>
  bp (G.tab Q1v [p0, p1, x2, p3, p4] m) fun x9 m =>
  bp (pur (bin .add true true .int x2 (.int .i64 1)) m) fun x10 m =>
  k0 p2 x10 p0 p4 p3 x8 x3 m)
    (bp (pur (bin .geq false true .int x5 x6) m) fun x11 m =>
  bp (pur (bin .add true true .int x2 (.int .i64 1)) m) fun x12 m =>
  bp (G.tab Q1v [p0, x12, p2, p3, p4] m) fun x13 m =>
  k0 x2 p1 p0 p4 p3 x11 x3 m))
def Q36 (G : Gt) (k0 : Value → Value → Value → Value → Value → Value → Value → Mem → Option Rs) (p1 p4 p0 p13 p2 p3 p10 p11 p12 : Value) (m : Mem) : Option Rs :=
  bp (pur (bin .gtr true true .int p1 (.int .i64 0)) m) fun x14 m =>
  brt x14
    (bp (pur (bin .sub true true .int p1 (.int .i64 1)) m) fun x15 m =>
  bp (pur (aIndexAddrSl 15 p0 x15) m) fun x16 m =>
  bp (pur (aLoad true 15 x16 m) m) fun x17 m =>
  bp (pur (aIndexAddrSl 15 p0 p13) m) fun x18 m =>
  bp (pur (aLoad true 15 x18 m) m) fun x19 m =>
  bp (evCall G.tab p4 [x17, x19] m) fun x20 m =>
  bp (pur (bin .lss true true .int x20 (.int .i64 0)) m) fun x21 m =>
  bp (pur (un .not x21) m) fun x22 m =>
  Q32 G k0 x22 p0 p1 p2 p13 p4 p3 p10 p11 p12 m)
    (Q32 G k0 (.bool false) p0 p1 p2 p13 p4 p3 p10 p11 p12 m)
    (none)
def Q1f (G : Gt) (k0 : Value → Value → Value → Value → Value → Value → Value → Mem → Option Rs) (p75 p0 p1 p2 p4 p13 p3 p10 p11 p12 : Value) (m : Mem) : Option Rs :=
  brb p75
    (bp (G.tab Q8k [p0, p1, p2, p4] m) fun x23 m =>
  brb x23
    (some (.tuple ⟨[]⟩, m))
    (Q36 G k0 p1 p4 p0 p13 p2 p3 p10 p11 p12 m))
    (Q36 G k0 p1 p4 p0 p13 p2 p3 p10 p11 p12 m)
def Q37 (G : Gt) (k0 : Value → Value → Value → Value → Value → Value → Value → Mem → Option Rs) (p10 p11 p14 p0 p1 p2 p4 p13 p3 p12 : Value) (m : Mem) : Option Rs :=
  brb p10
    (brb p11
    (bp (pur (bin .eql true true .int p14 (.int .i64 1)) m) fun x24 m =>
  Q1f G k0 x24 p0 p1 p2 p4 p13 p3 p10 p11 p12 m)
    (Q1f G k0 (.bool false) p0 p1 p2 p4 p13 p3 p10 p11 p12 m))
    (Q1f G k0 (.bool false) p0 p1 p2 p4 p13 p3 p10 p11 p12 m)
def Q6f (G : Gt) (k0 : Value → Value → Value → Value → Value → Value → Value → Mem → Option Rs) (p14 p0 p1 p2 p4 p13 p10 p11 p3 p12 : Value) (m : Mem) : Option Rs :=
  bp (pur (bin .eql true true .int p14 (.int .i64 2)) m) fun x25 m =>
  brb x25
    (bp (G.tab Qdh [p0, p1, p2, p4] m) fun x26 m =>
  bp (pur (bin .sub true true .int p2 (.int .i64 1)) m) fun x27 m =>
  bp (pur (bin .sub false true .int p13 p1) m) fun x28 m =>
  bp (pur (bin .sub false true .int x27 x28) m) fun x29 m =>
  Q37 G k0 p10 p11 (.int .i64 1) p0 p1 p2 p4 x29 p3 p12 m)
    (Q37 G k0 p10 p11 p14 p0 p1 p2 p4 p13 p3 p12 m)
def Q38 (G : Gt) (k0 : Value → Value → Value → Value → Value → Value → Value → Mem → Option Rs) (p0 p1 p2 p4 p10 p11 p3 p12 : Value) (m : Mem) : Option Rs :=
  bp (G.tab Qe9 [p0, p1, p2, p4] m) fun x30 m =>
  bp (pur (aExtract x30 0) m) fun x31 m =>
  bp (pur (aExtract x30 1) m) fun x32 m =>
  Q6f G k0 x32 p0 p1 p2 p4 x31 p10 p11 p3 p12 m
def Q6g (G : Gt) (k0 : Value → Value → Value → Value → Value → Value → Value → Mem → Option Rs) (p10 p0 p1 p2 p4 p3 p11 p12 : Value) (m : Mem) : Option Rs :=
  bp (pur (un .not p10) m) fun x33 m =>
  brb x33
    (bp (G.tab Qcf [p0, p1, p2, p4] m) fun x34 m =>
  bp (pur (bin .sub true true .int p3 (.int .i64 1)) m) fun x35 m =>
  Q38 G k0 p0 p1 p2 p4 p10 p11 x35 p12 m)
    (Q38 G k0 p0 p1 p2 p4 p10 p11 p3 p12 m)
def Q6h (G : Gt) (k0 : Value → Value → Value → Value → Value → Value → Value → Mem → Option Rs) (p3 p0 p1 p2 p4 p10 p11 p12 : Value) (m : Mem) : Option Rs :=
  bp (pur (bin .eql true true .int p3 (.int .i64 0)) m) fun x36 m =>
  brb x36
    (bp (G.tab Qgx [p0, p1, p2, p4] m) fun x37 m =>
  some (.tuple ⟨[]⟩, m))
    (Q6g G k0 p10 p0 p1 p2 p4 p3 p11 p12 m)
def Q6i (G : Gt) (k0 : Value → Value → Value → Value → Value → Value → Value → Mem → Option Rs) (p12 p0 p1 p2 p4 p3 p10 p11 : Value) (m : Mem) : Option Rs :=
  bp (pur (bin .leq true true .int p12 (.int .i64 12)) m) fun x38 m =>
  brb x38
    (bp (G.tab Q4y [p0, p1, p2, p4] m) fun x39 m =>
  some (.tuple ⟨[]⟩, m))
    (Q6h G k0 p3 p0 p1 p2 p4 p10 p11 p12 m)
def Q4 (G : Gt) : Nat → Value → Value → Value → Value → Value → Value → Value → Mem → Option Rs
  | 0, _, _, _, _, _, _, _, _ => none
  | i + 1, p2, p1, p0, p4, p3, p10, p11, m =>
  bp (pur (bin .sub false true .int p2 p1) m) fun x40 m =>
  Q6i G (Q4 G i) x40 p0 p1 p2 p4 p3 p10 p11 m
def Q6j (G : Gt) (p2 p1 p0 p4 p3 p10 p11 : Value) (m : Mem) : Option Rs :=
  Q4 G G.rds p2 p1 p0 p4 p3 p10 p11 m
def Q6k (G : Gt) (p2 p1 p0 p4 p3 p10 : Value) (m : Mem) : Option Rs :=
  Q6j G p2 p1 p0 p4 p3 p10 (.bool true) m
def Q3g (G : Gt) (p2 p1 p0 p4 p3 : Value) (m : Mem) : Option Rs :=
  Q6k G p2 p1 p0 p4 p3 (.bool true) m
theorem Qi5 (G : Gt) (a0 a1 a2 a3 a4 : Value) (m : Mem) : evFn Go.Proofs.Tryz.prog G.tab G.rds (drOf Go.Proofs.Tryz.prog G.tab) Go.Proofs.Tryz.f50 [a0, a1, a2, a3, a4] m = Q3g G a2 a1 a0 a4 a3 m :=
  evFn_of (r := fun ρ m => Q3g G (ρ 2) (ρ 1) (ρ 0) (ρ 4) (ρ 3) m) rfl rfl (tr (seqQ (f := fun ρ m => Q6k G (ρ 2) (ρ 1) (ρ 0) (ρ 4) (ρ 3) (ρ 10) m) (tr (seqQ (f := fun ρ m => Q6j G (ρ 2) (ρ 1) (ρ 0) (ρ 4) (ρ 3) (ρ 10) (ρ 11) m) (tr (blockQ (loopQ (fun i ρ m => Q4 G i (ρ 2) (ρ 1) (ρ 0) (ρ 4) (ρ 3) (ρ 10) (ρ 11) m) (fun _ _ => rfl) (fun i0 => tr (blockQ (seqQ (f := fun ρ m => Q6i G (Q4 G i0) (ρ 12) (ρ 0) (ρ 1) (ρ 2) (ρ 4) (ρ 3) (ρ 10) (ρ 11) m) (tr (seqQ (f := fun ρ m => Q6h G (Q4 G i0) (ρ 3) (ρ 0) (ρ 1) (ρ 2) (ρ 4) (ρ 10) (ρ 11) (ρ 12) m) (tr (seqQ (f := fun ρ m => Q6g G (Q4 G i0) (ρ 10) (ρ 0) (ρ 1) (ρ 2) (ρ 4) (ρ 3) (ρ 11) (ρ 12) m) (tr (seqQ (f := fun ρ m => Q38 G (Q4 G i0) (ρ 0) (ρ 1) (ρ 2) (ρ 4) (ρ 10) (ρ 11) (ρ 3) (ρ 12) m) (tr (seqQ (f := fun ρ m => Q6f G (Q4 G i0) (ρ 14) (ρ 0) (ρ 1) (ρ 2) (ρ 4) (ρ 13) (ρ 10) (ρ 11) (ρ 3) (ρ 12) m) (tr (seqQ (f := fun ρ m => Q37 G (Q4 G i0) (ρ 10) (ρ 11) (ρ 14) (ρ 0) (ρ 1) (ρ 2) (ρ 4) (ρ 13) (ρ 3) (ρ 12) m) (tr (tr (seqQ (f := fun ρ m => Q36 G (Q4 G i0) (ρ 1) (ρ 4) (ρ 0) (ρ 13) (ρ 2) (ρ 3) (ρ 10) (ρ 11) (ρ 12) m) (tr (tr seqD (seqQ (f := fun ρ m => Q32 G (Q4 G i0) (ρ 97) (ρ 0) (ρ 1) (ρ 2) (ρ 13) (ρ 4) (ρ 3) (ρ 10) (ρ 11) (ρ 12) m) (fun ρ m => by kernel_rfl))) (fun ρ m => by kernel_rfl))) (seqQ (f := fun ρ m => Q1f G (Q4 G i0) (ρ 75) (ρ 0) (ρ 1) (ρ 2) (ρ 4) (ρ 13) (ρ 3) (ρ 10) (ρ 11) (ρ 12) m) (fun ρ m => by kernel_rfl))) (fun ρ m => by kernel_rfl))) (fun ρ m => by kernel_rfl))) (fun ρ m => by kernel_rfl))) (fun ρ m => by kernel_rfl))) (fun ρ m => by kernel_rfl))) (fun ρ m => by kernel_rfl)))) (fun ρ m => by kernel_rfl)))) (fun ρ m => by kernel_rfl))) (fun ρ m => by kernel_rfl))) (fun ρ m => by kernel_rfl)) m
def Qi6 : Entry Go.Proofs.Tryz.prog := ⟨Q1v, Go.Proofs.Tryz.f50, Go.Proofs.Tryz.func50, by kernel_rfl, arg5 (fun G a0 a1 a2 a3 a4 m => Q3g G a2 a1 a0 a4 a3 m), okarg5 Qi5⟩
def Qp9 (G : Gt) (p0 : Value) (m : Mem) : Option Rs :=
  brb (.bool false)
    (bp (conv (.int .u32) p0 m) fun x0 m =>
  bp (G.tab Qjp [x0] m) fun x1 m =>
  some (x1, m))
    (bp (G.tab Quc [p0] m) fun x2 m =>
  some (x2, m))
theorem Q18y (G : Gt) (a0 : Value) (m : Mem) : evFn Go.Proofs.Tryz.prog G.tab G.rds (drOf Go.Proofs.Tryz.prog G.tab) Go.Proofs.Tryz.f51 [a0] m = Qp9 G a0 m :=
  evFn_of (r := fun ρ m => Qp9 G (ρ 0) m) rfl rfl (fun ρ m => by kernel_rfl) m
def Q18z : Entry Go.Proofs.Tryz.prog := ⟨Qxb, Go.Proofs.Tryz.f51, Go.Proofs.Tryz.func51, by kernel_rfl, arg1 (fun G a0 m => Qp9 G a0 m), okarg1 Q18y⟩
def Qmd (G : Gt) (p0 : Value) (m : Mem) : Option Rs :=
  bp (pur (bin .neq false true .int p0 p0) m) fun x0 m =>
  some (x0, m)
theorem Q18d (G : Gt) (a0 : Value) (m : Mem) : evFn Go.Proofs.Tryz.prog G.tab G.rds (drOf Go.Proofs.Tryz.prog G.tab) Go.Proofs.Tryz.f52 [a0] m = Qmd G a0 m :=
  evFn_of (r := fun ρ m => Qmd G (ρ 0) m) rfl rfl (fun ρ m => by kernel_rfl) m
def Q18e : Entry Go.Proofs.Tryz.prog := ⟨Qme, Go.Proofs.Tryz.f52, Go.Proofs.Tryz.func52, by kernel_rfl, arg1 (fun G a0 m => Qmd G a0 m), okarg1 Q18d⟩
end
end Go.Ab.Sh
