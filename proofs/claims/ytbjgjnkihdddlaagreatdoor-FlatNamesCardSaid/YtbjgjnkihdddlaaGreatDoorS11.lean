/-
  Functions of the program as plain definitions, each with the theorem that it is what the evaluator makes of the code. No conditions.
-/
import Derived.Test.YtbjgjnkihdddlaaGreatDoorAb4
import Derived.Test.YtbjgjnkihdddlaaGreatDoorZ
import Derived.KernelRfl
import Derived.Test.YtbjgjnkihdddlaaGreatDoorProg
set_option linter.unusedVariables false
set_option maxRecDepth 100000
namespace Go.Ab.Sh
open Go Go.Ab
/-! 167 (waymark/model.book).clauses -/
noncomputable def s_model_book_clauses_4 (G : Gt) (p4 p5 : Value) (m : Mem) : Option Rs :=
  some (.tuple ⟨[p4, p5]⟩, m)
noncomputable def s_model_book_clauses_14 (G : Gt) (k0 : Value → Value → Value → Value → Value → Value → Value → Mem → Option Rs) (p8 p16 p15 p14 p4 p5 p2 : Value) (m : Mem) : Option Rs :=
  bp (pur (aFieldAddr 0 p8) m) fun x0 m =>
  bp (pur (aLoad false 1 x0 m) m) fun x1 m =>
  bp (pur (bin .add true true .int p16 (.int .i64 1)) m) fun x2 m =>
  k0 x2 p15 p14 p4 x1 p5 p2 m
noncomputable def s_model_book_clauses_13 (G : Gt) (k0 : Value → Value → Value → Value → Value → Value → Value → Mem → Option Rs) (p5 p2 p8 p16 p15 p14 p4 : Value) (m : Mem) : Option Rs :=
  brb p5
    (bp (pur (aFieldAddr 2 p2) m) fun x3 m =>
  bp (pur (aLoad false 1 x3 m) m) fun x4 m =>
  bp (pur (aFieldAddr 2 p8) m) fun x5 m =>
  bp (pur (aLoad false 1 x5 m) m) fun x6 m =>
  bp (G.tab F_model_none [x4, x6] m) fun x7 m =>
  brb x7
    (bp (pur (aFieldAddr 3 p2) m) fun x8 m =>
  bp (pur (aLoad false 1 x8 m) m) fun x9 m =>
  bp (pur (aFieldAddr 3 p8) m) fun x10 m =>
  bp (pur (aLoad false 1 x10 m) m) fun x11 m =>
  bp (G.tab F_model_none [x9, x11] m) fun x12 m =>
  s_model_book_clauses_14 G k0 p8 p16 p15 p14 p4 x12 p2 m)
    (s_model_book_clauses_14 G k0 p8 p16 p15 p14 p4 (.bool false) p2 m))
    (s_model_book_clauses_14 G k0 p8 p16 p15 p14 p4 (.bool false) p2 m)
noncomputable def s_model_book_clauses_12 (G : Gt) (k0 : Value → Value → Value → Value → Value → Value → Value → Mem → Option Rs) (p4 p5 p2 p8 p16 p15 p14 : Value) (m : Mem) : Option Rs :=
  bp (pur (un .not p4) m) fun x13 m =>
  brb x13
    (some (.tuple ⟨[(.bool false), (.bool true)]⟩, m))
    (s_model_book_clauses_13 G k0 p5 p2 p8 p16 p15 p14 p4 m)
noncomputable def s_model_book_clauses_11 (G : Gt) (k0 : Value → Value → Value → Value → Value → Value → Value → Mem → Option Rs) (p4 p8 p5 p2 p16 p15 p14 : Value) (m : Mem) : Option Rs :=
  brb p4
    (bp (pur (aFieldAddr 10 p8) m) fun x14 m =>
  bp (pur (aLoad false 1 x14 m) m) fun x15 m =>
  bp (pur (lenK 1 x15 m) m) fun x16 m =>
  bp (pur (bin .leq true true .int x16 (.int .i64 64)) m) fun x17 m =>
  brb x17
    (bp (pur (aFieldAddr 12 p8) m) fun x18 m =>
  bp (pur (aLoad false 1 x18 m) m) fun x19 m =>
  bp (pur (lenK 1 x19 m) m) fun x20 m =>
  bp (pur (bin .leq true true .int x20 (.int .i64 64)) m) fun x21 m =>
  brb x21
    (bp (pur (aFieldAddr 12 p8) m) fun x22 m =>
  bp (pur (aLoad false 1 x22 m) m) fun x23 m =>
  bp (G.tab F_slices_ContainsLLJuint32Cuint32J [x23, (.int .u32 0)] m) fun x24 m =>
  bp (pur (un .not x24) m) fun x25 m =>
  brb x25
    (bp (pur (aFieldAddr 14 p8) m) fun x26 m =>
  bp (pur (aLoad false 1 x26 m) m) fun x27 m =>
  bp (pur (bin .eql true true .int x27 (.int .i64 0)) m) fun x28 m =>
  brb x28
    (bp (pur (aFieldAddr 11 p8) m) fun x29 m =>
  bp (pur (aLoad false 1 x29 m) m) fun x30 m =>
  bp (pur (un .not x30) m) fun x31 m =>
  brb x31
    (s_model_book_clauses_12 G k0 (.bool true) p5 p2 p8 p16 p15 p14 m)
    (bp (pur (aFieldAddr 10 p8) m) fun x32 m =>
  bp (pur (aLoad false 1 x32 m) m) fun x33 m =>
  bp (pur (lenK 1 x33 m) m) fun x34 m =>
  bp (pur (bin .gtr true true .int x34 (.int .i64 0)) m) fun x35 m =>
  s_model_book_clauses_12 G k0 x35 p5 p2 p8 p16 p15 p14 m))
    (bp (pur (aFieldAddr 14 p8) m) fun x36 m =>
  bp (pur (aLoad false 1 x36 m) m) fun x37 m =>
  bp (pur (aFieldAddr 0 p8) m) fun x38 m =>
  bp (pur (aLoad false 1 x38 m) m) fun x39 m =>
  bp (pur (bin .add true true .int x39 (.int .i64 1)) m) fun x40 m =>
  bp (G.tab F_model_within [x37, x40, (.int .i64 65535)] m) fun x41 m =>
  brb x41
    (bp (pur (aFieldAddr 11 p8) m) fun x42 m =>
  bp (pur (aLoad false 1 x42 m) m) fun x43 m =>
  bp (pur (un .not x43) m) fun x44 m =>
  brb x44
    (s_model_book_clauses_12 G k0 (.bool true) p5 p2 p8 p16 p15 p14 m)
    (bp (pur (aFieldAddr 10 p8) m) fun x45 m =>
  bp (pur (aLoad false 1 x45 m) m) fun x46 m =>
  bp (pur (lenK 1 x46 m) m) fun x47 m =>
  bp (pur (bin .gtr true true .int x47 (.int .i64 0)) m) fun x48 m =>
  s_model_book_clauses_12 G k0 x48 p5 p2 p8 p16 p15 p14 m))
    (s_model_book_clauses_12 G k0 (.bool false) p5 p2 p8 p16 p15 p14 m)))
    (s_model_book_clauses_12 G k0 (.bool false) p5 p2 p8 p16 p15 p14 m))
    (s_model_book_clauses_12 G k0 (.bool false) p5 p2 p8 p16 p15 p14 m))
    (s_model_book_clauses_12 G k0 (.bool false) p5 p2 p8 p16 p15 p14 m))
    (s_model_book_clauses_12 G k0 (.bool false) p5 p2 p8 p16 p15 p14 m)
noncomputable def s_model_book_clauses_19 (G : Gt) (k1 : Value → Value → Value → Value → Value → Value → Value → Value → Value → Value → Mem → Option Rs) (p55 p54 p53 p4 p8 p5 p2 p16 p15 p14 : Value) (m : Mem) : Option Rs :=
  bp (pur (bin .add true true .int p55 (.int .i64 1)) m) fun x49 m =>
  k1 x49 p54 p53 p4 p8 p5 p2 p16 p15 p14 m
noncomputable def s_model_book_clauses_18 (G : Gt) (k1 : Value → Value → Value → Value → Value → Value → Value → Value → Value → Value → Mem → Option Rs) (p53 p55 p4 p54 p8 p5 p2 p16 p15 p14 : Value) (m : Mem) : Option Rs :=
  bp (pur (aIndexAddrSl 1 p53 p55) m) fun x50 m =>
  bp (pur (aLoad false 1 x50 m) m) fun x51 m =>
  brb p4
    (bp (G.tab F_model_within [x51, (.int .i64 (-1)), (.int .i64 16777216)] m) fun x52 m =>
  s_model_book_clauses_19 G k1 p55 p54 p53 x52 p8 p5 p2 p16 p15 p14 m)
    (s_model_book_clauses_19 G k1 p55 p54 p53 (.bool false) p8 p5 p2 p16 p15 p14 m)
noncomputable def s_model_book_clauses_17 (G : Gt) (k1 : Value → Value → Value → Value → Value → Value → Value → Value → Value → Value → Mem → Option Rs) (k0 : Value → Value → Value → Value → Value → Value → Value → Mem → Option Rs) (p56 p53 p55 p4 p54 p8 p5 p2 p16 p15 p14 : Value) (m : Mem) : Option Rs :=
  brb p56
    (s_model_book_clauses_18 G k1 p53 p55 p4 p54 p8 p5 p2 p16 p15 p14 m)
    (s_model_book_clauses_11 G k0 p4 p8 p5 p2 p16 p15 p14 m)
noncomputable def s_model_book_clauses_16 (G : Gt) (k0 : Value → Value → Value → Value → Value → Value → Value → Mem → Option Rs) : Nat → Value → Value → Value → Value → Value → Value → Value → Value → Value → Value → Mem → Option Rs
  | 0, _, _, _, _, _, _, _, _, _, _, _ => none
  | i + 1, p55, p54, p53, p4, p8, p5, p2, p16, p15, p14, m =>
  bp (pur (bin .lss false true .int p55 p54) m) fun x53 m =>
  s_model_book_clauses_17 G (s_model_book_clauses_16 G k0 i) k0 x53 p53 p55 p4 p54 p8 p5 p2 p16 p15 p14 m
noncomputable def s_model_book_clauses_15 (G : Gt) (k0 : Value → Value → Value → Value → Value → Value → Value → Mem → Option Rs) (p55 p54 p53 p4 p8 p5 p2 p16 p15 p14 : Value) (m : Mem) : Option Rs :=
  s_model_book_clauses_16 G k0 G.rds p55 p54 p53 p4 p8 p5 p2 p16 p15 p14 m
noncomputable def s_model_book_clauses_10 (G : Gt) (k0 : Value → Value → Value → Value → Value → Value → Value → Mem → Option Rs) (p8 p4 p5 p2 p16 p15 p14 : Value) (m : Mem) : Option Rs :=
  bp (pur (aFieldAddr 4 p8) m) fun x54 m =>
  bp (pur (aLoad false 1 x54 m) m) fun x55 m =>
  bp (pur (aFieldAddr 5 p8) m) fun x56 m =>
  bp (pur (aLoad false 1 x56 m) m) fun x57 m =>
  bp (pur (aFieldAddr 7 p8) m) fun x58 m =>
  bp (pur (aLoad false 1 x58 m) m) fun x59 m =>
  bp (pur (aFieldAddr 8 p8) m) fun x60 m =>
  bp (pur (aLoad false 1 x60 m) m) fun x61 m =>
  bp (pur (aFieldAddr 9 p8) m) fun x62 m =>
  bp (pur (aLoad false 1 x62 m) m) fun x63 m =>
  bp (aBuildSlice T_int [(.int .i64 0)] 1 5 [(0, x55), (1, x57), (2, x59), (3, x61), (4, x63)] m) fun x64 m =>
  bp (pur (lenK 1 x64 m) m) fun x65 m =>
  s_model_book_clauses_15 G k0 (.int .i64 0) x65 x64 p4 p8 p5 p2 p16 p15 p14 m
noncomputable def s_model_book_clauses_9 (G : Gt) (k0 : Value → Value → Value → Value → Value → Value → Value → Mem → Option Rs) (p4 p8 p6 p5 p2 p16 p15 p14 : Value) (m : Mem) : Option Rs :=
  brb p4
    (bp (pur (aFieldAddr 0 p8) m) fun x66 m =>
  bp (pur (aLoad false 1 x66 m) m) fun x67 m =>
  bp (pur (bin .add true true .int p6 (.int .i64 1)) m) fun x68 m =>
  bp (G.tab F_model_within [x67, x68, (.int .i64 65535)] m) fun x69 m =>
  brb x69
    (bp (pur (aFieldAddr 1 p8) m) fun x70 m =>
  bp (pur (aLoad false 1 x70 m) m) fun x71 m =>
  bp (pur (bin .leq true true .int x71 (.int .u8 2)) m) fun x72 m =>
  brb x72
    (bp (pur (aFieldAddr 6 p8) m) fun x73 m =>
  bp (pur (aLoad false 1 x73 m) m) fun x74 m =>
  bp (pur (bin .eql true true .int x74 (.int .i64 (-1))) m) fun x75 m =>
  brb x75
    (s_model_book_clauses_10 G k0 p8 (.bool true) p5 p2 p16 p15 p14 m)
    (bp (pur (aFieldAddr 6 p8) m) fun x76 m =>
  bp (pur (aLoad false 1 x76 m) m) fun x77 m =>
  bp (G.tab F_model_within [x77, (.int .i64 1), (.int .i64 4294967295)] m) fun x78 m =>
  s_model_book_clauses_10 G k0 p8 x78 p5 p2 p16 p15 p14 m))
    (s_model_book_clauses_10 G k0 p8 (.bool false) p5 p2 p16 p15 p14 m))
    (s_model_book_clauses_10 G k0 p8 (.bool false) p5 p2 p16 p15 p14 m))
    (s_model_book_clauses_10 G k0 p8 (.bool false) p5 p2 p16 p15 p14 m)
noncomputable def s_model_book_clauses_8 (G : Gt) (k0 : Value → Value → Value → Value → Value → Value → Value → Mem → Option Rs) (p14 p16 p4 p6 p5 p2 p15 : Value) (m : Mem) : Option Rs :=
  bp (pur (aIndexAddrSl 15 p14 p16) m) fun x79 m =>
  bp (pur (aLoad true 15 x79 m) m) fun x80 m =>
  bp (some (aNew T_api_Clause z_api_Clause m)) fun x81 m =>
  bp (unt (aStore 15 x81 x80 m)) fun _ m =>
  s_model_book_clauses_9 G k0 p4 x81 p6 p5 p2 p16 p15 p14 m
noncomputable def s_model_book_clauses_7 (G : Gt) (k0 : Value → Value → Value → Value → Value → Value → Value → Mem → Option Rs) (p17 p14 p16 p4 p6 p5 p2 p15 : Value) (m : Mem) : Option Rs :=
  brb p17
    (s_model_book_clauses_8 G k0 p14 p16 p4 p6 p5 p2 p15 m)
    (s_model_book_clauses_4 G p4 p5 m)
noncomputable def s_model_book_clauses_6 (G : Gt) : Nat → Value → Value → Value → Value → Value → Value → Value → Mem → Option Rs
  | 0, _, _, _, _, _, _, _, _ => none
  | i + 1, p16, p15, p14, p4, p6, p5, p2, m =>
  bp (pur (bin .lss false true .int p16 p15) m) fun x82 m =>
  s_model_book_clauses_7 G (s_model_book_clauses_6 G i) x82 p14 p16 p4 p6 p5 p2 p15 m
noncomputable def s_model_book_clauses_5 (G : Gt) (p16 p15 p14 p4 p6 p5 p2 : Value) (m : Mem) : Option Rs :=
  s_model_book_clauses_6 G G.rds p16 p15 p14 p4 p6 p5 p2 m
noncomputable def s_model_book_clauses_3 (G : Gt) (p1 p4 p6 p5 p2 : Value) (m : Mem) : Option Rs :=
  bp (pur (lenK 1 p1 m) m) fun x83 m =>
  s_model_book_clauses_5 G (.int .i64 0) x83 p1 p4 p6 p5 p2 m
noncomputable def s_model_book_clauses_2 (G : Gt) (p1 p4 p5 p2 : Value) (m : Mem) : Option Rs :=
  s_model_book_clauses_3 G p1 p4 (.int .i64 0) p5 p2 m
noncomputable def s_model_book_clauses_1 (G : Gt) (p1 p2 : Value) (m : Mem) : Option Rs :=
  s_model_book_clauses_2 G p1 (.bool true) (.bool true) p2 m
noncomputable def s_model_book_clauses_0 (G : Gt) (p1 p2 : Value) (m : Mem) : Option Rs :=
  bp (pur (lenK 1 p1 m) m) fun x84 m =>
  bp (pur (bin .gtr true true .int x84 (.int .i64 256)) m) fun x85 m =>
  brb x85
    (some (.tuple ⟨[(.bool false), (.bool true)]⟩, m))
    (s_model_book_clauses_1 G p1 p2 m)
noncomputable def s_model_book_clauses (G : Gt) (p0 p1 : Value) (m : Mem) : Option Rs :=
  bp (some (aNew T_model_book (Value.cells p0).toList m)) fun x86 m =>
  s_model_book_clauses_0 G p1 x86 m
theorem e_model_book_clauses (G : Gt) (a0 a1 : Value) (m : Mem) : evFn Go.Proofs.Tryz.prog G.tab G.rds (drOf Go.Proofs.Tryz.prog G.tab) Go.Proofs.Tryz.f167 [a0, a1] m = s_model_book_clauses G a0 a1 m :=
  evFn_of (r := fun ρ m => s_model_book_clauses G (ρ 0) (ρ 1) m) rfl rfl (tr (seqQ (f := fun ρ m => s_model_book_clauses_0 G (ρ 1) (ρ 2) m) (tr (seqQ (f := fun ρ m => s_model_book_clauses_1 G (ρ 1) (ρ 2) m) (tr (seqQ (f := fun ρ m => s_model_book_clauses_2 G (ρ 1) (ρ 4) (ρ 5) (ρ 2) m) (tr (seqQ (f := fun ρ m => s_model_book_clauses_3 G (ρ 1) (ρ 4) (ρ 6) (ρ 5) (ρ 2) m) (tr (tr (seqQ (f := fun ρ m => s_model_book_clauses_4 G (ρ 4) (ρ 5) m) (fun ρ m => by kernel_rfl)) (seqQ (f := fun ρ m => s_model_book_clauses_5 G (ρ 16) (ρ 15) (ρ 14) (ρ 4) (ρ 6) (ρ 5) (ρ 2) m) (tr (blockQ (loopQ (fun i ρ m => s_model_book_clauses_6 G i (ρ 16) (ρ 15) (ρ 14) (ρ 4) (ρ 6) (ρ 5) (ρ 2) m) (fun _ _ => rfl) (fun i0 => tr (seqQ (f := fun ρ m => s_model_book_clauses_7 G (s_model_book_clauses_6 G i0) (ρ 17) (ρ 14) (ρ 16) (ρ 4) (ρ 6) (ρ 5) (ρ 2) (ρ 15) m) (tr (seqQ (f := fun ρ m => s_model_book_clauses_8 G (s_model_book_clauses_6 G i0) (ρ 14) (ρ 16) (ρ 4) (ρ 6) (ρ 5) (ρ 2) (ρ 15) m) (tr (tr seqD (blockQ (seqQ (f := fun ρ m => s_model_book_clauses_9 G (s_model_book_clauses_6 G i0) (ρ 4) (ρ 8) (ρ 6) (ρ 5) (ρ 2) (ρ 16) (ρ 15) (ρ 14) m) (tr (seqQ (f := fun ρ m => s_model_book_clauses_10 G (s_model_book_clauses_6 G i0) (ρ 8) (ρ 4) (ρ 5) (ρ 2) (ρ 16) (ρ 15) (ρ 14) m) (tr (tr (seqQ (f := fun ρ m => s_model_book_clauses_11 G (s_model_book_clauses_6 G i0) (ρ 4) (ρ 8) (ρ 5) (ρ 2) (ρ 16) (ρ 15) (ρ 14) m) (tr (seqQ (f := fun ρ m => s_model_book_clauses_12 G (s_model_book_clauses_6 G i0) (ρ 4) (ρ 5) (ρ 2) (ρ 8) (ρ 16) (ρ 15) (ρ 14) m) (tr (seqQ (f := fun ρ m => s_model_book_clauses_13 G (s_model_book_clauses_6 G i0) (ρ 5) (ρ 2) (ρ 8) (ρ 16) (ρ 15) (ρ 14) (ρ 4) m) (tr (seqQ (f := fun ρ m => s_model_book_clauses_14 G (s_model_book_clauses_6 G i0) (ρ 8) (ρ 16) (ρ 15) (ρ 14) (ρ 4) (ρ 5) (ρ 2) m) (fun ρ m => by kernel_rfl)) (fun ρ m => by kernel_rfl))) (fun ρ m => by kernel_rfl))) (fun ρ m => by kernel_rfl))) (seqQ (f := fun ρ m => s_model_book_clauses_15 G (s_model_book_clauses_6 G i0) (ρ 55) (ρ 54) (ρ 53) (ρ 4) (ρ 8) (ρ 5) (ρ 2) (ρ 16) (ρ 15) (ρ 14) m) (tr (blockQ (loopQ (fun i ρ m => s_model_book_clauses_16 G (s_model_book_clauses_6 G i0) i (ρ 55) (ρ 54) (ρ 53) (ρ 4) (ρ 8) (ρ 5) (ρ 2) (ρ 16) (ρ 15) (ρ 14) m) (fun _ _ => rfl) (fun i1 => tr (seqQ (f := fun ρ m => s_model_book_clauses_17 G (s_model_book_clauses_16 G (s_model_book_clauses_6 G i0) i1) (s_model_book_clauses_6 G i0) (ρ 56) (ρ 53) (ρ 55) (ρ 4) (ρ 54) (ρ 8) (ρ 5) (ρ 2) (ρ 16) (ρ 15) (ρ 14) m) (tr (seqQ (f := fun ρ m => s_model_book_clauses_18 G (s_model_book_clauses_16 G (s_model_book_clauses_6 G i0) i1) (ρ 53) (ρ 55) (ρ 4) (ρ 54) (ρ 8) (ρ 5) (ρ 2) (ρ 16) (ρ 15) (ρ 14) m) (tr (seqQ (f := fun ρ m => s_model_book_clauses_19 G (s_model_book_clauses_16 G (s_model_book_clauses_6 G i0) i1) (ρ 55) (ρ 54) (ρ 53) (ρ 4) (ρ 8) (ρ 5) (ρ 2) (ρ 16) (ρ 15) (ρ 14) m) (fun ρ m => by kernel_rfl)) (fun ρ m => by kernel_rfl))) (fun ρ m => by kernel_rfl))) (fun ρ m => by kernel_rfl)))) (fun ρ m => by kernel_rfl)))) (fun ρ m => by kernel_rfl))) (fun ρ m => by kernel_rfl))))) (fun ρ m => by kernel_rfl))) (fun ρ m => by kernel_rfl))) (fun ρ m => by kernel_rfl)))) (fun ρ m => by kernel_rfl)))) (fun ρ m => by kernel_rfl))) (fun ρ m => by kernel_rfl))) (fun ρ m => by kernel_rfl))) (fun ρ m => by kernel_rfl))) (fun ρ m => by kernel_rfl)) m
noncomputable def E_model_book_clauses : Entry Go.Proofs.Tryz.prog := ⟨F_model_book_clauses, Go.Proofs.Tryz.f167, Go.Proofs.Tryz.func167, by kernel_rfl, arg2 (fun G a0 a1 m => s_model_book_clauses G a0 a1 m), okarg2 e_model_book_clauses⟩
/-! 168 waymark/model.first[waymark/api.Policy] -/
noncomputable def s_model_firstLapi_PolicyJ (G : Gt) (p0 p1 p2 : Value) (m : Mem) : Option Rs :=
  bp (some (aNew T_LJapi_Policy (Value.cells p0).toList m)) fun x0 m =>
  bp (some (aNew T_int (Value.cells p1).toList m)) fun x1 m =>
  bp (some (aNew T_funcapi_Policy_string (Value.cells p2).toList m)) fun x2 m =>
  bp (pur (aLoad false 1 x0 m) m) fun x3 m =>
  let x4 : Value := (.func (.func F_model_firstLapi_PolicyJS1) ⟨[]⟩ ⟨[x2, x0, x1]⟩)
  bp (pur (aLoad false 1 x1 m) m) fun x5 m =>
  bp (G.tab F_slices_IndexFuncLLJapi_PolicyCapi_PolicyJ [x3, x4] m) fun x6 m =>
  ckB (again (pur (aLoad false 1 x1 m) m) x5 && true)
    (bp (pur (bin .eql false true .int x6 x5) m) fun x7 m =>
  some (x7, m))
theorem e_model_firstLapi_PolicyJ (G : Gt) (a0 a1 a2 : Value) (m : Mem) : evFn Go.Proofs.Tryz.prog G.tab G.rds (drOf Go.Proofs.Tryz.prog G.tab) Go.Proofs.Tryz.f168 [a0, a1, a2] m = s_model_firstLapi_PolicyJ G a0 a1 a2 m :=
  evFn_of (r := fun ρ m => s_model_firstLapi_PolicyJ G (ρ 0) (ρ 1) (ρ 2) m) rfl rfl (fun ρ m => by kernel_rfl) m
noncomputable def E_model_firstLapi_PolicyJ : Entry Go.Proofs.Tryz.prog := ⟨F_model_firstLapi_PolicyJ, Go.Proofs.Tryz.f168, Go.Proofs.Tryz.func168, by kernel_rfl, arg3 (fun G a0 a1 a2 m => s_model_firstLapi_PolicyJ G a0 a1 a2 m), okarg3 e_model_firstLapi_PolicyJ⟩
/-! 169 waymark/model.ofPolicy -/
noncomputable def s_model_ofPolicy (G : Gt) (p0 : Value) (m : Mem) : Option Rs :=
  bp (some (aNew T_api_Policy (Value.cells p0).toList m)) fun x0 m =>
  bp (pur (aFieldAddr 0 x0) m) fun x1 m =>
  bp (pur (aLoad false 1 x1 m) m) fun x2 m =>
  some (x2, m)
theorem e_model_ofPolicy (G : Gt) (a0 : Value) (m : Mem) : evFn Go.Proofs.Tryz.prog G.tab G.rds (drOf Go.Proofs.Tryz.prog G.tab) Go.Proofs.Tryz.f169 [a0] m = s_model_ofPolicy G a0 m :=
  evFn_of (r := fun ρ m => s_model_ofPolicy G (ρ 0) m) rfl rfl (fun ρ m => by kernel_rfl) m
noncomputable def E_model_ofPolicy : Entry Go.Proofs.Tryz.prog := ⟨F_model_ofPolicy, Go.Proofs.Tryz.f169, Go.Proofs.Tryz.func169, by kernel_rfl, arg1 (fun G a0 m => s_model_ofPolicy G a0 m), okarg1 e_model_ofPolicy⟩
/-! 170 waymark/model.partsOf$9 -/
noncomputable def s_model_partsOfS9 (G : Gt) (p1 p2 p0 : Value) (m : Mem) : Option Rs :=
  bp (pur (aLoad true 5 p1 m) m) fun x0 m =>
  bp (pur (aLoad true 12 p2 m) m) fun x1 m =>
  bp (G.tab F_model_book_ospf [x0, x1, p0] m) fun x2 m =>
  some (x2, m)
theorem e_model_partsOfS9 (G : Gt) (a0 a1 a2 : Value) (m : Mem) : evFn Go.Proofs.Tryz.prog G.tab G.rds (drOf Go.Proofs.Tryz.prog G.tab) Go.Proofs.Tryz.f170 [a0, a1, a2] m = s_model_partsOfS9 G a1 a2 a0 m :=
  evFn_of (r := fun ρ m => s_model_partsOfS9 G (ρ 1) (ρ 2) (ρ 0) m) rfl rfl (fun ρ m => by kernel_rfl) m
noncomputable def E_model_partsOfS9 : Entry Go.Proofs.Tryz.prog := ⟨F_model_partsOfS9, Go.Proofs.Tryz.f170, Go.Proofs.Tryz.func170, by kernel_rfl, arg3 (fun G a0 a1 a2 m => s_model_partsOfS9 G a1 a2 a0 m), okarg3 e_model_partsOfS9⟩
/-! 171 (waymark/model.book).ospf -/
noncomputable def s_model_book_ospf_3 (G : Gt) (p6 : Value) (m : Mem) : Option Rs :=
  some (p6, m)
noncomputable def s_model_book_ospf_2 (G : Gt) (p8 p7 p4 p2 p9 p3 : Value) (m : Mem) : Option Rs :=
  brb p8
    (bp (pur (aFieldAddr 1 p7) m) fun x0 m =>
  bp (pur (aLoad false 1 x0 m) m) fun x1 m =>
  bp (pur (bin .neq true true .int x1 (.int .u32 0)) m) fun x2 m =>
  brb x2
    (bp (pur (aFieldAddr 10 p4) m) fun x3 m =>
  bp (pur (aLoad false 1 x3 m) m) fun x4 m =>
  bp (G.tab F_model_firstLapi_OSPFJ [x4, p2, (.func (.func F_model_book_ospfS1) #[] #[])] m) fun x5 m =>
  brb p9
    (bp (pur (aFieldAddr 0 p3) m) fun x6 m =>
  bp (pur (aLoad false 1 x6 m) m) fun x7 m =>
  bp (pur (aFieldAddr 0 p7) m) fun x8 m =>
  bp (pur (aLoad false 1 x8 m) m) fun x9 m =>
  bp (G.tab F_model_none [x7, x9] m) fun x10 m =>
  bp (G.tab F_model_fails [x5, x10] m) fun x11 m =>
  s_model_book_ospf_3 G x11 m)
    (bp (G.tab F_model_fails [x5, (.bool false)] m) fun x12 m =>
  s_model_book_ospf_3 G x12 m))
    (brb p9
    (bp (pur (aFieldAddr 0 p3) m) fun x13 m =>
  bp (pur (aLoad false 1 x13 m) m) fun x14 m =>
  bp (pur (aFieldAddr 0 p7) m) fun x15 m =>
  bp (pur (aLoad false 1 x15 m) m) fun x16 m =>
  bp (G.tab F_model_none [x14, x16] m) fun x17 m =>
  bp (G.tab F_model_fails [(.bool false), x17] m) fun x18 m =>
  s_model_book_ospf_3 G x18 m)
    (bp (G.tab F_model_fails [(.bool false), (.bool false)] m) fun x19 m =>
  s_model_book_ospf_3 G x19 m)))
    (brb p9
    (bp (pur (aFieldAddr 0 p3) m) fun x20 m =>
  bp (pur (aLoad false 1 x20 m) m) fun x21 m =>
  bp (pur (aFieldAddr 0 p7) m) fun x22 m =>
  bp (pur (aLoad false 1 x22 m) m) fun x23 m =>
  bp (G.tab F_model_none [x21, x23] m) fun x24 m =>
  bp (G.tab F_model_fails [(.bool false), x24] m) fun x25 m =>
  s_model_book_ospf_3 G x25 m)
    (bp (G.tab F_model_fails [(.bool false), (.bool false)] m) fun x26 m =>
  s_model_book_ospf_3 G x26 m))
noncomputable def s_model_book_ospf_1 (G : Gt) (p3 p7 p4 p2 : Value) (m : Mem) : Option Rs :=
  bp (pur (aLoad true 5 p3 m) m) fun x27 m =>
  bp (pur (aFieldAddr 2 p7) m) fun x28 m =>
  bp (pur (aLoad false 1 x28 m) m) fun x29 m =>
  bp (G.tab F_model_book_redists [x27, x29, (.int .u8 11), (.bool true)] m) fun x30 m =>
  bp (pur (aExtract x30 0) m) fun x31 m =>
  bp (pur (aExtract x30 1) m) fun x32 m =>
  s_model_book_ospf_2 G x31 p7 p4 p2 x32 p3 m
noncomputable def s_model_book_ospf_0 (G : Gt) (p4 p2 p3 : Value) (m : Mem) : Option Rs :=
  bp (pur (aFieldAddr 10 p4) m) fun x33 m =>
  bp (pur (aLoad false 1 x33 m) m) fun x34 m =>
  bp (pur (aIndexAddrSl 3 x34 p2) m) fun x35 m =>
  bp (pur (aLoad true 3 x35 m) m) fun x36 m =>
  bp (some (aNew T_api_OSPF z_api_OSPF m)) fun x37 m =>
  bp (unt (aStore 3 x37 x36 m)) fun _ m =>
  s_model_book_ospf_1 G p3 x37 p4 p2 m
noncomputable def s_model_book_ospf (G : Gt) (p0 p1 p2 : Value) (m : Mem) : Option Rs :=
  bp (some (aNew T_model_book (Value.cells p0).toList m)) fun x38 m =>
  bp (some (aNew T_api_Device (Value.cells p1).toList m)) fun x39 m =>
  s_model_book_ospf_0 G x39 p2 x38 m
theorem e_model_book_ospf (G : Gt) (a0 a1 a2 : Value) (m : Mem) : evFn Go.Proofs.Tryz.prog G.tab G.rds (drOf Go.Proofs.Tryz.prog G.tab) Go.Proofs.Tryz.f171 [a0, a1, a2] m = s_model_book_ospf G a0 a1 a2 m :=
  evFn_of (r := fun ρ m => s_model_book_ospf G (ρ 0) (ρ 1) (ρ 2) m) rfl rfl (tr (seqQ (f := fun ρ m => s_model_book_ospf_0 G (ρ 4) (ρ 2) (ρ 3) m) (tr (seqQ (f := fun ρ m => s_model_book_ospf_1 G (ρ 3) (ρ 7) (ρ 4) (ρ 2) m) (tr (seqQ (f := fun ρ m => s_model_book_ospf_2 G (ρ 8) (ρ 7) (ρ 4) (ρ 2) (ρ 9) (ρ 3) m) (tr (seqQ (f := fun ρ m => s_model_book_ospf_3 G (ρ 6) m) (fun ρ m => by kernel_rfl)) (fun ρ m => by kernel_rfl))) (fun ρ m => by kernel_rfl))) (fun ρ m => by kernel_rfl))) (fun ρ m => by kernel_rfl)) m
noncomputable def E_model_book_ospf : Entry Go.Proofs.Tryz.prog := ⟨F_model_book_ospf, Go.Proofs.Tryz.f171, Go.Proofs.Tryz.func171, by kernel_rfl, arg3 (fun G a0 a1 a2 m => s_model_book_ospf G a0 a1 a2 m), okarg3 e_model_book_ospf⟩
/-! 172 waymark/model.partsOf$10 -/
noncomputable def s_model_partsOfS10 (G : Gt) (p1 p2 p0 : Value) (m : Mem) : Option Rs :=
  bp (pur (aLoad true 5 p1 m) m) fun x0 m =>
  bp (pur (aLoad true 12 p2 m) m) fun x1 m =>
  bp (G.tab F_model_book_bgp [x0, x1, p0] m) fun x2 m =>
  some (x2, m)
theorem e_model_partsOfS10 (G : Gt) (a0 a1 a2 : Value) (m : Mem) : evFn Go.Proofs.Tryz.prog G.tab G.rds (drOf Go.Proofs.Tryz.prog G.tab) Go.Proofs.Tryz.f172 [a0, a1, a2] m = s_model_partsOfS10 G a1 a2 a0 m :=
  evFn_of (r := fun ρ m => s_model_partsOfS10 G (ρ 1) (ρ 2) (ρ 0) m) rfl rfl (fun ρ m => by kernel_rfl) m
noncomputable def E_model_partsOfS10 : Entry Go.Proofs.Tryz.prog := ⟨F_model_partsOfS10, Go.Proofs.Tryz.f172, Go.Proofs.Tryz.func172, by kernel_rfl, arg3 (fun G a0 a1 a2 m => s_model_partsOfS10 G a1 a2 a0 m), okarg3 e_model_partsOfS10⟩
end Go.Ab.Sh

set_option linter.unusedVariables false
set_option maxRecDepth 100000
namespace Go.Ab.Sh
open Go Go.Ab
/-! 173 (waymark/model.book).bgp -/
noncomputable def s_model_book_bgp_7 (G : Gt) (p6 : Value) (m : Mem) : Option Rs :=
  some (p6, m)
noncomputable def s_model_book_bgp_6 (G : Gt) (p8 p9 p3 p7 : Value) (m : Mem) : Option Rs :=
  brb p9
    (bp (pur (aFieldAddr 0 p3) m) fun x0 m =>
  bp (pur (aLoad false 1 x0 m) m) fun x1 m =>
  bp (pur (aFieldAddr 0 p7) m) fun x2 m =>
  bp (pur (aLoad false 1 x2 m) m) fun x3 m =>
  bp (G.tab F_model_none [x1, x3] m) fun x4 m =>
  bp (G.tab F_model_fails [p8, x4] m) fun x5 m =>
  s_model_book_bgp_7 G x5 m)
    (bp (G.tab F_model_fails [p8, (.bool false)] m) fun x6 m =>
  s_model_book_bgp_7 G x6 m)
noncomputable def s_model_book_bgp_12 (G : Gt) (k0 : Value → Value → Value → Value → Value → Value → Value → Value → Mem → Option Rs) (p83 p82 p81 p12 p8 p9 p3 p7 : Value) (m : Mem) : Option Rs :=
  bp (pur (bin .add true true .int p83 (.int .i64 1)) m) fun x7 m =>
  k0 x7 p82 p81 p12 p8 p9 p3 p7 m
noncomputable def s_model_book_bgp_15 (G : Gt) (k0 : Value → Value → Value → Value → Value → Value → Value → Value → Mem → Option Rs) (p9 p3 p14 p83 p82 p81 p12 p8 p7 : Value) (m : Mem) : Option Rs :=
  brb p9
    (bp (pur (aFieldAddr 4 p3) m) fun x8 m =>
  bp (pur (aLoad false 1 x8 m) m) fun x9 m =>
  bp (pur (aFieldAddr 2 p14) m) fun x10 m =>
  bp (pur (aLoad false 1 x10 m) m) fun x11 m =>
  bp (G.tab F_model_none [x9, x11] m) fun x12 m =>
  brb x12
    (bp (pur (aFieldAddr 4 p3) m) fun x13 m =>
  bp (pur (aLoad false 1 x13 m) m) fun x14 m =>
  bp (pur (aFieldAddr 3 p14) m) fun x15 m =>
  bp (pur (aLoad false 1 x15 m) m) fun x16 m =>
  bp (G.tab F_model_none [x14, x16] m) fun x17 m =>
  s_model_book_bgp_12 G k0 p83 p82 p81 p12 p8 x17 p3 p7 m)
    (s_model_book_bgp_12 G k0 p83 p82 p81 p12 p8 (.bool false) p3 p7 m))
    (s_model_book_bgp_12 G k0 p83 p82 p81 p12 p8 (.bool false) p3 p7 m)
noncomputable def s_model_book_bgp_14 (G : Gt) (k0 : Value → Value → Value → Value → Value → Value → Value → Value → Mem → Option Rs) (p8 p14 p12 p9 p3 p83 p82 p81 p7 : Value) (m : Mem) : Option Rs :=
  brb p8
    (bp (pur (aFieldAddr 0 p14) m) fun x18 m =>
  bp (pur (aLoad false 1 x18 m) m) fun x19 m =>
  bp (pur (bin .neq true true .int x19 (.int .u32 0)) m) fun x20 m =>
  brb x20
    (bp (pur (aFieldAddr 1 p14) m) fun x21 m =>
  bp (pur (aLoad false 1 x21 m) m) fun x22 m =>
  bp (pur (bin .neq true true .int x22 (.int .u32 0)) m) fun x23 m =>
  brb x23
    (bp (pur (aFieldAddr 0 p14) m) fun x24 m =>
  bp (pur (aLoad false 1 x24 m) m) fun x25 m =>
  bp (pur (aLookup .int (.int .i64 0) false p12 x25 m) m) fun x26 m =>
  bp (pur (bin .eql true true .int x26 (.int .i64 1)) m) fun x27 m =>
  s_model_book_bgp_15 G k0 p9 p3 p14 p83 p82 p81 p12 x27 p7 m)
    (s_model_book_bgp_15 G k0 p9 p3 p14 p83 p82 p81 p12 (.bool false) p7 m))
    (s_model_book_bgp_15 G k0 p9 p3 p14 p83 p82 p81 p12 (.bool false) p7 m))
    (s_model_book_bgp_15 G k0 p9 p3 p14 p83 p82 p81 p12 (.bool false) p7 m)
noncomputable def s_model_book_bgp_13 (G : Gt) (k0 : Value → Value → Value → Value → Value → Value → Value → Value → Mem → Option Rs) (p12 p14 p8 p9 p3 p83 p82 p81 p7 : Value) (m : Mem) : Option Rs :=
  bp (pur (aFieldAddr 0 p14) m) fun x28 m =>
  bp (pur (aLoad false 1 x28 m) m) fun x29 m =>
  bp (pur (aLookup .int (.int .i64 0) false p12 x29 m) m) fun x30 m =>
  bp (pur (bin .add true true .int x30 (.int .i64 1)) m) fun x31 m =>
  bp (unt (aMapUpdate .int p12 x29 x31 m)) fun _ m =>
  s_model_book_bgp_14 G k0 p8 p14 p12 p9 p3 p83 p82 p81 p7 m
noncomputable def s_model_book_bgp_11 (G : Gt) (k0 : Value → Value → Value → Value → Value → Value → Value → Value → Mem → Option Rs) (p81 p83 p12 p8 p9 p3 p82 p7 : Value) (m : Mem) : Option Rs :=
  bp (pur (aIndexAddrSl 6 p81 p83) m) fun x32 m =>
  bp (pur (aLoad true 6 x32 m) m) fun x33 m =>
  bp (some (aNew T_api_Peer z_api_Peer m)) fun x34 m =>
  bp (unt (aStore 6 x34 x33 m)) fun _ m =>
  s_model_book_bgp_13 G k0 p12 x34 p8 p9 p3 p83 p82 p81 p7 m
noncomputable def s_model_book_bgp_10 (G : Gt) (k0 : Value → Value → Value → Value → Value → Value → Value → Value → Mem → Option Rs) (p84 p81 p83 p12 p8 p9 p3 p82 p7 : Value) (m : Mem) : Option Rs :=
  brb p84
    (s_model_book_bgp_11 G k0 p81 p83 p12 p8 p9 p3 p82 p7 m)
    (s_model_book_bgp_6 G p8 p9 p3 p7 m)
noncomputable def s_model_book_bgp_9 (G : Gt) : Nat → Value → Value → Value → Value → Value → Value → Value → Value → Mem → Option Rs
  | 0, _, _, _, _, _, _, _, _, _ => none
  | i + 1, p83, p82, p81, p12, p8, p9, p3, p7, m =>
  bp (pur (bin .lss false true .int p83 p82) m) fun x35 m =>
  s_model_book_bgp_10 G (s_model_book_bgp_9 G i) x35 p81 p83 p12 p8 p9 p3 p82 p7 m
noncomputable def s_model_book_bgp_8 (G : Gt) (p83 p82 p81 p12 p8 p9 p3 p7 : Value) (m : Mem) : Option Rs :=
  s_model_book_bgp_9 G G.rds p83 p82 p81 p12 p8 p9 p3 p7 m
noncomputable def s_model_book_bgp_5 (G : Gt) (p7 p12 p8 p9 p3 : Value) (m : Mem) : Option Rs :=
  bp (pur (aFieldAddr 4 p7) m) fun x36 m =>
  bp (pur (aLoad false 1 x36 m) m) fun x37 m =>
  bp (pur (lenK 1 x37 m) m) fun x38 m =>
  s_model_book_bgp_8 G (.int .i64 0) x38 x37 p12 p8 p9 p3 p7 m
noncomputable def s_model_book_bgp_4 (G : Gt) (p7 p8 p9 p3 : Value) (m : Mem) : Option Rs :=
  bp (some (aMakeMap m)) fun x39 m =>
  s_model_book_bgp_5 G p7 x39 p8 p9 p3 m
noncomputable def s_model_book_bgp_20 (G : Gt) (k0 : Value → Value → Value → Value → Value → Value → Value → Mem → Option Rs) (p59 p58 p57 p8 p7 p9 p3 : Value) (m : Mem) : Option Rs :=
  bp (pur (bin .add true true .int p59 (.int .i64 1)) m) fun x40 m =>
  k0 x40 p58 p57 p8 p7 p9 p3 m
noncomputable def s_model_book_bgp_19 (G : Gt) (k0 : Value → Value → Value → Value → Value → Value → Value → Mem → Option Rs) (p59 p57 p8 p7 p58 p9 p3 : Value) (m : Mem) : Option Rs :=
  bp (pur (aIndexAddrSl 2 p57 p59) m) fun x41 m =>
  bp (pur (aLoad true 2 x41 m) m) fun x42 m =>
  bp (some (aNew T_api_Prefix z_api_Prefix m)) fun x43 m =>
  bp (unt (aStore 2 x43 x42 m)) fun _ m =>
  brb p8
    (bp (pur (aLoad true 2 x43 m) m) fun x44 m =>
  bp (G.tab F_addr_Check [x44] m) fun x45 m =>
  bp (pur (bin .eql true true .int x45 (.int .i64 0)) m) fun x46 m =>
  brb x46
    (bp (pur (aFieldAddr 3 p7) m) fun x47 m =>
  bp (pur (aLoad false 1 x47 m) m) fun x48 m =>
  bp (pur (aLoad true 2 x43 m) m) fun x49 m =>
  bp (G.tab F_slices_IndexLLJapi_PrefixCapi_PrefixJ [x48, x49] m) fun x50 m =>
  bp (pur (bin .eql false true .int x50 p59) m) fun x51 m =>
  s_model_book_bgp_20 G k0 p59 p58 p57 x51 p7 p9 p3 m)
    (s_model_book_bgp_20 G k0 p59 p58 p57 (.bool false) p7 p9 p3 m))
    (s_model_book_bgp_20 G k0 p59 p58 p57 (.bool false) p7 p9 p3 m)
noncomputable def s_model_book_bgp_18 (G : Gt) (k0 : Value → Value → Value → Value → Value → Value → Value → Mem → Option Rs) (p60 p59 p57 p8 p7 p58 p9 p3 : Value) (m : Mem) : Option Rs :=
  brb p60
    (s_model_book_bgp_19 G k0 p59 p57 p8 p7 p58 p9 p3 m)
    (s_model_book_bgp_4 G p7 p8 p9 p3 m)
noncomputable def s_model_book_bgp_17 (G : Gt) : Nat → Value → Value → Value → Value → Value → Value → Value → Mem → Option Rs
  | 0, _, _, _, _, _, _, _, _ => none
  | i + 1, p59, p58, p57, p8, p7, p9, p3, m =>
  bp (pur (bin .lss false true .int p59 p58) m) fun x52 m =>
  s_model_book_bgp_18 G (s_model_book_bgp_17 G i) x52 p59 p57 p8 p7 p58 p9 p3 m
noncomputable def s_model_book_bgp_16 (G : Gt) (p59 p58 p57 p8 p7 p9 p3 : Value) (m : Mem) : Option Rs :=
  s_model_book_bgp_17 G G.rds p59 p58 p57 p8 p7 p9 p3 m
noncomputable def s_model_book_bgp_3 (G : Gt) (p7 p8 p9 p3 : Value) (m : Mem) : Option Rs :=
  bp (pur (aFieldAddr 3 p7) m) fun x53 m =>
  bp (pur (aLoad false 1 x53 m) m) fun x54 m =>
  bp (pur (lenK 1 x54 m) m) fun x55 m =>
  s_model_book_bgp_16 G (.int .i64 0) x55 x54 p8 p7 p9 p3 m
noncomputable def s_model_book_bgp_2 (G : Gt) (p8 p7 p4 p2 p9 p3 : Value) (m : Mem) : Option Rs :=
  brb p8
    (bp (pur (aFieldAddr 1 p7) m) fun x56 m =>
  bp (pur (aLoad false 1 x56 m) m) fun x57 m =>
  bp (pur (bin .neq true true .int x57 (.int .u32 0)) m) fun x58 m =>
  brb x58
    (bp (pur (aFieldAddr 2 p7) m) fun x59 m =>
  bp (pur (aLoad false 1 x59 m) m) fun x60 m =>
  bp (pur (bin .neq true true .int x60 (.int .u32 0)) m) fun x61 m =>
  brb x61
    (bp (pur (aFieldAddr 11 p4) m) fun x62 m =>
  bp (pur (aLoad false 1 x62 m) m) fun x63 m =>
  bp (G.tab F_model_firstLapi_BGPJ [x63, p2, (.func (.func F_model_book_bgpS1) #[] #[])] m) fun x64 m =>
  brb x64
    (bp (pur (aFieldAddr 3 p7) m) fun x65 m =>
  bp (pur (aLoad false 1 x65 m) m) fun x66 m =>
  bp (pur (lenK 1 x66 m) m) fun x67 m =>
  bp (pur (bin .leq true true .int x67 (.int .i64 256)) m) fun x68 m =>
  brb x68
    (bp (pur (aFieldAddr 4 p7) m) fun x69 m =>
  bp (pur (aLoad false 1 x69 m) m) fun x70 m =>
  bp (pur (lenK 1 x70 m) m) fun x71 m =>
  bp (pur (bin .leq true true .int x71 (.int .i64 256)) m) fun x72 m =>
  s_model_book_bgp_3 G p7 x72 p9 p3 m)
    (s_model_book_bgp_3 G p7 (.bool false) p9 p3 m))
    (s_model_book_bgp_3 G p7 (.bool false) p9 p3 m))
    (s_model_book_bgp_3 G p7 (.bool false) p9 p3 m))
    (s_model_book_bgp_3 G p7 (.bool false) p9 p3 m))
    (s_model_book_bgp_3 G p7 (.bool false) p9 p3 m)
noncomputable def s_model_book_bgp_1 (G : Gt) (p3 p7 p4 p2 : Value) (m : Mem) : Option Rs :=
  bp (pur (aLoad true 5 p3 m) m) fun x73 m =>
  bp (pur (aFieldAddr 5 p7) m) fun x74 m =>
  bp (pur (aLoad false 1 x74 m) m) fun x75 m =>
  bp (G.tab F_model_book_redists [x73, x75, (.int .u8 7), (.bool false)] m) fun x76 m =>
  bp (pur (aExtract x76 0) m) fun x77 m =>
  bp (pur (aExtract x76 1) m) fun x78 m =>
  s_model_book_bgp_2 G x77 p7 p4 p2 x78 p3 m
noncomputable def s_model_book_bgp_0 (G : Gt) (p4 p2 p3 : Value) (m : Mem) : Option Rs :=
  bp (pur (aFieldAddr 11 p4) m) fun x79 m =>
  bp (pur (aLoad false 1 x79 m) m) fun x80 m =>
  bp (pur (aIndexAddrSl 6 x80 p2) m) fun x81 m =>
  bp (pur (aLoad true 6 x81 m) m) fun x82 m =>
  bp (some (aNew T_api_BGP z_api_BGP m)) fun x83 m =>
  bp (unt (aStore 6 x83 x82 m)) fun _ m =>
  s_model_book_bgp_1 G p3 x83 p4 p2 m
noncomputable def s_model_book_bgp (G : Gt) (p0 p1 p2 : Value) (m : Mem) : Option Rs :=
  bp (some (aNew T_model_book (Value.cells p0).toList m)) fun x84 m =>
  bp (some (aNew T_api_Device (Value.cells p1).toList m)) fun x85 m =>
  s_model_book_bgp_0 G x85 p2 x84 m
theorem e_model_book_bgp (G : Gt) (a0 a1 a2 : Value) (m : Mem) : evFn Go.Proofs.Tryz.prog G.tab G.rds (drOf Go.Proofs.Tryz.prog G.tab) Go.Proofs.Tryz.f173 [a0, a1, a2] m = s_model_book_bgp G a0 a1 a2 m :=
  evFn_of (r := fun ρ m => s_model_book_bgp G (ρ 0) (ρ 1) (ρ 2) m) rfl rfl (tr (seqQ (f := fun ρ m => s_model_book_bgp_0 G (ρ 4) (ρ 2) (ρ 3) m) (tr (seqQ (f := fun ρ m => s_model_book_bgp_1 G (ρ 3) (ρ 7) (ρ 4) (ρ 2) m) (tr (seqQ (f := fun ρ m => s_model_book_bgp_2 G (ρ 8) (ρ 7) (ρ 4) (ρ 2) (ρ 9) (ρ 3) m) (tr (seqQ (f := fun ρ m => s_model_book_bgp_3 G (ρ 7) (ρ 8) (ρ 9) (ρ 3) m) (tr (tr (seqQ (f := fun ρ m => s_model_book_bgp_4 G (ρ 7) (ρ 8) (ρ 9) (ρ 3) m) (tr (seqQ (f := fun ρ m => s_model_book_bgp_5 G (ρ 7) (ρ 12) (ρ 8) (ρ 9) (ρ 3) m) (tr (tr (seqQ (f := fun ρ m => s_model_book_bgp_6 G (ρ 8) (ρ 9) (ρ 3) (ρ 7) m) (tr (seqQ (f := fun ρ m => s_model_book_bgp_7 G (ρ 6) m) (fun ρ m => by kernel_rfl)) (fun ρ m => by kernel_rfl))) (seqQ (f := fun ρ m => s_model_book_bgp_8 G (ρ 83) (ρ 82) (ρ 81) (ρ 12) (ρ 8) (ρ 9) (ρ 3) (ρ 7) m) (tr (blockQ (loopQ (fun i ρ m => s_model_book_bgp_9 G i (ρ 83) (ρ 82) (ρ 81) (ρ 12) (ρ 8) (ρ 9) (ρ 3) (ρ 7) m) (fun _ _ => rfl) (fun i0 => tr (seqQ (f := fun ρ m => s_model_book_bgp_10 G (s_model_book_bgp_9 G i0) (ρ 84) (ρ 81) (ρ 83) (ρ 12) (ρ 8) (ρ 9) (ρ 3) (ρ 82) (ρ 7) m) (tr (seqQ (f := fun ρ m => s_model_book_bgp_11 G (s_model_book_bgp_9 G i0) (ρ 81) (ρ 83) (ρ 12) (ρ 8) (ρ 9) (ρ 3) (ρ 82) (ρ 7) m) (tr (tr (seqQ (f := fun ρ m => s_model_book_bgp_12 G (s_model_book_bgp_9 G i0) (ρ 83) (ρ 82) (ρ 81) (ρ 12) (ρ 8) (ρ 9) (ρ 3) (ρ 7) m) (fun ρ m => by kernel_rfl)) (blockQ (seqQ (f := fun ρ m => s_model_book_bgp_13 G (s_model_book_bgp_9 G i0) (ρ 12) (ρ 14) (ρ 8) (ρ 9) (ρ 3) (ρ 83) (ρ 82) (ρ 81) (ρ 7) m) (tr (seqQ (f := fun ρ m => s_model_book_bgp_14 G (s_model_book_bgp_9 G i0) (ρ 8) (ρ 14) (ρ 12) (ρ 9) (ρ 3) (ρ 83) (ρ 82) (ρ 81) (ρ 7) m) (tr (seqQ (f := fun ρ m => s_model_book_bgp_15 G (s_model_book_bgp_9 G i0) (ρ 9) (ρ 3) (ρ 14) (ρ 83) (ρ 82) (ρ 81) (ρ 12) (ρ 8) (ρ 7) m) (fun ρ m => by kernel_rfl)) (fun ρ m => by kernel_rfl))) (fun ρ m => by kernel_rfl))))) (fun ρ m => by kernel_rfl))) (fun ρ m => by kernel_rfl))) (fun ρ m => by kernel_rfl)))) (fun ρ m => by kernel_rfl)))) (fun ρ m => by kernel_rfl))) (fun ρ m => by kernel_rfl))) (seqQ (f := fun ρ m => s_model_book_bgp_16 G (ρ 59) (ρ 58) (ρ 57) (ρ 8) (ρ 7) (ρ 9) (ρ 3) m) (tr (blockQ (loopQ (fun i ρ m => s_model_book_bgp_17 G i (ρ 59) (ρ 58) (ρ 57) (ρ 8) (ρ 7) (ρ 9) (ρ 3) m) (fun _ _ => rfl) (fun i0 => tr (seqQ (f := fun ρ m => s_model_book_bgp_18 G (s_model_book_bgp_17 G i0) (ρ 60) (ρ 59) (ρ 57) (ρ 8) (ρ 7) (ρ 58) (ρ 9) (ρ 3) m) (tr (seqQ (f := fun ρ m => s_model_book_bgp_19 G (s_model_book_bgp_17 G i0) (ρ 59) (ρ 57) (ρ 8) (ρ 7) (ρ 58) (ρ 9) (ρ 3) m) (tr (seqQ (f := fun ρ m => s_model_book_bgp_20 G (s_model_book_bgp_17 G i0) (ρ 59) (ρ 58) (ρ 57) (ρ 8) (ρ 7) (ρ 9) (ρ 3) m) (fun ρ m => by kernel_rfl)) (fun ρ m => by kernel_rfl))) (fun ρ m => by kernel_rfl))) (fun ρ m => by kernel_rfl)))) (fun ρ m => by kernel_rfl)))) (fun ρ m => by kernel_rfl))) (fun ρ m => by kernel_rfl))) (fun ρ m => by kernel_rfl))) (fun ρ m => by kernel_rfl))) (fun ρ m => by kernel_rfl)) m
noncomputable def E_model_book_bgp : Entry Go.Proofs.Tryz.prog := ⟨F_model_book_bgp, Go.Proofs.Tryz.f173, Go.Proofs.Tryz.func173, by kernel_rfl, arg3 (fun G a0 a1 a2 m => s_model_book_bgp G a0 a1 a2 m), okarg3 e_model_book_bgp⟩
/-! 186 waymark/addr.number -/
noncomputable def s_addr_number_2 (G : Gt) (p4 p5 : Value) (m : Mem) : Option Rs :=
  some (.tuple ⟨[p4, p5]⟩, m)
noncomputable def s_addr_number_1 (G : Gt) (p6 p7 p1 p0 : Value) (m : Mem) : Option Rs :=
  bp (pur (bin .eql true false .iface p7 .nilIface) m) fun x0 m =>
  brb x0
    (bp (pur (bin .geq true true .int p6 (.int .i64 0)) m) fun x1 m =>
  brb x1
    (bp (pur (bin .leq false true .int p6 p1) m) fun x2 m =>
  brb x2
    (bp (G.tab F_strconv_Itoa [p6] m) fun x3 m =>
  bp (pur (bin .eql false true .str x3 p0) m) fun x4 m =>
  s_addr_number_2 G p6 x4 m)
    (s_addr_number_2 G p6 (.bool false) m))
    (s_addr_number_2 G p6 (.bool false) m))
    (s_addr_number_2 G p6 (.bool false) m)
noncomputable def s_addr_number_0 (G : Gt) (p0 p1 : Value) (m : Mem) : Option Rs :=
  bp (G.tab F_strconv_Atoi [p0] m) fun x5 m =>
  bp (pur (aExtract x5 0) m) fun x6 m =>
  bp (pur (aExtract x5 1) m) fun x7 m =>
  s_addr_number_1 G x6 x7 p1 p0 m
noncomputable def s_addr_number (G : Gt) (p0 p1 : Value) (m : Mem) : Option Rs :=
  s_addr_number_0 G p0 p1 m
theorem e_addr_number (G : Gt) (a0 a1 : Value) (m : Mem) : evFn Go.Proofs.Tryz.prog G.tab G.rds (drOf Go.Proofs.Tryz.prog G.tab) Go.Proofs.Tryz.f186 [a0, a1] m = s_addr_number G a0 a1 m :=
  evFn_of (r := fun ρ m => s_addr_number G (ρ 0) (ρ 1) m) rfl rfl (tr (seqQ (f := fun ρ m => s_addr_number_0 G (ρ 0) (ρ 1) m) (tr (seqQ (f := fun ρ m => s_addr_number_1 G (ρ 6) (ρ 7) (ρ 1) (ρ 0) m) (tr (seqQ (f := fun ρ m => s_addr_number_2 G (ρ 4) (ρ 5) m) (fun ρ m => by kernel_rfl)) (fun ρ m => by kernel_rfl))) (fun ρ m => by kernel_rfl))) (fun ρ m => by kernel_rfl)) m
noncomputable def E_addr_number : Entry Go.Proofs.Tryz.prog := ⟨F_addr_number, Go.Proofs.Tryz.f186, Go.Proofs.Tryz.func186, by kernel_rfl, arg2 (fun G a0 a1 m => s_addr_number G a0 a1 m), okarg2 e_addr_number⟩
/-! 187 math/bits.LeadingZeros32 -/
noncomputable def s_math_bits_LeadingZeros32 (G : Gt) (p0 : Value) (m : Mem) : Option Rs :=
  bp (G.tab F_math_bits_Len32 [p0] m) fun x0 m =>
  bp (pur (bin .sub true true .int (.int .i64 32) x0) m) fun x1 m =>
  some (x1, m)
theorem e_math_bits_LeadingZeros32 (G : Gt) (a0 : Value) (m : Mem) : evFn Go.Proofs.Tryz.prog G.tab G.rds (drOf Go.Proofs.Tryz.prog G.tab) Go.Proofs.Tryz.f187 [a0] m = s_math_bits_LeadingZeros32 G a0 m :=
  evFn_of (r := fun ρ m => s_math_bits_LeadingZeros32 G (ρ 0) m) rfl rfl (fun ρ m => by kernel_rfl) m
noncomputable def E_math_bits_LeadingZeros32 : Entry Go.Proofs.Tryz.prog := ⟨F_math_bits_LeadingZeros32, Go.Proofs.Tryz.f187, Go.Proofs.Tryz.func187, by kernel_rfl, arg1 (fun G a0 m => s_math_bits_LeadingZeros32 G a0 m), okarg1 e_math_bits_LeadingZeros32⟩
/-! 190 strings.trimRightASCII -/
noncomputable def s_strings_trimRightASCII_1 (G : Gt) (p0 : Value) (m : Mem) : Option Rs :=
  some (p0, m)
noncomputable def s_strings_trimRightASCII_2 (G : Gt) : Nat → Value → Value → Mem → Option Rs
  | 0, _, _, _ => none
  | i + 1, p0, p1, m =>
  bp (pur (lenK 0 p0 m) m) fun x0 m =>
  bp (pur (bin .gtr true true .int x0 (.int .i64 0)) m) fun x1 m =>
  brb x1
    (bp (pur (lenK 0 p0 m) m) fun x2 m =>
  bp (pur (bin .sub true true .int x2 (.int .i64 1)) m) fun x3 m =>
  bp (pur (aIndexStr p0 x3) m) fun x4 m =>
  bp (G.tab F_Pstrings_asciiSet_contains [p1, x4] m) fun x5 m =>
  bp (pur (un .not x5) m) fun x6 m =>
  brb x6
    (s_strings_trimRightASCII_1 G p0 m)
    (bp (pur (lenK 0 p0 m) m) fun x7 m =>
  bp (pur (bin .sub true true .int x7 (.int .i64 1)) m) fun x8 m =>
  bp (pur (aSliceStr p0 none (some x8)) m) fun x9 m =>
  (s_strings_trimRightASCII_2 G i) x9 p1 m))
    (s_strings_trimRightASCII_1 G p0 m)
noncomputable def s_strings_trimRightASCII_0 (G : Gt) (p0 p1 : Value) (m : Mem) : Option Rs :=
  s_strings_trimRightASCII_2 G G.rds p0 p1 m
noncomputable def s_strings_trimRightASCII (G : Gt) (p0 p1 : Value) (m : Mem) : Option Rs :=
  s_strings_trimRightASCII_0 G p0 p1 m
theorem e_strings_trimRightASCII (G : Gt) (a0 a1 : Value) (m : Mem) : evFn Go.Proofs.Tryz.prog G.tab G.rds (drOf Go.Proofs.Tryz.prog G.tab) Go.Proofs.Tryz.f190 [a0, a1] m = s_strings_trimRightASCII G a0 a1 m :=
  evFn_of (r := fun ρ m => s_strings_trimRightASCII G (ρ 0) (ρ 1) m) rfl rfl (tr (seqQ (f := fun ρ m => s_strings_trimRightASCII_0 G (ρ 0) (ρ 1) m) (tr (tr (seqQ (f := fun ρ m => s_strings_trimRightASCII_1 G (ρ 0) m) (fun ρ m => by kernel_rfl)) (blockQ (loopQ (fun i ρ m => s_strings_trimRightASCII_2 G i (ρ 0) (ρ 1) m) (fun _ _ => rfl) (fun i0 => fun ρ m => by kernel_rfl)))) (fun ρ m => by kernel_rfl))) (fun ρ m => by kernel_rfl)) m
noncomputable def E_strings_trimRightASCII : Entry Go.Proofs.Tryz.prog := ⟨F_strings_trimRightASCII, Go.Proofs.Tryz.f190, Go.Proofs.Tryz.func190, by kernel_rfl, arg2 (fun G a0 a1 m => s_strings_trimRightASCII G a0 a1 m), okarg2 e_strings_trimRightASCII⟩
/-! 194 slices.IndexFunc[[]waymark/api.Peer,waymark/api.Peer] -/
noncomputable def s_slices_IndexFuncLLJapi_PeerCapi_PeerJ_1 (G : Gt) (m : Mem) : Option Rs :=
  some ((.int .i64 (-1)), m)
noncomputable def s_slices_IndexFuncLLJapi_PeerCapi_PeerJ_3 (G : Gt) : Nat → Value → Value → Value → Value → Mem → Option Rs
  | 0, _, _, _, _, _ => none
  | i + 1, p8, p7, p1, p0, m =>
  bp (pur (bin .lss false true .int p8 p7) m) fun x0 m =>
  brb x0
    (bp (pur (aIndexAddrSl 6 p0 p8) m) fun x1 m =>
  bp (pur (aLoad true 6 x1 m) m) fun x2 m =>
  bp (evCall G.tab p1 [x2] m) fun x3 m =>
  brb x3
    (some (p8, m))
    (bp (pur (bin .add true true .int p8 (.int .i64 1)) m) fun x4 m =>
  (s_slices_IndexFuncLLJapi_PeerCapi_PeerJ_3 G i) x4 p7 p1 p0 m))
    (s_slices_IndexFuncLLJapi_PeerCapi_PeerJ_1 G m)
noncomputable def s_slices_IndexFuncLLJapi_PeerCapi_PeerJ_2 (G : Gt) (p8 p7 p1 p0 : Value) (m : Mem) : Option Rs :=
  s_slices_IndexFuncLLJapi_PeerCapi_PeerJ_3 G G.rds p8 p7 p1 p0 m
noncomputable def s_slices_IndexFuncLLJapi_PeerCapi_PeerJ_0 (G : Gt) (p0 p1 : Value) (m : Mem) : Option Rs :=
  bp (pur (lenK 1 p0 m) m) fun x5 m =>
  s_slices_IndexFuncLLJapi_PeerCapi_PeerJ_2 G (.int .i64 0) x5 p1 p0 m
noncomputable def s_slices_IndexFuncLLJapi_PeerCapi_PeerJ (G : Gt) (p0 p1 : Value) (m : Mem) : Option Rs :=
  s_slices_IndexFuncLLJapi_PeerCapi_PeerJ_0 G p0 p1 m
theorem e_slices_IndexFuncLLJapi_PeerCapi_PeerJ (G : Gt) (a0 a1 : Value) (m : Mem) : evFn Go.Proofs.Tryz.prog G.tab G.rds (drOf Go.Proofs.Tryz.prog G.tab) Go.Proofs.Tryz.f194 [a0, a1] m = s_slices_IndexFuncLLJapi_PeerCapi_PeerJ G a0 a1 m :=
  evFn_of (r := fun ρ m => s_slices_IndexFuncLLJapi_PeerCapi_PeerJ G (ρ 0) (ρ 1) m) rfl rfl (tr (seqQ (f := fun ρ m => s_slices_IndexFuncLLJapi_PeerCapi_PeerJ_0 G (ρ 0) (ρ 1) m) (tr (tr (seqQ (f := fun ρ m => s_slices_IndexFuncLLJapi_PeerCapi_PeerJ_1 G m) (fun ρ m => by kernel_rfl)) (seqQ (f := fun ρ m => s_slices_IndexFuncLLJapi_PeerCapi_PeerJ_2 G (ρ 8) (ρ 7) (ρ 1) (ρ 0) m) (tr (blockQ (loopQ (fun i ρ m => s_slices_IndexFuncLLJapi_PeerCapi_PeerJ_3 G i (ρ 8) (ρ 7) (ρ 1) (ρ 0) m) (fun _ _ => rfl) (fun i0 => fun ρ m => by kernel_rfl))) (fun ρ m => by kernel_rfl)))) (fun ρ m => by kernel_rfl))) (fun ρ m => by kernel_rfl)) m
noncomputable def E_slices_IndexFuncLLJapi_PeerCapi_PeerJ : Entry Go.Proofs.Tryz.prog := ⟨F_slices_IndexFuncLLJapi_PeerCapi_PeerJ, Go.Proofs.Tryz.f194, Go.Proofs.Tryz.func194, by kernel_rfl, arg2 (fun G a0 a1 m => s_slices_IndexFuncLLJapi_PeerCapi_PeerJ G a0 a1 m), okarg2 e_slices_IndexFuncLLJapi_PeerCapi_PeerJ⟩
/-! 195 (*waymark/flat.parser).neighbor$1 -/
noncomputable def s_Pflat_parser_neighborS1 (G : Gt) (p0 p1 : Value) (m : Mem) : Option Rs :=
  bp (some (aNew T_api_Peer (Value.cells p0).toList m)) fun x0 m =>
  bp (pur (aFieldAddr 0 x0) m) fun x1 m =>
  bp (pur (aLoad false 1 x1 m) m) fun x2 m =>
  bp (pur (aLoad false 1 p1 m) m) fun x3 m =>
  bp (pur (bin .eql false true .int x2 x3) m) fun x4 m =>
  some (x4, m)
theorem e_Pflat_parser_neighborS1 (G : Gt) (a0 a1 : Value) (m : Mem) : evFn Go.Proofs.Tryz.prog G.tab G.rds (drOf Go.Proofs.Tryz.prog G.tab) Go.Proofs.Tryz.f195 [a0, a1] m = s_Pflat_parser_neighborS1 G a0 a1 m :=
  evFn_of (r := fun ρ m => s_Pflat_parser_neighborS1 G (ρ 0) (ρ 1) m) rfl rfl (fun ρ m => by kernel_rfl) m
noncomputable def E_Pflat_parser_neighborS1 : Entry Go.Proofs.Tryz.prog := ⟨F_Pflat_parser_neighborS1, Go.Proofs.Tryz.f195, Go.Proofs.Tryz.func195, by kernel_rfl, arg2 (fun G a0 a1 m => s_Pflat_parser_neighborS1 G a0 a1 m), okarg2 e_Pflat_parser_neighborS1⟩
/-! 197 waymark/model.count[string] -/
noncomputable def s_model_countLstringJ_2 (G : Gt) (p5 : Value) (m : Mem) : Option Rs :=
  some (p5, m)
noncomputable def s_model_countLstringJ_4 (G : Gt) : Nat → Value → Value → Value → Value → Value → Mem → Option Rs
  | 0, _, _, _, _, _, _ => none
  | i + 1, p11, p10, p9, p5, p1, m =>
  bp (pur (bin .lss false true .int p11 p10) m) fun x0 m =>
  brb x0
    (bp (pur (aIndexAddrSl 1 p9 p11) m) fun x1 m =>
  bp (pur (aLoad false 1 x1 m) m) fun x2 m =>
  bp (evCall G.tab p1 [x2] m) fun x3 m =>
  bp (pur (aLookup .str (.int .i64 0) false p5 x3 m) m) fun x4 m =>
  bp (pur (bin .add true true .int x4 (.int .i64 1)) m) fun x5 m =>
  bp (unt (aMapUpdate .str p5 x3 x5 m)) fun _ m =>
  bp (pur (bin .add true true .int p11 (.int .i64 1)) m) fun x6 m =>
  (s_model_countLstringJ_4 G i) x6 p10 p9 p5 p1 m)
    (s_model_countLstringJ_2 G p5 m)
noncomputable def s_model_countLstringJ_3 (G : Gt) (p11 p10 p9 p5 p1 : Value) (m : Mem) : Option Rs :=
  s_model_countLstringJ_4 G G.rds p11 p10 p9 p5 p1 m
noncomputable def s_model_countLstringJ_1 (G : Gt) (p0 p5 p1 : Value) (m : Mem) : Option Rs :=
  bp (pur (lenK 1 p0 m) m) fun x7 m =>
  s_model_countLstringJ_3 G (.int .i64 0) x7 p0 p5 p1 m
noncomputable def s_model_countLstringJ_0 (G : Gt) (p0 p1 : Value) (m : Mem) : Option Rs :=
  bp (some (aMakeMap m)) fun x8 m =>
  s_model_countLstringJ_1 G p0 x8 p1 m
noncomputable def s_model_countLstringJ (G : Gt) (p0 p1 : Value) (m : Mem) : Option Rs :=
  s_model_countLstringJ_0 G p0 p1 m
theorem e_model_countLstringJ (G : Gt) (a0 a1 : Value) (m : Mem) : evFn Go.Proofs.Tryz.prog G.tab G.rds (drOf Go.Proofs.Tryz.prog G.tab) Go.Proofs.Tryz.f197 [a0, a1] m = s_model_countLstringJ G a0 a1 m :=
  evFn_of (r := fun ρ m => s_model_countLstringJ G (ρ 0) (ρ 1) m) rfl rfl (tr (seqQ (f := fun ρ m => s_model_countLstringJ_0 G (ρ 0) (ρ 1) m) (tr (seqQ (f := fun ρ m => s_model_countLstringJ_1 G (ρ 0) (ρ 5) (ρ 1) m) (tr (tr (seqQ (f := fun ρ m => s_model_countLstringJ_2 G (ρ 5) m) (fun ρ m => by kernel_rfl)) (seqQ (f := fun ρ m => s_model_countLstringJ_3 G (ρ 11) (ρ 10) (ρ 9) (ρ 5) (ρ 1) m) (tr (blockQ (loopQ (fun i ρ m => s_model_countLstringJ_4 G i (ρ 11) (ρ 10) (ρ 9) (ρ 5) (ρ 1) m) (fun _ _ => rfl) (fun i0 => fun ρ m => by kernel_rfl))) (fun ρ m => by kernel_rfl)))) (fun ρ m => by kernel_rfl))) (fun ρ m => by kernel_rfl))) (fun ρ m => by kernel_rfl)) m
noncomputable def E_model_countLstringJ : Entry Go.Proofs.Tryz.prog := ⟨F_model_countLstringJ, Go.Proofs.Tryz.f197, Go.Proofs.Tryz.func197, by kernel_rfl, arg2 (fun G a0 a1 m => s_model_countLstringJ G a0 a1 m), okarg2 e_model_countLstringJ⟩
/-! 198 waymark/model.count[waymark/api.Filter] -/
noncomputable def s_model_countLapi_FilterJ_2 (G : Gt) (p5 : Value) (m : Mem) : Option Rs :=
  some (p5, m)
noncomputable def s_model_countLapi_FilterJ_4 (G : Gt) : Nat → Value → Value → Value → Value → Value → Mem → Option Rs
  | 0, _, _, _, _, _, _ => none
  | i + 1, p11, p10, p9, p5, p1, m =>
  bp (pur (bin .lss false true .int p11 p10) m) fun x0 m =>
  brb x0
    (bp (pur (aIndexAddrSl 2 p9 p11) m) fun x1 m =>
  bp (pur (aLoad true 2 x1 m) m) fun x2 m =>
  bp (some (aNew T_api_Filter z_api_Filter m)) fun x3 m =>
  bp (unt (aStore 2 x3 x2 m)) fun _ m =>
  bp (pur (aLoad true 2 x3 m) m) fun x4 m =>
  bp (evCall G.tab p1 [x4] m) fun x5 m =>
  bp (pur (aLookup .str (.int .i64 0) false p5 x5 m) m) fun x6 m =>
  bp (pur (bin .add true true .int x6 (.int .i64 1)) m) fun x7 m =>
  bp (unt (aMapUpdate .str p5 x5 x7 m)) fun _ m =>
  bp (pur (bin .add true true .int p11 (.int .i64 1)) m) fun x8 m =>
  (s_model_countLapi_FilterJ_4 G i) x8 p10 p9 p5 p1 m)
    (s_model_countLapi_FilterJ_2 G p5 m)
noncomputable def s_model_countLapi_FilterJ_3 (G : Gt) (p11 p10 p9 p5 p1 : Value) (m : Mem) : Option Rs :=
  s_model_countLapi_FilterJ_4 G G.rds p11 p10 p9 p5 p1 m
noncomputable def s_model_countLapi_FilterJ_1 (G : Gt) (p0 p5 p1 : Value) (m : Mem) : Option Rs :=
  bp (pur (lenK 1 p0 m) m) fun x9 m =>
  s_model_countLapi_FilterJ_3 G (.int .i64 0) x9 p0 p5 p1 m
noncomputable def s_model_countLapi_FilterJ_0 (G : Gt) (p0 p1 : Value) (m : Mem) : Option Rs :=
  bp (some (aMakeMap m)) fun x10 m =>
  s_model_countLapi_FilterJ_1 G p0 x10 p1 m
noncomputable def s_model_countLapi_FilterJ (G : Gt) (p0 p1 : Value) (m : Mem) : Option Rs :=
  s_model_countLapi_FilterJ_0 G p0 p1 m
theorem e_model_countLapi_FilterJ (G : Gt) (a0 a1 : Value) (m : Mem) : evFn Go.Proofs.Tryz.prog G.tab G.rds (drOf Go.Proofs.Tryz.prog G.tab) Go.Proofs.Tryz.f198 [a0, a1] m = s_model_countLapi_FilterJ G a0 a1 m :=
  evFn_of (r := fun ρ m => s_model_countLapi_FilterJ G (ρ 0) (ρ 1) m) rfl rfl (tr (seqQ (f := fun ρ m => s_model_countLapi_FilterJ_0 G (ρ 0) (ρ 1) m) (tr (seqQ (f := fun ρ m => s_model_countLapi_FilterJ_1 G (ρ 0) (ρ 5) (ρ 1) m) (tr (tr (seqQ (f := fun ρ m => s_model_countLapi_FilterJ_2 G (ρ 5) m) (fun ρ m => by kernel_rfl)) (seqQ (f := fun ρ m => s_model_countLapi_FilterJ_3 G (ρ 11) (ρ 10) (ρ 9) (ρ 5) (ρ 1) m) (tr (blockQ (loopQ (fun i ρ m => s_model_countLapi_FilterJ_4 G i (ρ 11) (ρ 10) (ρ 9) (ρ 5) (ρ 1) m) (fun _ _ => rfl) (fun i0 => fun ρ m => by kernel_rfl))) (fun ρ m => by kernel_rfl)))) (fun ρ m => by kernel_rfl))) (fun ρ m => by kernel_rfl))) (fun ρ m => by kernel_rfl)) m
noncomputable def E_model_countLapi_FilterJ : Entry Go.Proofs.Tryz.prog := ⟨F_model_countLapi_FilterJ, Go.Proofs.Tryz.f198, Go.Proofs.Tryz.func198, by kernel_rfl, arg2 (fun G a0 a1 m => s_model_countLapi_FilterJ G a0 a1 m), okarg2 e_model_countLapi_FilterJ⟩
end Go.Ab.Sh
