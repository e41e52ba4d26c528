/-
  Functions of the program as plain definitions, each with the theorem that it is what the evaluator makes of the code. No conditions.
-/
import Derived.Test.YtbjgjnkihdddlaaGreatDoorAb4
import Derived.Test.YtbjgjnkihdddlaaGreatDoorZ
import Derived.KernelRfl
import Derived.Test.YtbjgjnkihdddlaaGreatDoorProg
set_option linter.unusedVariables false
set_option maxRecDepth 100000
namespace Go.Ab.Sh
open Go Go.Ab
/-! 108 math/bits.Len64 -/
noncomputable def s_math_bits_Len64_3 (G : Gt) (p2 p0 : Value) (m : Mem) : Option Rs :=
  bp (conv (.int .u8) p0 m) fun x0 m =>
  bp (pur (aIndexStr (.string ⟨#[0, 1, 2, 2, 3, 3, 3, 3, 4, 4, 4, 4, 4, 4, 4, 4, 5, 5, 5, 5, 5, 5, 5, 5, 5, 5, 5, 5, 5, 5, 5, 5, 6, 6, 6, 6, 6, 6, 6, 6, 6, 6, 6, 6, 6, 6, 6, 6, 6, 6, 6, 6, 6, 6, 6, 6, 6, 6, 6, 6, 6, 6, 6, 6, 7, 7, 7, 7, 7, 7, 7, 7, 7, 7, 7, 7, 7, 7, 7, 7, 7, 7, 7, 7, 7, 7, 7, 7, 7, 7, 7, 7, 7, 7, 7, 7, 7, 7, 7, 7, 7, 7, 7, 7, 7, 7, 7, 7, 7, 7, 7, 7, 7, 7, 7, 7, 7, 7, 7, 7, 7, 7, 7, 7, 7, 7, 7, 7, 8, 8, 8, 8, 8, 8, 8, 8, 8, 8, 8, 8, 8, 8, 8, 8, 8, 8, 8, 8, 8, 8, 8, 8, 8, 8, 8, 8, 8, 8, 8, 8, 8, 8, 8, 8, 8, 8, 8, 8, 8, 8, 8, 8, 8, 8, 8, 8, 8, 8, 8, 8, 8, 8, 8, 8, 8, 8, 8, 8, 8, 8, 8, 8, 8, 8, 8, 8, 8, 8, 8, 8, 8, 8, 8, 8, 8, 8, 8, 8, 8, 8, 8, 8, 8, 8, 8, 8, 8, 8, 8, 8, 8, 8, 8, 8, 8, 8, 8, 8, 8, 8, 8, 8, 8, 8, 8, 8, 8, 8, 8, 8, 8, 8, 8, 8, 8, 8, 8, 8, 8, 8, 8, 8, 8, 8, 8, 8]⟩) x0) m) fun x1 m =>
  bp (conv (.int .i64) x1 m) fun x2 m =>
  bp (pur (bin .add false true .int p2 x2) m) fun x3 m =>
  some (x3, m)
noncomputable def s_math_bits_Len64_2 (G : Gt) (p0 p2 : Value) (m : Mem) : Option Rs :=
  bp (pur (bin .geq true true .int p0 (.int .u64 256)) m) fun x4 m =>
  brb x4
    (bp (pur (bin .shr true true .int p0 (.int .u64 8)) m) fun x5 m =>
  bp (pur (bin .add true true .int p2 (.int .i64 8)) m) fun x6 m =>
  s_math_bits_Len64_3 G x6 x5 m)
    (s_math_bits_Len64_3 G p2 p0 m)
noncomputable def s_math_bits_Len64_1 (G : Gt) (p0 p2 : Value) (m : Mem) : Option Rs :=
  bp (pur (bin .geq true true .int p0 (.int .u64 65536)) m) fun x7 m =>
  brb x7
    (bp (pur (bin .shr true true .int p0 (.int .u64 16)) m) fun x8 m =>
  bp (pur (bin .add true true .int p2 (.int .i64 16)) m) fun x9 m =>
  s_math_bits_Len64_2 G x8 x9 m)
    (s_math_bits_Len64_2 G p0 p2 m)
noncomputable def s_math_bits_Len64_0 (G : Gt) (p0 p2 : Value) (m : Mem) : Option Rs :=
  bp (pur (bin .geq true true .int p0 (.int .u64 4294967296)) m) fun x10 m =>
  brb x10
    (bp (pur (bin .shr true true .int p0 (.int .u64 32)) m) fun x11 m =>
  s_math_bits_Len64_1 G x11 (.int .i64 32) m)
    (s_math_bits_Len64_1 G p0 p2 m)
noncomputable def s_math_bits_Len64 (G : Gt) (p0 : Value) (m : Mem) : Option Rs :=
  s_math_bits_Len64_0 G p0 (.int .i64 0) m
theorem e_math_bits_Len64 (G : Gt) (a0 : Value) (m : Mem) : evFn Go.Proofs.Tryz.prog G.tab G.rds (drOf Go.Proofs.Tryz.prog G.tab) Go.Proofs.Tryz.f108 [a0] m = s_math_bits_Len64 G a0 m :=
  evFn_of (r := fun ρ m => s_math_bits_Len64 G (ρ 0) m) rfl rfl (tr (seqQ (f := fun ρ m => s_math_bits_Len64_0 G (ρ 0) (ρ 2) m) (tr (seqQ (f := fun ρ m => s_math_bits_Len64_1 G (ρ 0) (ρ 2) m) (tr (seqQ (f := fun ρ m => s_math_bits_Len64_2 G (ρ 0) (ρ 2) m) (tr (seqQ (f := fun ρ m => s_math_bits_Len64_3 G (ρ 2) (ρ 0) m) (fun ρ m => by kernel_rfl)) (fun ρ m => by kernel_rfl))) (fun ρ m => by kernel_rfl))) (fun ρ m => by kernel_rfl))) (fun ρ m => by kernel_rfl)) m
noncomputable def E_math_bits_Len64 : Entry Go.Proofs.Tryz.prog := ⟨F_math_bits_Len64, Go.Proofs.Tryz.f108, Go.Proofs.Tryz.func108, by kernel_rfl, arg1 (fun G a0 m => s_math_bits_Len64 G a0 m), okarg1 e_math_bits_Len64⟩
/-! 109 waymark/model.name -/
noncomputable def s_model_name_2 (G : Gt) (m : Mem) : Option Rs :=
  some ((.bool true), m)
noncomputable def s_model_name_9 (G : Gt) (k0 : Value → Value → Value → Mem → Option Rs) (p55 p16 p15 p14 : Value) (m : Mem) : Option Rs :=
  brb p55
    (some ((.bool false), m))
    (bp (pur (bin .add true true .int p16 (.int .i64 1)) m) fun x0 m =>
  k0 x0 p15 p14 m)
noncomputable def s_model_name_8 (G : Gt) (k0 : Value → Value → Value → Mem → Option Rs) (p5 p3 p4 p16 p15 p14 : Value) (m : Mem) : Option Rs :=
  bp (pur (un .not p5) m) fun x1 m =>
  brb x1
    (bp (pur (bin .eql true true .int p3 (.int .i64 0)) m) fun x2 m =>
  brb x2
    (s_model_name_9 G k0 (.bool true) p16 p15 p14 m)
    (bp (pur (bin .leq true true .int (.int .u8 48) p4) m) fun x3 m =>
  brb x3
    (bp (pur (bin .leq true true .int p4 (.int .u8 57)) m) fun x4 m =>
  bp (pur (un .not x4) m) fun x5 m =>
  brb x5
    (bp (conv .intStr p4 m) fun x6 m =>
  bp (G.tab F_strings_Contains [(.string ⟨#[45, 95, 46, 47]⟩), x6] m) fun x7 m =>
  bp (pur (un .not x7) m) fun x8 m =>
  s_model_name_9 G k0 x8 p16 p15 p14 m)
    (s_model_name_9 G k0 (.bool false) p16 p15 p14 m))
    (bp (pur (un .not (.bool false)) m) fun x9 m =>
  brb x9
    (bp (conv .intStr p4 m) fun x10 m =>
  bp (G.tab F_strings_Contains [(.string ⟨#[45, 95, 46, 47]⟩), x10] m) fun x11 m =>
  bp (pur (un .not x11) m) fun x12 m =>
  s_model_name_9 G k0 x12 p16 p15 p14 m)
    (s_model_name_9 G k0 (.bool false) p16 p15 p14 m))))
    (s_model_name_9 G k0 (.bool false) p16 p15 p14 m)
noncomputable def s_model_name_7 (G : Gt) (k0 : Value → Value → Value → Mem → Option Rs) (p4 p3 p16 p15 p14 : Value) (m : Mem) : Option Rs :=
  bp (pur (bin .leq true true .int (.int .u8 97) p4) m) fun x13 m =>
  brb x13
    (bp (pur (bin .leq true true .int p4 (.int .u8 122)) m) fun x14 m =>
  brb x14
    (s_model_name_8 G k0 (.bool true) p3 p4 p16 p15 p14 m)
    (bp (pur (bin .leq true true .int (.int .u8 65) p4) m) fun x15 m =>
  brb x15
    (bp (pur (bin .leq true true .int p4 (.int .u8 90)) m) fun x16 m =>
  s_model_name_8 G k0 x16 p3 p4 p16 p15 p14 m)
    (s_model_name_8 G k0 (.bool false) p3 p4 p16 p15 p14 m)))
    (bp (pur (bin .leq true true .int (.int .u8 65) p4) m) fun x17 m =>
  brb x17
    (bp (pur (bin .leq true true .int p4 (.int .u8 90)) m) fun x18 m =>
  s_model_name_8 G k0 x18 p3 p4 p16 p15 p14 m)
    (s_model_name_8 G k0 (.bool false) p3 p4 p16 p15 p14 m))
noncomputable def s_model_name_6 (G : Gt) (k0 : Value → Value → Value → Mem → Option Rs) (p16 p14 p15 : Value) (m : Mem) : Option Rs :=
  bp (pur (aIndexAddrSl 1 p14 p16) m) fun x19 m =>
  bp (pur (aLoad false 1 x19 m) m) fun x20 m =>
  s_model_name_7 G k0 x20 p16 p16 p15 p14 m
noncomputable def s_model_name_5 (G : Gt) (k0 : Value → Value → Value → Mem → Option Rs) (p17 p16 p14 p15 : Value) (m : Mem) : Option Rs :=
  brb p17
    (s_model_name_6 G k0 p16 p14 p15 m)
    (s_model_name_2 G m)
noncomputable def s_model_name_4 (G : Gt) : Nat → Value → Value → Value → Mem → Option Rs
  | 0, _, _, _, _ => none
  | i + 1, p16, p15, p14, m =>
  bp (pur (bin .lss false true .int p16 p15) m) fun x21 m =>
  s_model_name_5 G (s_model_name_4 G i) x21 p16 p14 p15 m
noncomputable def s_model_name_3 (G : Gt) (p16 p15 p14 : Value) (m : Mem) : Option Rs :=
  s_model_name_4 G G.rds p16 p15 p14 m
noncomputable def s_model_name_1 (G : Gt) (p0 : Value) (m : Mem) : Option Rs :=
  bp (conv .bytes p0 m) fun x22 m =>
  bp (pur (lenK 1 x22 m) m) fun x23 m =>
  s_model_name_3 G (.int .i64 0) x23 x22 m
noncomputable def s_model_name_10 (G : Gt) (p12 p0 : Value) (m : Mem) : Option Rs :=
  brb p12
    (some ((.bool false), m))
    (s_model_name_1 G p0 m)
noncomputable def s_model_name_0 (G : Gt) (p0 : Value) (m : Mem) : Option Rs :=
  bp (pur (bin .eql true true .str p0 (.string ⟨#[]⟩)) m) fun x24 m =>
  brb x24
    (s_model_name_10 G (.bool true) p0 m)
    (bp (pur (lenK 0 p0 m) m) fun x25 m =>
  bp (pur (bin .gtr true true .int x25 (.int .i64 32)) m) fun x26 m =>
  s_model_name_10 G x26 p0 m)
noncomputable def s_model_name (G : Gt) (p0 : Value) (m : Mem) : Option Rs :=
  s_model_name_0 G p0 m
theorem e_model_name (G : Gt) (a0 : Value) (m : Mem) : evFn Go.Proofs.Tryz.prog G.tab G.rds (drOf Go.Proofs.Tryz.prog G.tab) Go.Proofs.Tryz.f109 [a0] m = s_model_name G a0 m :=
  evFn_of (r := fun ρ m => s_model_name G (ρ 0) m) rfl rfl (tr (seqQ (f := fun ρ m => s_model_name_0 G (ρ 0) m) (tr (tr (seqQ (f := fun ρ m => s_model_name_1 G (ρ 0) m) (tr (tr (seqQ (f := fun ρ m => s_model_name_2 G m) (fun ρ m => by kernel_rfl)) (seqQ (f := fun ρ m => s_model_name_3 G (ρ 16) (ρ 15) (ρ 14) m) (tr (blockQ (loopQ (fun i ρ m => s_model_name_4 G i (ρ 16) (ρ 15) (ρ 14) m) (fun _ _ => rfl) (fun i0 => tr (seqQ (f := fun ρ m => s_model_name_5 G (s_model_name_4 G i0) (ρ 17) (ρ 16) (ρ 14) (ρ 15) m) (tr (seqQ (f := fun ρ m => s_model_name_6 G (s_model_name_4 G i0) (ρ 16) (ρ 14) (ρ 15) m) (tr (tr seqD (blockQ (seqQ (f := fun ρ m => s_model_name_7 G (s_model_name_4 G i0) (ρ 4) (ρ 3) (ρ 16) (ρ 15) (ρ 14) m) (tr (seqQ (f := fun ρ m => s_model_name_8 G (s_model_name_4 G i0) (ρ 5) (ρ 3) (ρ 4) (ρ 16) (ρ 15) (ρ 14) m) (tr (seqQ (f := fun ρ m => s_model_name_9 G (s_model_name_4 G i0) (ρ 55) (ρ 16) (ρ 15) (ρ 14) m) (fun ρ m => by kernel_rfl)) (fun ρ m => by kernel_rfl))) (fun ρ m => by kernel_rfl))))) (fun ρ m => by kernel_rfl))) (fun ρ m => by kernel_rfl))) (fun ρ m => by kernel_rfl)))) (fun ρ m => by kernel_rfl)))) (fun ρ m => by kernel_rfl))) (seqQ (f := fun ρ m => s_model_name_10 G (ρ 12) (ρ 0) m) (fun ρ m => by kernel_rfl))) (fun ρ m => by kernel_rfl))) (fun ρ m => by kernel_rfl)) m
noncomputable def E_model_name : Entry Go.Proofs.Tryz.prog := ⟨F_model_name, Go.Proofs.Tryz.f109, Go.Proofs.Tryz.func109, by kernel_rfl, arg1 (fun G a0 m => s_model_name G a0 m), okarg1 e_model_name⟩
/-! 110 waymark/model.partsOf -/
noncomputable def s_model_partsOf (G : Gt) (p0 : Value) (m : Mem) : Option Rs :=
  bp (some (aNew T_api_Device (Value.cells p0).toList m)) fun x0 m =>
  bp (pur (aLoad true 12 x0 m) m) fun x1 m =>
  bp (G.tab F_model_bookOf [x1] m) fun x2 m =>
  bp (some (aNew T_model_book z_model_book m)) fun x3 m =>
  bp (unt (aStore 5 x3 x2 m)) fun _ m =>
  bp (pur (aFieldAddr 2 x0) m) fun x4 m =>
  bp (pur (aLoad false 1 x4 m) m) fun x5 m =>
  bp (pur (lenK 1 x5 m) m) fun x6 m =>
  bp (pur (aBuild z_model_part [(0, 1), (1, 1), (2, 1), (3, 1)] [(0, (.string ⟨#[118, 114, 102]⟩)), (1, x6), (2, (.int .i64 256)), (3, (.func (.func F_model_partsOfS1) ⟨[]⟩ ⟨[x0]⟩))]) m) fun x7 m =>
  bp (pur (aFieldAddr 3 x0) m) fun x8 m =>
  bp (pur (aLoad false 1 x8 m) m) fun x9 m =>
  bp (pur (lenK 1 x9 m) m) fun x10 m =>
  bp (pur (aBuild z_model_part [(0, 1), (1, 1), (2, 1), (3, 1)] [(0, (.string ⟨#[105, 102, 97, 99, 101]⟩)), (1, x10), (2, (.int .i64 64)), (3, (.func (.func F_model_partsOfS2) ⟨[]⟩ ⟨[x3, x0]⟩))]) m) fun x11 m =>
  bp (pur (aFieldAddr 4 x0) m) fun x12 m =>
  bp (pur (aLoad false 1 x12 m) m) fun x13 m =>
  bp (pur (lenK 1 x13 m) m) fun x14 m =>
  bp (pur (aBuild z_model_part [(0, 1), (1, 1), (2, 1), (3, 1)] [(0, (.string ⟨#[102, 105, 108, 116, 101, 114]⟩)), (1, x14), (2, (.int .i64 256)), (3, (.func (.func F_model_partsOfS3) ⟨[]⟩ ⟨[x0]⟩))]) m) fun x15 m =>
  bp (pur (aFieldAddr 5 x0) m) fun x16 m =>
  bp (pur (aLoad false 1 x16 m) m) fun x17 m =>
  bp (pur (lenK 1 x17 m) m) fun x18 m =>
  bp (pur (aBuild z_model_part [(0, 1), (1, 1), (2, 1), (3, 1)] [(0, (.string ⟨#[114, 101, 119, 114, 105, 116, 101]⟩)), (1, x18), (2, (.int .i64 256)), (3, (.func (.func F_model_partsOfS4) ⟨[]⟩ ⟨[x0, x3]⟩))]) m) fun x19 m =>
  bp (pur (aFieldAddr 6 x0) m) fun x20 m =>
  bp (pur (aLoad false 1 x20 m) m) fun x21 m =>
  bp (pur (lenK 1 x21 m) m) fun x22 m =>
  bp (pur (aBuild z_model_part [(0, 1), (1, 1), (2, 1), (3, 1)] [(0, (.string ⟨#[115, 116, 97, 116, 105, 99]⟩)), (1, x22), (2, (.int .i64 256)), (3, (.func (.func F_model_partsOfS5) ⟨[]⟩ ⟨[x3, x0]⟩))]) m) fun x23 m =>
  bp (pur (aFieldAddr 7 x0) m) fun x24 m =>
  bp (pur (aLoad false 1 x24 m) m) fun x25 m =>
  bp (pur (lenK 1 x25 m) m) fun x26 m =>
  bp (pur (aBuild z_model_part [(0, 1), (1, 1), (2, 1), (3, 1)] [(0, (.string ⟨#[112, 114, 101, 102, 105, 120, 101, 115]⟩)), (1, x26), (2, (.int .i64 256)), (3, (.func (.func F_model_partsOfS6) ⟨[]⟩ ⟨[x0]⟩))]) m) fun x27 m =>
  bp (pur (aFieldAddr 8 x0) m) fun x28 m =>
  bp (pur (aLoad false 1 x28 m) m) fun x29 m =>
  bp (pur (lenK 1 x29 m) m) fun x30 m =>
  bp (pur (aBuild z_model_part [(0, 1), (1, 1), (2, 1), (3, 1)] [(0, (.string ⟨#[99, 111, 109, 109, 117, 110, 105, 116, 105, 101, 115]⟩)), (1, x30), (2, (.int .i64 256)), (3, (.func (.func F_model_partsOfS7) ⟨[]⟩ ⟨[x0]⟩))]) m) fun x31 m =>
  bp (pur (aFieldAddr 9 x0) m) fun x32 m =>
  bp (pur (aLoad false 1 x32 m) m) fun x33 m =>
  bp (pur (lenK 1 x33 m) m) fun x34 m =>
  bp (pur (aBuild z_model_part [(0, 1), (1, 1), (2, 1), (3, 1)] [(0, (.string ⟨#[112, 111, 108, 105, 99, 121]⟩)), (1, x34), (2, (.int .i64 256)), (3, (.func (.func F_model_partsOfS8) ⟨[]⟩ ⟨[x3, x0]⟩))]) m) fun x35 m =>
  bp (pur (aFieldAddr 10 x0) m) fun x36 m =>
  bp (pur (aLoad false 1 x36 m) m) fun x37 m =>
  bp (pur (lenK 1 x37 m) m) fun x38 m =>
  bp (pur (aBuild z_model_part [(0, 1), (1, 1), (2, 1), (3, 1)] [(0, (.string ⟨#[111, 115, 112, 102]⟩)), (1, x38), (2, (.int .i64 256)), (3, (.func (.func F_model_partsOfS9) ⟨[]⟩ ⟨[x3, x0]⟩))]) m) fun x39 m =>
  bp (pur (aFieldAddr 11 x0) m) fun x40 m =>
  bp (pur (aLoad false 1 x40 m) m) fun x41 m =>
  bp (pur (lenK 1 x41 m) m) fun x42 m =>
  bp (pur (aBuild z_model_part [(0, 1), (1, 1), (2, 1), (3, 1)] [(0, (.string ⟨#[98, 103, 112]⟩)), (1, x42), (2, (.int .i64 256)), (3, (.func (.func F_model_partsOfS10) ⟨[]⟩ ⟨[x3, x0]⟩))]) m) fun x43 m =>
  bp (aBuildSlice T_model_part z_model_part 4 10 [(0, x7), (1, x11), (2, x15), (3, x19), (4, x23), (5, x27), (6, x31), (7, x35), (8, x39), (9, x43)] m) fun x44 m =>
  some (x44, m)
theorem e_model_partsOf (G : Gt) (a0 : Value) (m : Mem) : evFn Go.Proofs.Tryz.prog G.tab G.rds (drOf Go.Proofs.Tryz.prog G.tab) Go.Proofs.Tryz.f110 [a0] m = s_model_partsOf G a0 m :=
  evFn_of (r := fun ρ m => s_model_partsOf G (ρ 0) m) rfl rfl (fun ρ m => by kernel_rfl) m
noncomputable def E_model_partsOf : Entry Go.Proofs.Tryz.prog := ⟨F_model_partsOf, Go.Proofs.Tryz.f110, Go.Proofs.Tryz.func110, by kernel_rfl, arg1 (fun G a0 m => s_model_partsOf G a0 m), okarg1 e_model_partsOf⟩
/-! 111 (*strings.Builder).copyCheck -/
noncomputable def s_Pstrings_Builder_copyCheck (G : Gt) (p0 : Value) (m : Mem) : Option Rs :=
  bp (pur (aNilCheck p0) m) fun x0 m =>
  bp (pur (aFieldAddr 0 x0) m) fun x1 m =>
  bp (pur (aLoad false 1 x1 m) m) fun x2 m =>
  bp (pur (binP m .eql true true .ptr x2 (.pointer none)) m) fun x3 m =>
  brb x3
    (bp (conv (.toU 2) p0 m) fun x4 m =>
  bp (G.tab F_internal_abi_NoEscape [x4] m) fun x5 m =>
  bp (conv (.fromU (liesF Go.Proofs.Tryz.prog T_strings_Builder)) x5 m) fun x6 m =>
  bp (pur (aNilCheck p0) m) fun x7 m =>
  bp (pur (aFieldAddr 0 x7) m) fun x8 m =>
  bp (unt (aStore 1 x8 x6 m)) fun _ m =>
  some (.tuple ⟨[]⟩, m))
    (bp (pur (aNilCheck p0) m) fun x9 m =>
  bp (pur (aFieldAddr 0 x9) m) fun x10 m =>
  bp (pur (aLoad false 1 x10 m) m) fun x11 m =>
  bp (pur (binP m .neq false true .ptr x11 p0) m) fun x12 m =>
  brb x12
    (none)
    (some (.tuple ⟨[]⟩, m)))
theorem e_Pstrings_Builder_copyCheck (G : Gt) (a0 : Value) (m : Mem) : evFn Go.Proofs.Tryz.prog G.tab G.rds (drOf Go.Proofs.Tryz.prog G.tab) Go.Proofs.Tryz.f111 [a0] m = s_Pstrings_Builder_copyCheck G a0 m :=
  evFn_of (r := fun ρ m => s_Pstrings_Builder_copyCheck G (ρ 0) m) rfl rfl (fun ρ m => by kernel_rfl) m
noncomputable def E_Pstrings_Builder_copyCheck : Entry Go.Proofs.Tryz.prog := ⟨F_Pstrings_Builder_copyCheck, Go.Proofs.Tryz.f111, Go.Proofs.Tryz.func111, by kernel_rfl, arg1 (fun G a0 m => s_Pstrings_Builder_copyCheck G a0 m), okarg1 e_Pstrings_Builder_copyCheck⟩
/-! 114 waymark/addr.behind -/
noncomputable def s_addr_behind (G : Gt) (p0 : Value) (m : Mem) : Option Rs :=
  bp (pur (bin .sub true true .int (.int .i64 32) p0) m) fun x0 m =>
  bp (pur (bin .shl true true .int (.int .u64 1) x0) m) fun x1 m =>
  bp (pur (bin .sub true true .int x1 (.int .u64 1)) m) fun x2 m =>
  bp (conv (.int .u32) x2 m) fun x3 m =>
  some (x3, m)
theorem e_addr_behind (G : Gt) (a0 : Value) (m : Mem) : evFn Go.Proofs.Tryz.prog G.tab G.rds (drOf Go.Proofs.Tryz.prog G.tab) Go.Proofs.Tryz.f114 [a0] m = s_addr_behind G a0 m :=
  evFn_of (r := fun ρ m => s_addr_behind G (ρ 0) m) rfl rfl (fun ρ m => by kernel_rfl) m
noncomputable def E_addr_behind : Entry Go.Proofs.Tryz.prog := ⟨F_addr_behind, Go.Proofs.Tryz.f114, Go.Proofs.Tryz.func114, by kernel_rfl, arg1 (fun G a0 m => s_addr_behind G a0 m), okarg1 e_addr_behind⟩
/-! 115 waymark/lists.Text -/
noncomputable def s_lists_Text (G : Gt) (p0 : Value) (m : Mem) : Option Rs :=
  bp (pur (bin .shr true true .int p0 (.int .u64 16)) m) fun x0 m =>
  bp (conv (.int .i64) x0 m) fun x1 m =>
  bp (G.tab F_strconv_Itoa [x1] m) fun x2 m =>
  bp (pur (bin .add true true .str x2 (.string ⟨#[58]⟩)) m) fun x3 m =>
  bp (pur (bin .and true true .int p0 (.int .u32 65535)) m) fun x4 m =>
  bp (conv (.int .i64) x4 m) fun x5 m =>
  bp (G.tab F_strconv_Itoa [x5] m) fun x6 m =>
  bp (pur (bin .add false true .str x3 x6) m) fun x7 m =>
  some (x7, m)
theorem e_lists_Text (G : Gt) (a0 : Value) (m : Mem) : evFn Go.Proofs.Tryz.prog G.tab G.rds (drOf Go.Proofs.Tryz.prog G.tab) Go.Proofs.Tryz.f115 [a0] m = s_lists_Text G a0 m :=
  evFn_of (r := fun ρ m => s_lists_Text G (ρ 0) m) rfl rfl (fun ρ m => by kernel_rfl) m
noncomputable def E_lists_Text : Entry Go.Proofs.Tryz.prog := ⟨F_lists_Text, Go.Proofs.Tryz.f115, Go.Proofs.Tryz.func115, by kernel_rfl, arg1 (fun G a0 m => s_lists_Text G a0 m), okarg1 e_lists_Text⟩
/-! 116 waymark/waymarkref01.digits -/
noncomputable def s_waymarkref01_digits_2 (G : Gt) (p0 p3 : Value) (m : Mem) : Option Rs :=
  bp (pur (bin .add true true .int (.int .u64 48) p0) m) fun x0 m =>
  bp (conv (.int .u8) x0 m) fun x1 m =>
  bp (aBuildSlice T_uint8 [(.int .u8 0)] 1 1 [(0, x1)] m) fun x2 m =>
  bp (conv .str x2 m) fun x3 m =>
  bp (pur (bin .add false true .str x3 p3) m) fun x4 m =>
  some (x4, m)
noncomputable def s_waymarkref01_digits_3 (G : Gt) : Nat → Value → Value → Mem → Option Rs
  | 0, _, _, _ => none
  | i + 1, p0, p3, m =>
  bp (pur (bin .gtr true true .int p0 (.int .u64 9)) m) fun x5 m =>
  brb x5
    (bp (pur (bin .rem true true .int p0 (.int .u64 10)) m) fun x6 m =>
  bp (pur (bin .add true true .int (.int .u64 48) x6) m) fun x7 m =>
  bp (conv (.int .u8) x7 m) fun x8 m =>
  bp (aBuildSlice T_uint8 [(.int .u8 0)] 1 1 [(0, x8)] m) fun x9 m =>
  bp (conv .str x9 m) fun x10 m =>
  bp (pur (bin .add false true .str x10 p3) m) fun x11 m =>
  bp (pur (bin .quo true true .int p0 (.int .u64 10)) m) fun x12 m =>
  (s_waymarkref01_digits_3 G i) x12 x11 m)
    (s_waymarkref01_digits_2 G p0 p3 m)
noncomputable def s_waymarkref01_digits_1 (G : Gt) (p0 p3 : Value) (m : Mem) : Option Rs :=
  s_waymarkref01_digits_3 G G.rds p0 p3 m
noncomputable def s_waymarkref01_digits_0 (G : Gt) (p0 : Value) (m : Mem) : Option Rs :=
  s_waymarkref01_digits_1 G p0 (.string ⟨#[]⟩) m
noncomputable def s_waymarkref01_digits (G : Gt) (p0 : Value) (m : Mem) : Option Rs :=
  s_waymarkref01_digits_0 G p0 m
theorem e_waymarkref01_digits (G : Gt) (a0 : Value) (m : Mem) : evFn Go.Proofs.Tryz.prog G.tab G.rds (drOf Go.Proofs.Tryz.prog G.tab) Go.Proofs.Tryz.f116 [a0] m = s_waymarkref01_digits G a0 m :=
  evFn_of (r := fun ρ m => s_waymarkref01_digits G (ρ 0) m) rfl rfl (tr (seqQ (f := fun ρ m => s_waymarkref01_digits_0 G (ρ 0) m) (tr (seqQ (f := fun ρ m => s_waymarkref01_digits_1 G (ρ 0) (ρ 3) m) (tr (tr (seqQ (f := fun ρ m => s_waymarkref01_digits_2 G (ρ 0) (ρ 3) m) (fun ρ m => by kernel_rfl)) (blockQ (loopQ (fun i ρ m => s_waymarkref01_digits_3 G i (ρ 0) (ρ 3) m) (fun _ _ => rfl) (fun i0 => fun ρ m => by kernel_rfl)))) (fun ρ m => by kernel_rfl))) (fun ρ m => by kernel_rfl))) (fun ρ m => by kernel_rfl)) m
noncomputable def E_waymarkref01_digits : Entry Go.Proofs.Tryz.prog := ⟨F_waymarkref01_digits, Go.Proofs.Tryz.f116, Go.Proofs.Tryz.func116, by kernel_rfl, arg1 (fun G a0 m => s_waymarkref01_digits G a0 m), okarg1 e_waymarkref01_digits⟩
/-! 119 strings.Index -/
noncomputable def s_strings_Index (G : Gt) (p0 p1 : Value) (m : Mem) : Option Rs :=
  bp (G.tab F_internal_stringslite_Index [p0, p1] m) fun x0 m =>
  some (x0, m)
theorem e_strings_Index (G : Gt) (a0 a1 : Value) (m : Mem) : evFn Go.Proofs.Tryz.prog G.tab G.rds (drOf Go.Proofs.Tryz.prog G.tab) Go.Proofs.Tryz.f119 [a0, a1] m = s_strings_Index G a0 a1 m :=
  evFn_of (r := fun ρ m => s_strings_Index G (ρ 0) (ρ 1) m) rfl rfl (fun ρ m => by kernel_rfl) m
noncomputable def E_strings_Index : Entry Go.Proofs.Tryz.prog := ⟨F_strings_Index, Go.Proofs.Tryz.f119, Go.Proofs.Tryz.func119, by kernel_rfl, arg2 (fun G a0 a1 m => s_strings_Index G a0 a1 m), okarg2 e_strings_Index⟩
/-! 120 (*strings.asciiSet).contains -/
noncomputable def s_Pstrings_asciiSet_contains (G : Gt) (p0 p1 : Value) (m : Mem) : Option Rs :=
  bp (pur (aNilCheck p0) m) fun x0 m =>
  bp (pur (aIndexAddrArr 256 1 x0 p1) m) fun x1 m =>
  bp (pur (aLoad false 1 x1 m) m) fun x2 m =>
  some (x2, m)
theorem e_Pstrings_asciiSet_contains (G : Gt) (a0 a1 : Value) (m : Mem) : evFn Go.Proofs.Tryz.prog G.tab G.rds (drOf Go.Proofs.Tryz.prog G.tab) Go.Proofs.Tryz.f120 [a0, a1] m = s_Pstrings_asciiSet_contains G a0 a1 m :=
  evFn_of (r := fun ρ m => s_Pstrings_asciiSet_contains G (ρ 0) (ρ 1) m) rfl rfl (fun ρ m => by kernel_rfl) m
noncomputable def E_Pstrings_asciiSet_contains : Entry Go.Proofs.Tryz.prog := ⟨F_Pstrings_asciiSet_contains, Go.Proofs.Tryz.f120, Go.Proofs.Tryz.func120, by kernel_rfl, arg2 (fun G a0 a1 m => s_Pstrings_asciiSet_contains G a0 a1 m), okarg2 e_Pstrings_asciiSet_contains⟩
/-! 125 waymark/addr.Parse -/
noncomputable def s_addr_Parse_4 (G : Gt) (p5 : Value) (m : Mem) : Option Rs :=
  some (.tuple ⟨[p5, (.int .i64 0)]⟩, m)
noncomputable def s_addr_Parse_6 (G : Gt) : Nat → Value → Value → Value → Mem → Option Rs
  | 0, _, _, _, _ => none
  | i + 1, p14, p4, p5, m =>
  bp (pur (bin .lss true true .int p14 (.int .i64 4)) m) fun x0 m =>
  brb x0
    (bp (pur (aIndexAddrSl 1 p4 p14) m) fun x1 m =>
  bp (pur (aLoad false 1 x1 m) m) fun x2 m =>
  bp (G.tab F_addr_number [x2, (.int .i64 255)] m) fun x3 m =>
  bp (pur (aExtract x3 0) m) fun x4 m =>
  bp (pur (aExtract x3 1) m) fun x5 m =>
  bp (pur (un .not x5) m) fun x6 m =>
  brb x6
    (some (.tuple ⟨[(.int .u32 0), (.int .i64 4)]⟩, m))
    (bp (pur (bin .shl true true .int p5 (.int .u64 8)) m) fun x7 m =>
  bp (conv (.int .u32) x4 m) fun x8 m =>
  bp (pur (bin .or false true .int x7 x8) m) fun x9 m =>
  bp (pur (bin .add true true .int p14 (.int .i64 1)) m) fun x10 m =>
  (s_addr_Parse_6 G i) x10 p4 x9 m))
    (s_addr_Parse_4 G p5 m)
noncomputable def s_addr_Parse_5 (G : Gt) (p14 p4 p5 : Value) (m : Mem) : Option Rs :=
  s_addr_Parse_6 G G.rds p14 p4 p5 m
noncomputable def s_addr_Parse_3 (G : Gt) (p4 p5 : Value) (m : Mem) : Option Rs :=
  s_addr_Parse_5 G (.int .i64 0) p4 p5 m
noncomputable def s_addr_Parse_2 (G : Gt) (p4 : Value) (m : Mem) : Option Rs :=
  s_addr_Parse_3 G p4 (.int .u32 0) m
noncomputable def s_addr_Parse_1 (G : Gt) (p4 : Value) (m : Mem) : Option Rs :=
  bp (pur (lenK 1 p4 m) m) fun x11 m =>
  bp (pur (bin .neq true true .int x11 (.int .i64 4)) m) fun x12 m =>
  brb x12
    (some (.tuple ⟨[(.int .u32 0), (.int .i64 4)]⟩, m))
    (s_addr_Parse_2 G p4 m)
noncomputable def s_addr_Parse_0 (G : Gt) (p0 : Value) (m : Mem) : Option Rs :=
  bp (G.tab F_strings_Split [p0, (.string ⟨#[46]⟩)] m) fun x13 m =>
  s_addr_Parse_1 G x13 m
noncomputable def s_addr_Parse (G : Gt) (p0 : Value) (m : Mem) : Option Rs :=
  s_addr_Parse_0 G p0 m
theorem e_addr_Parse (G : Gt) (a0 : Value) (m : Mem) : evFn Go.Proofs.Tryz.prog G.tab G.rds (drOf Go.Proofs.Tryz.prog G.tab) Go.Proofs.Tryz.f125 [a0] m = s_addr_Parse G a0 m :=
  evFn_of (r := fun ρ m => s_addr_Parse G (ρ 0) m) rfl rfl (tr (seqQ (f := fun ρ m => s_addr_Parse_0 G (ρ 0) m) (tr (seqQ (f := fun ρ m => s_addr_Parse_1 G (ρ 4) m) (tr (seqQ (f := fun ρ m => s_addr_Parse_2 G (ρ 4) m) (tr (seqQ (f := fun ρ m => s_addr_Parse_3 G (ρ 4) (ρ 5) m) (tr (tr (seqQ (f := fun ρ m => s_addr_Parse_4 G (ρ 5) m) (fun ρ m => by kernel_rfl)) (seqQ (f := fun ρ m => s_addr_Parse_5 G (ρ 14) (ρ 4) (ρ 5) m) (tr (blockQ (loopQ (fun i ρ m => s_addr_Parse_6 G i (ρ 14) (ρ 4) (ρ 5) m) (fun _ _ => rfl) (fun i0 => fun ρ m => by kernel_rfl))) (fun ρ m => by kernel_rfl)))) (fun ρ m => by kernel_rfl))) (fun ρ m => by kernel_rfl))) (fun ρ m => by kernel_rfl))) (fun ρ m => by kernel_rfl))) (fun ρ m => by kernel_rfl)) m
noncomputable def E_addr_Parse : Entry Go.Proofs.Tryz.prog := ⟨F_addr_Parse, Go.Proofs.Tryz.f125, Go.Proofs.Tryz.func125, by kernel_rfl, arg1 (fun G a0 m => s_addr_Parse G a0 m), okarg1 e_addr_Parse⟩
/-! 126 waymark/addr.Bits -/
noncomputable def s_addr_Bits (G : Gt) (p0 : Value) (m : Mem) : Option Rs :=
  bp (pur (un .xor p0) m) fun x0 m =>
  bp (G.tab F_math_bits_LeadingZeros32 [x0] m) fun x1 m =>
  bp (G.tab F_addr_behind [x1] m) fun x2 m =>
  bp (pur (un .xor x2) m) fun x3 m =>
  bp (pur (bin .neq false true .int x3 p0) m) fun x4 m =>
  brb x4
    (some (.tuple ⟨[(.int .i64 0), (.int .i64 10)]⟩, m))
    (some (.tuple ⟨[x1, (.int .i64 0)]⟩, m))
theorem e_addr_Bits (G : Gt) (a0 : Value) (m : Mem) : evFn Go.Proofs.Tryz.prog G.tab G.rds (drOf Go.Proofs.Tryz.prog G.tab) Go.Proofs.Tryz.f126 [a0] m = s_addr_Bits G a0 m :=
  evFn_of (r := fun ρ m => s_addr_Bits G (ρ 0) m) rfl rfl (fun ρ m => by kernel_rfl) m
noncomputable def E_addr_Bits : Entry Go.Proofs.Tryz.prog := ⟨F_addr_Bits, Go.Proofs.Tryz.f126, Go.Proofs.Tryz.func126, by kernel_rfl, arg1 (fun G a0 m => s_addr_Bits G a0 m), okarg1 e_addr_Bits⟩
/-! 127 waymark/addr.Check -/
noncomputable def s_addr_Check_1 (G : Gt) (p3 p1 : Value) (m : Mem) : Option Rs :=
  brb p3
    (some ((.int .i64 1), m))
    (bp (pur (aFieldAddr 0 p1) m) fun x0 m =>
  bp (pur (aLoad false 1 x0 m) m) fun x1 m =>
  bp (pur (aFieldAddr 1 p1) m) fun x2 m =>
  bp (pur (aLoad false 1 x2 m) m) fun x3 m =>
  bp (G.tab F_addr_behind [x3] m) fun x4 m =>
  ckB (again (pur (aLoad false 1 x0 m) m) x1 && true)
    (bp (pur (bin .and false true .int x1 x4) m) fun x5 m =>
  bp (pur (bin .neq true true .int x5 (.int .u32 0)) m) fun x6 m =>
  brb x6
    (some ((.int .i64 10), m))
    (some ((.int .i64 0), m))))
noncomputable def s_addr_Check_0 (G : Gt) (p1 : Value) (m : Mem) : Option Rs :=
  bp (pur (aFieldAddr 1 p1) m) fun x7 m =>
  bp (pur (aLoad false 1 x7 m) m) fun x8 m =>
  bp (pur (bin .lss true true .int x8 (.int .i64 0)) m) fun x9 m =>
  brb x9
    (s_addr_Check_1 G (.bool true) p1 m)
    (bp (pur (aFieldAddr 1 p1) m) fun x10 m =>
  bp (pur (aLoad false 1 x10 m) m) fun x11 m =>
  bp (pur (bin .gtr true true .int x11 (.int .i64 32)) m) fun x12 m =>
  s_addr_Check_1 G x12 p1 m)
noncomputable def s_addr_Check (G : Gt) (p0 : Value) (m : Mem) : Option Rs :=
  bp (some (aNew T_api_Prefix (Value.cells p0).toList m)) fun x13 m =>
  s_addr_Check_0 G x13 m
theorem e_addr_Check (G : Gt) (a0 : Value) (m : Mem) : evFn Go.Proofs.Tryz.prog G.tab G.rds (drOf Go.Proofs.Tryz.prog G.tab) Go.Proofs.Tryz.f127 [a0] m = s_addr_Check G a0 m :=
  evFn_of (r := fun ρ m => s_addr_Check G (ρ 0) m) rfl rfl (tr (seqQ (f := fun ρ m => s_addr_Check_0 G (ρ 1) m) (tr (tr seqD (blockQ (seqQ (f := fun ρ m => s_addr_Check_1 G (ρ 3) (ρ 1) m) (fun ρ m => by kernel_rfl)))) (fun ρ m => by kernel_rfl))) (fun ρ m => by kernel_rfl)) m
noncomputable def E_addr_Check : Entry Go.Proofs.Tryz.prog := ⟨F_addr_Check, Go.Proofs.Tryz.f127, Go.Proofs.Tryz.func127, by kernel_rfl, arg1 (fun G a0 m => s_addr_Check G a0 m), okarg1 e_addr_Check⟩
/-! 128 (*waymark/flat.cursor).ends -/
noncomputable def s_Pflat_cursor_ends (G : Gt) (p0 : Value) (m : Mem) : Option Rs :=
  bp (some (aNew T_api_Prefix z_api_Prefix m)) fun x0 m =>
  bp (G.tab F_Pflat_cursor_is [p0, (.string ⟨#[97, 110, 121]⟩)] m) fun x1 m =>
  brb x1
    (bp (pur (aBuild z_api_Prefix [(0, 1), (1, 1)] []) m) fun x2 m =>
  bp (unt (aStore 2 x0 x2 m)) fun _ m =>
  ob (ob (aLoad true 2 x0 m) fun v => ob (some []) fun l => some (v :: l)) fun l => some (resVal l, m))
    (bp (G.tab F_Pflat_cursor_is [p0, (.string ⟨#[104, 111, 115, 116]⟩)] m) fun x3 m =>
  brb x3
    (bp (G.tab F_Pflat_cursor_addr [p0] m) fun x4 m =>
  bp (pur (aBuild z_api_Prefix [(0, 1), (1, 1)] [(0, x4), (1, (.int .i64 32))]) m) fun x5 m =>
  bp (unt (aStore 2 x0 x5 m)) fun _ m =>
  ob (ob (aLoad true 2 x0 m) fun v => ob (some []) fun l => some (v :: l)) fun l => some (resVal l, m))
    (bp (G.tab F_Pflat_cursor_addr [p0] m) fun x6 m =>
  bp (G.tab F_Pflat_cursor_mask [p0, (.bool true)] m) fun x7 m =>
  bp (G.tab F_Pflat_cursor_net [p0, x6, x7] m) fun x8 m =>
  bp (unt (aStore 2 x0 x8 m)) fun _ m =>
  ob (ob (aLoad true 2 x0 m) fun v => ob (some []) fun l => some (v :: l)) fun l => some (resVal l, m)))
theorem e_Pflat_cursor_ends (G : Gt) (a0 : Value) (m : Mem) : evFn Go.Proofs.Tryz.prog G.tab G.rds (drOf Go.Proofs.Tryz.prog G.tab) Go.Proofs.Tryz.f128 [a0] m = s_Pflat_cursor_ends G a0 m :=
  evFn_of (r := fun ρ m => s_Pflat_cursor_ends G (ρ 0) m) rfl rfl (fun ρ m => by kernel_rfl) m
noncomputable def E_Pflat_cursor_ends : Entry Go.Proofs.Tryz.prog := ⟨F_Pflat_cursor_ends, Go.Proofs.Tryz.f128, Go.Proofs.Tryz.func128, by kernel_rfl, arg1 (fun G a0 m => s_Pflat_cursor_ends G a0 m), okarg1 e_Pflat_cursor_ends⟩
end Go.Ab.Sh

set_option linter.unusedVariables false
set_option maxRecDepth 100000
namespace Go.Ab.Sh
open Go Go.Ab
/-! 129 (*waymark/flat.cursor).ports -/
noncomputable def s_Pflat_cursor_ports_2 (G : Gt) (p9 p5 p4 p0 : Value) (m : Mem) : Option Rs :=
  brb p9
    (bp (pur (aLoad true 2 p5 m) m) fun x0 m =>
  bp (unt (aStore 2 p4 x0 m)) fun _ m =>
  ob (ob (aLoad true 2 p4 m) fun v => ob (some []) fun l => some (v :: l)) fun l => some (resVal l, m))
    (bp (G.tab F_Pflat_cursor_is [p0, (.string ⟨#[101, 113]⟩)] m) fun x1 m =>
  brb x1
    (bp (G.tab F_Pflat_cursor_number [p0, (.int .i64 0), (.int .i64 65535)] m) fun x2 m =>
  bp (conv (.int .u32) x2 m) fun x3 m =>
  bp (pur (aBuild z_api_Span [(0, 1), (1, 1)] [(0, x3), (1, x3)]) m) fun x4 m =>
  bp (unt (aStore 2 p4 x4 m)) fun _ m =>
  ob (ob (aLoad true 2 p4 m) fun v => ob (some []) fun l => some (v :: l)) fun l => some (resVal l, m))
    (bp (G.tab F_Pflat_cursor_is [p0, (.string ⟨#[114, 97, 110, 103, 101]⟩)] m) fun x5 m =>
  brb x5
    (bp (G.tab F_Pflat_cursor_number [p0, (.int .i64 0), (.int .i64 65535)] m) fun x6 m =>
  bp (conv (.int .u32) x6 m) fun x7 m =>
  bp (G.tab F_Pflat_cursor_number [p0, x6, (.int .i64 65535)] m) fun x8 m =>
  bp (conv (.int .u32) x8 m) fun x9 m =>
  bp (pur (aBuild z_api_Span [(0, 1), (1, 1)] [(0, x7), (1, x9)]) m) fun x10 m =>
  bp (unt (aStore 2 p4 x10 m)) fun _ m =>
  ob (ob (aLoad true 2 p4 m) fun v => ob (some []) fun l => some (v :: l)) fun l => some (resVal l, m))
    (bp (pur (aLoad true 2 p5 m) m) fun x11 m =>
  bp (unt (aStore 2 p4 x11 m)) fun _ m =>
  ob (ob (aLoad true 2 p4 m) fun v => ob (some []) fun l => some (v :: l)) fun l => some (resVal l, m))))
noncomputable def s_Pflat_cursor_ports_1 (G : Gt) (p1 p5 p4 p0 : Value) (m : Mem) : Option Rs :=
  bp (pur (bin .neq true true .int p1 (.int .i64 6)) m) fun x12 m =>
  brb x12
    (bp (pur (bin .neq true true .int p1 (.int .i64 17)) m) fun x13 m =>
  s_Pflat_cursor_ports_2 G x13 p5 p4 p0 m)
    (s_Pflat_cursor_ports_2 G (.bool false) p5 p4 p0 m)
noncomputable def s_Pflat_cursor_ports_0 (G : Gt) (p1 p4 p0 : Value) (m : Mem) : Option Rs :=
  bp (pur (aBuild z_api_Span [(0, 1), (1, 1)] [(1, (.int .u32 65535))]) m) fun x14 m =>
  bp (some (aNew T_api_Span z_api_Span m)) fun x15 m =>
  bp (unt (aStore 2 x15 x14 m)) fun _ m =>
  s_Pflat_cursor_ports_1 G p1 x15 p4 p0 m
noncomputable def s_Pflat_cursor_ports (G : Gt) (p1 p0 : Value) (m : Mem) : Option Rs :=
  bp (some (aNew T_api_Span z_api_Span m)) fun x16 m =>
  s_Pflat_cursor_ports_0 G p1 x16 p0 m
theorem e_Pflat_cursor_ports (G : Gt) (a0 a1 : Value) (m : Mem) : evFn Go.Proofs.Tryz.prog G.tab G.rds (drOf Go.Proofs.Tryz.prog G.tab) Go.Proofs.Tryz.f129 [a0, a1] m = s_Pflat_cursor_ports G a1 a0 m :=
  evFn_of (r := fun ρ m => s_Pflat_cursor_ports G (ρ 1) (ρ 0) m) rfl rfl (tr (seqQ (f := fun ρ m => s_Pflat_cursor_ports_0 G (ρ 1) (ρ 4) (ρ 0) m) (tr (seqQ (f := fun ρ m => s_Pflat_cursor_ports_1 G (ρ 1) (ρ 5) (ρ 4) (ρ 0) m) (tr (tr seqD (blockQ (seqQ (f := fun ρ m => s_Pflat_cursor_ports_2 G (ρ 9) (ρ 5) (ρ 4) (ρ 0) m) (fun ρ m => by kernel_rfl)))) (fun ρ m => by kernel_rfl))) (fun ρ m => by kernel_rfl))) (fun ρ m => by kernel_rfl)) m
noncomputable def E_Pflat_cursor_ports : Entry Go.Proofs.Tryz.prog := ⟨F_Pflat_cursor_ports, Go.Proofs.Tryz.f129, Go.Proofs.Tryz.func129, by kernel_rfl, arg2 (fun G a0 a1 m => s_Pflat_cursor_ports G a1 a0 m), okarg2 e_Pflat_cursor_ports⟩
/-! 130 waymark/addr.ParsePrefix -/
noncomputable def s_addr_ParsePrefix_4 (G : Gt) (p38 p2 p7 p9 : Value) (m : Mem) : Option Rs :=
  brb p38
    (bp (pur (aBuild z_api_Prefix [(0, 1), (1, 1)] []) m) fun x0 m =>
  bp (unt (aStore 2 p2 x0 m)) fun _ m =>
  ob (ob (aLoad true 2 p2 m) fun v => ob (some [(.int .i64 4)]) fun l => some (v :: l)) fun l => some (resVal l, m))
    (bp (pur (aBuild z_api_Prefix [(0, 1), (1, 1)] [(0, p7), (1, p9)]) m) fun x1 m =>
  bp (some (aNew T_api_Prefix z_api_Prefix m)) fun x2 m =>
  bp (unt (aStore 2 x2 x1 m)) fun _ m =>
  bp (pur (aLoad true 2 x2 m) m) fun x3 m =>
  bp (G.tab F_addr_Check [x3] m) fun x4 m =>
  bp (pur (bin .neq true true .int x4 (.int .i64 0)) m) fun x5 m =>
  brb x5
    (bp (pur (aBuild z_api_Prefix [(0, 1), (1, 1)] []) m) fun x6 m =>
  bp (unt (aStore 2 p2 x6 m)) fun _ m =>
  ob (ob (aLoad true 2 p2 m) fun v => ob (some [x4]) fun l => some (v :: l)) fun l => some (resVal l, m))
    (bp (pur (aLoad true 2 x2 m) m) fun x7 m =>
  bp (unt (aStore 2 p2 x7 m)) fun _ m =>
  ob (ob (aLoad true 2 p2 m) fun v => ob (some [(.int .i64 0)]) fun l => some (v :: l)) fun l => some (resVal l, m)))
noncomputable def s_addr_ParsePrefix_3 (G : Gt) (p6 p10 p8 p2 p7 p9 : Value) (m : Mem) : Option Rs :=
  bp (pur (un .not p6) m) fun x8 m =>
  brb x8
    (s_addr_ParsePrefix_4 G (.bool true) p2 p7 p9 m)
    (bp (pur (un .not p10) m) fun x9 m =>
  brb x9
    (s_addr_ParsePrefix_4 G (.bool true) p2 p7 p9 m)
    (bp (pur (bin .neq true true .int p8 (.int .i64 0)) m) fun x10 m =>
  s_addr_ParsePrefix_4 G x10 p2 p7 p9 m))
noncomputable def s_addr_ParsePrefix_2 (G : Gt) (p5 p6 p8 p2 p7 : Value) (m : Mem) : Option Rs :=
  bp (G.tab F_addr_number [p5, (.int .i64 32)] m) fun x11 m =>
  bp (pur (aExtract x11 0) m) fun x12 m =>
  bp (pur (aExtract x11 1) m) fun x13 m =>
  s_addr_ParsePrefix_3 G p6 x13 p8 p2 p7 x12 m
noncomputable def s_addr_ParsePrefix_1 (G : Gt) (p4 p5 p6 p2 : Value) (m : Mem) : Option Rs :=
  bp (G.tab F_addr_Parse [p4] m) fun x14 m =>
  bp (pur (aExtract x14 0) m) fun x15 m =>
  bp (pur (aExtract x14 1) m) fun x16 m =>
  s_addr_ParsePrefix_2 G p5 p6 x16 p2 x15 m
noncomputable def s_addr_ParsePrefix_0 (G : Gt) (p0 p2 : Value) (m : Mem) : Option Rs :=
  bp (G.tab F_strings_Cut [p0, (.string ⟨#[47]⟩)] m) fun x17 m =>
  bp (pur (aExtract x17 0) m) fun x18 m =>
  bp (pur (aExtract x17 1) m) fun x19 m =>
  bp (pur (aExtract x17 2) m) fun x20 m =>
  s_addr_ParsePrefix_1 G x18 x19 x20 p2 m
noncomputable def s_addr_ParsePrefix (G : Gt) (p0 : Value) (m : Mem) : Option Rs :=
  bp (some (aNew T_api_Prefix z_api_Prefix m)) fun x21 m =>
  s_addr_ParsePrefix_0 G p0 x21 m
theorem e_addr_ParsePrefix (G : Gt) (a0 : Value) (m : Mem) : evFn Go.Proofs.Tryz.prog G.tab G.rds (drOf Go.Proofs.Tryz.prog G.tab) Go.Proofs.Tryz.f130 [a0] m = s_addr_ParsePrefix G a0 m :=
  evFn_of (r := fun ρ m => s_addr_ParsePrefix G (ρ 0) m) rfl rfl (tr (seqQ (f := fun ρ m => s_addr_ParsePrefix_0 G (ρ 0) (ρ 2) m) (tr (seqQ (f := fun ρ m => s_addr_ParsePrefix_1 G (ρ 4) (ρ 5) (ρ 6) (ρ 2) m) (tr (seqQ (f := fun ρ m => s_addr_ParsePrefix_2 G (ρ 5) (ρ 6) (ρ 8) (ρ 2) (ρ 7) m) (tr (seqQ (f := fun ρ m => s_addr_ParsePrefix_3 G (ρ 6) (ρ 10) (ρ 8) (ρ 2) (ρ 7) (ρ 9) m) (tr (tr seqD (seqQ (f := fun ρ m => s_addr_ParsePrefix_4 G (ρ 38) (ρ 2) (ρ 7) (ρ 9) m) (fun ρ m => by kernel_rfl))) (fun ρ m => by kernel_rfl))) (fun ρ m => by kernel_rfl))) (fun ρ m => by kernel_rfl))) (fun ρ m => by kernel_rfl))) (fun ρ m => by kernel_rfl)) m
noncomputable def E_addr_ParsePrefix : Entry Go.Proofs.Tryz.prog := ⟨F_addr_ParsePrefix, Go.Proofs.Tryz.f130, Go.Proofs.Tryz.func130, by kernel_rfl, arg1 (fun G a0 m => s_addr_ParsePrefix G a0 m), okarg1 e_addr_ParsePrefix⟩
/-! 131 waymark/lists.Parse -/
noncomputable def s_lists_Parse_5 (G : Gt) (p45 p11 : Value) (m : Mem) : Option Rs :=
  brb p45
    (some (.tuple ⟨[(.int .u32 0), (.int .i64 4)]⟩, m))
    (some (.tuple ⟨[p11, (.int .i64 0)]⟩, m))
noncomputable def s_lists_Parse_4 (G : Gt) (p8 p10 p11 p0 : Value) (m : Mem) : Option Rs :=
  bp (pur (bin .neq true false .iface p8 .nilIface) m) fun x0 m =>
  brb x0
    (s_lists_Parse_5 G (.bool true) p11 m)
    (bp (pur (bin .neq true false .iface p10 .nilIface) m) fun x1 m =>
  brb x1
    (s_lists_Parse_5 G (.bool true) p11 m)
    (bp (G.tab F_lists_Text [p11] m) fun x2 m =>
  bp (pur (bin .neq false true .str x2 p0) m) fun x3 m =>
  s_lists_Parse_5 G x3 p11 m))
noncomputable def s_lists_Parse_3 (G : Gt) (p7 p9 p8 p10 p0 : Value) (m : Mem) : Option Rs :=
  bp (conv (.int .u32) p7 m) fun x4 m =>
  bp (pur (bin .shl true true .int x4 (.int .u64 16)) m) fun x5 m =>
  bp (conv (.int .u32) p9 m) fun x6 m =>
  bp (pur (bin .or false true .int x5 x6) m) fun x7 m =>
  s_lists_Parse_4 G p8 p10 x7 p0 m
noncomputable def s_lists_Parse_2 (G : Gt) (p5 p7 p8 p0 : Value) (m : Mem) : Option Rs :=
  bp (G.tab F_strconv_ParseUint [p5, (.int .i64 10), (.int .i64 16)] m) fun x8 m =>
  bp (pur (aExtract x8 0) m) fun x9 m =>
  bp (pur (aExtract x8 1) m) fun x10 m =>
  s_lists_Parse_3 G p7 x9 p8 x10 p0 m
noncomputable def s_lists_Parse_1 (G : Gt) (p4 p5 p0 : Value) (m : Mem) : Option Rs :=
  bp (G.tab F_strconv_ParseUint [p4, (.int .i64 10), (.int .i64 16)] m) fun x11 m =>
  bp (pur (aExtract x11 0) m) fun x12 m =>
  bp (pur (aExtract x11 1) m) fun x13 m =>
  s_lists_Parse_2 G p5 x12 x13 p0 m
noncomputable def s_lists_Parse_0 (G : Gt) (p0 : Value) (m : Mem) : Option Rs :=
  bp (G.tab F_strings_Cut [p0, (.string ⟨#[58]⟩)] m) fun x14 m =>
  bp (pur (aExtract x14 0) m) fun x15 m =>
  bp (pur (aExtract x14 1) m) fun x16 m =>
  bp (pur (aExtract x14 2) m) fun x17 m =>
  s_lists_Parse_1 G x15 x16 p0 m
noncomputable def s_lists_Parse (G : Gt) (p0 : Value) (m : Mem) : Option Rs :=
  s_lists_Parse_0 G p0 m
theorem e_lists_Parse (G : Gt) (a0 : Value) (m : Mem) : evFn Go.Proofs.Tryz.prog G.tab G.rds (drOf Go.Proofs.Tryz.prog G.tab) Go.Proofs.Tryz.f131 [a0] m = s_lists_Parse G a0 m :=
  evFn_of (r := fun ρ m => s_lists_Parse G (ρ 0) m) rfl rfl (tr (seqQ (f := fun ρ m => s_lists_Parse_0 G (ρ 0) m) (tr (seqQ (f := fun ρ m => s_lists_Parse_1 G (ρ 4) (ρ 5) (ρ 0) m) (tr (seqQ (f := fun ρ m => s_lists_Parse_2 G (ρ 5) (ρ 7) (ρ 8) (ρ 0) m) (tr (seqQ (f := fun ρ m => s_lists_Parse_3 G (ρ 7) (ρ 9) (ρ 8) (ρ 10) (ρ 0) m) (tr (seqQ (f := fun ρ m => s_lists_Parse_4 G (ρ 8) (ρ 10) (ρ 11) (ρ 0) m) (tr (tr seqD (seqQ (f := fun ρ m => s_lists_Parse_5 G (ρ 45) (ρ 11) m) (fun ρ m => by kernel_rfl))) (fun ρ m => by kernel_rfl))) (fun ρ m => by kernel_rfl))) (fun ρ m => by kernel_rfl))) (fun ρ m => by kernel_rfl))) (fun ρ m => by kernel_rfl))) (fun ρ m => by kernel_rfl)) m
noncomputable def E_lists_Parse : Entry Go.Proofs.Tryz.prog := ⟨F_lists_Parse, Go.Proofs.Tryz.f131, Go.Proofs.Tryz.func131, by kernel_rfl, arg1 (fun G a0 m => s_lists_Parse G a0 m), okarg1 e_lists_Parse⟩
/-! 132 (*waymark/flat.parser).set -/
noncomputable def s_Pflat_parser_set_2 (G : Gt) (p7 : Value) (m : Mem) : Option Rs :=
  some (p7, m)
noncomputable def s_Pflat_parser_set_10 (G : Gt) : Nat → Value → Value → Value → Value → Mem → Option Rs
  | 0, _, _, _, _, _ => none
  | i + 1, p8, p2, p1, p7, m =>
  brb p8
    (bp (pur (aNilCheck p2) m) fun x15 m =>
  bp (pur (aFieldAddr 12 x15) m) fun x16 m =>
  bp (pur (aLoad false 1 x16 m) m) fun x17 m =>
  bp (G.tab F_Pflat_cursor_number [p1, (.int .i64 1), (.int .i64 4294967295)] m) fun x18 m =>
  ckB (again (pur (aLoad false 1 x16 m) m) x17 && true)
    (bp (conv (.int .u32) x18 m) fun x19 m =>
  bp (aBuildSlice T_uint32 [(.int .u32 0)] 1 1 [(0, x19)] m) fun x20 m =>
  bp (apS T_uint32 1 4 x17 x20 m) fun x21 m =>
  bp (pur (aNilCheck p2) m) fun x22 m =>
  bp (pur (aFieldAddr 12 x22) m) fun x23 m =>
  bp (unt (aStore 1 x23 x21 m)) fun _ m =>
  bp (G.tab F_Pflat_cursor_more [p1] m) fun x24 m =>
  (s_Pflat_parser_set_10 G i) x24 p2 p1 p7 m))
    (s_Pflat_parser_set_2 G p7 m)
noncomputable def s_Pflat_parser_set_9 (G : Gt) (p8 p2 p1 p7 : Value) (m : Mem) : Option Rs :=
  s_Pflat_parser_set_10 G G.rds p8 p2 p1 p7 m
noncomputable def s_Pflat_parser_set_8 (G : Gt) (p47 p2 p1 p7 p11 : Value) (m : Mem) : Option Rs :=
  brb p47
    (s_Pflat_parser_set_9 G (.bool true) p2 p1 p7 m)
    (bp (pur (bin .eql true true .str p11 (.string ⟨#[110, 101, 120, 116, 45, 104, 111, 112]⟩)) m) fun x25 m =>
  brb x25
    (bp (G.tab F_Pflat_cursor_hop [p1] m) fun x26 m =>
  bp (pur (aNilCheck p2) m) fun x27 m =>
  bp (pur (aFieldAddr 13 x27) m) fun x28 m =>
  bp (unt (aStore 1 x28 x26 m)) fun _ m =>
  s_Pflat_parser_set_2 G p7 m)
    (bp (G.tab F_Pflat_cursor_bad [p1, (.int .i64 130)] m) fun x29 m =>
  s_Pflat_parser_set_2 G p7 m))
noncomputable def s_Pflat_parser_set_7 (G : Gt) (p35 p2 p1 p7 p11 : Value) (m : Mem) : Option Rs :=
  brb p35
    (bp (G.tab F_Pflat_cursor_is [p1, (.string ⟨#[97, 100, 100]⟩)] m) fun x9 m =>
  bp (pur (aNilCheck p2) m) fun x10 m =>
  bp (pur (aFieldAddr 11 x10) m) fun x11 m =>
  bp (unt (aStore 1 x11 x9 m)) fun _ m =>
  bp (G.tab F_Pflat_cursor_comms [p1] m) fun x12 m =>
  bp (pur (aNilCheck p2) m) fun x13 m =>
  bp (pur (aFieldAddr 10 x13) m) fun x14 m =>
  bp (unt (aStore 1 x14 x12 m)) fun _ m =>
  s_Pflat_parser_set_2 G p7 m)
    (bp (pur (bin .eql true true .str p11 (.string ⟨#[112, 114, 101, 112, 101, 110, 100]⟩)) m) fun x30 m =>
  s_Pflat_parser_set_8 G x30 p2 p1 p7 p11 m)
noncomputable def s_Pflat_parser_set_6 (G : Gt) (p28 p2 p1 p7 p11 : Value) (m : Mem) : Option Rs :=
  brb p28
    (bp (G.tab F_Pflat_cursor_number [p1, (.int .i64 0), (.int .i64 16777216)] m) fun x6 m =>
  bp (pur (aNilCheck p2) m) fun x7 m =>
  bp (pur (aFieldAddr 9 x7) m) fun x8 m =>
  bp (unt (aStore 1 x8 x6 m)) fun _ m =>
  s_Pflat_parser_set_2 G p7 m)
    (bp (pur (bin .eql true true .str p11 (.string ⟨#[99, 111, 109, 109, 117, 110, 105, 116, 121]⟩)) m) fun x31 m =>
  s_Pflat_parser_set_7 G x31 p2 p1 p7 p11 m)
noncomputable def s_Pflat_parser_set_5 (G : Gt) (p21 p2 p1 p7 p11 : Value) (m : Mem) : Option Rs :=
  brb p21
    (bp (G.tab F_Pflat_cursor_number [p1, (.int .i64 0), (.int .i64 16777216)] m) fun x3 m =>
  bp (pur (aNilCheck p2) m) fun x4 m =>
  bp (pur (aFieldAddr 8 x4) m) fun x5 m =>
  bp (unt (aStore 1 x5 x3 m)) fun _ m =>
  s_Pflat_parser_set_2 G p7 m)
    (bp (pur (bin .eql true true .str p11 (.string ⟨#[116, 97, 103]⟩)) m) fun x32 m =>
  s_Pflat_parser_set_6 G x32 p2 p1 p7 p11 m)
noncomputable def s_Pflat_parser_set_4 (G : Gt) (p14 p2 p1 p7 p11 : Value) (m : Mem) : Option Rs :=
  brb p14
    (bp (G.tab F_Pflat_cursor_number [p1, (.int .i64 0), (.int .i64 16777216)] m) fun x0 m =>
  bp (pur (aNilCheck p2) m) fun x1 m =>
  bp (pur (aFieldAddr 7 x1) m) fun x2 m =>
  bp (unt (aStore 1 x2 x0 m)) fun _ m =>
  s_Pflat_parser_set_2 G p7 m)
    (bp (pur (bin .eql true true .str p11 (.string ⟨#[112, 114, 101, 102, 101, 114, 101, 110, 99, 101]⟩)) m) fun x33 m =>
  s_Pflat_parser_set_5 G x33 p2 p1 p7 p11 m)
noncomputable def s_Pflat_parser_set_3 (G : Gt) (p11 p2 p1 p7 : Value) (m : Mem) : Option Rs :=
  bp (pur (bin .eql true true .str p11 (.string ⟨#[109, 101, 116, 114, 105, 99]⟩)) m) fun x34 m =>
  s_Pflat_parser_set_4 G x34 p2 p1 p7 p11 m
noncomputable def s_Pflat_parser_set_1 (G : Gt) (p7 p2 p1 : Value) (m : Mem) : Option Rs :=
  s_Pflat_parser_set_3 G p7 p2 p1 p7 m
noncomputable def s_Pflat_parser_set_0 (G : Gt) (p1 p2 : Value) (m : Mem) : Option Rs :=
  bp (G.tab F_Pflat_cursor_word [p1] m) fun x35 m =>
  s_Pflat_parser_set_1 G x35 p2 p1 m
noncomputable def s_Pflat_parser_set (G : Gt) (p1 p2 : Value) (m : Mem) : Option Rs :=
  s_Pflat_parser_set_0 G p1 p2 m
theorem e_Pflat_parser_set (G : Gt) (a0 a1 a2 : Value) (m : Mem) : evFn Go.Proofs.Tryz.prog G.tab G.rds (drOf Go.Proofs.Tryz.prog G.tab) Go.Proofs.Tryz.f132 [a0, a1, a2] m = s_Pflat_parser_set G a1 a2 m :=
  evFn_of (r := fun ρ m => s_Pflat_parser_set G (ρ 1) (ρ 2) m) rfl rfl (tr (seqQ (f := fun ρ m => s_Pflat_parser_set_0 G (ρ 1) (ρ 2) m) (tr (seqQ (f := fun ρ m => s_Pflat_parser_set_1 G (ρ 7) (ρ 2) (ρ 1) m) (tr (tr (seqQ (f := fun ρ m => s_Pflat_parser_set_2 G (ρ 7) m) (fun ρ m => by kernel_rfl)) (seqQ (f := fun ρ m => s_Pflat_parser_set_3 G (ρ 11) (ρ 2) (ρ 1) (ρ 7) m) (tr (blockQ (seqQ (f := fun ρ m => s_Pflat_parser_set_4 G (ρ 14) (ρ 2) (ρ 1) (ρ 7) (ρ 11) m) (tr (condQ (refQ) (seqQ (f := fun ρ m => s_Pflat_parser_set_5 G (ρ 21) (ρ 2) (ρ 1) (ρ 7) (ρ 11) m) (tr (condQ (refQ) (seqQ (f := fun ρ m => s_Pflat_parser_set_6 G (ρ 28) (ρ 2) (ρ 1) (ρ 7) (ρ 11) m) (tr (condQ (refQ) (seqQ (f := fun ρ m => s_Pflat_parser_set_7 G (ρ 35) (ρ 2) (ρ 1) (ρ 7) (ρ 11) m) (tr (condQ (refQ) (seqQ (f := fun ρ m => s_Pflat_parser_set_8 G (ρ 47) (ρ 2) (ρ 1) (ρ 7) (ρ 11) m) (tr (condQ (seqQ (f := fun ρ m => s_Pflat_parser_set_9 G (ρ 8) (ρ 2) (ρ 1) (ρ 7) m) (tr (blockQ (loopQ (fun i ρ m => s_Pflat_parser_set_10 G i (ρ 8) (ρ 2) (ρ 1) (ρ 7) m) (fun _ _ => rfl) (fun i0 => fun ρ m => by kernel_rfl))) (fun ρ m => by kernel_rfl))) (refQ)) (fun ρ m => by kernel_rfl)))) (fun ρ m => by kernel_rfl)))) (fun ρ m => by kernel_rfl)))) (fun ρ m => by kernel_rfl)))) (fun ρ m => by kernel_rfl)))) (fun ρ m => by kernel_rfl)))) (fun ρ m => by kernel_rfl))) (fun ρ m => by kernel_rfl))) (fun ρ m => by kernel_rfl)) m
noncomputable def E_Pflat_parser_set : Entry Go.Proofs.Tryz.prog := ⟨F_Pflat_parser_set, Go.Proofs.Tryz.f132, Go.Proofs.Tryz.func132, by kernel_rfl, arg3 (fun G a0 a1 a2 m => s_Pflat_parser_set G a1 a2 m), okarg3 e_Pflat_parser_set⟩
/-! 133 strings.Trim -/
noncomputable def s_strings_Trim_2 (G : Gt) (p21 p0 p1 : Value) (m : Mem) : Option Rs :=
  brb p21
    (bp (pur (aIndexStr p1 (.int .i64 0)) m) fun x0 m =>
  bp (pur (aIndexStr p1 (.int .i64 0)) m) fun x1 m =>
  bp (G.tab F_strings_trimRightByte [p0, x0] m) fun x2 m =>
  bp (G.tab F_strings_trimLeftByte [x2, x1] m) fun x3 m =>
  some (x3, m))
    (bp (G.tab F_strings_makeASCIISet [p1] m) fun x4 m =>
  bp (pur (aExtract x4 0) m) fun x5 m =>
  bp (pur (aExtract x4 1) m) fun x6 m =>
  bp (some (aNew T_strings_asciiSet z_strings_asciiSet m)) fun x7 m =>
  bp (unt (aStore 256 x7 x5 m)) fun _ m =>
  brb x6
    (bp (G.tab F_strings_trimRightASCII [p0, x7] m) fun x8 m =>
  bp (G.tab F_strings_trimLeftASCII [x8, x7] m) fun x9 m =>
  some (x9, m))
    (bp (G.tab F_strings_trimRightUnicode [p0, p1] m) fun x10 m =>
  bp (G.tab F_strings_trimLeftUnicode [x10, p1] m) fun x11 m =>
  some (x11, m)))
noncomputable def s_strings_Trim_1 (G : Gt) (p1 p0 : Value) (m : Mem) : Option Rs :=
  bp (pur (lenK 0 p1 m) m) fun x12 m =>
  bp (pur (bin .eql true true .int x12 (.int .i64 1)) m) fun x13 m =>
  brb x13
    (bp (pur (aIndexStr p1 (.int .i64 0)) m) fun x14 m =>
  bp (pur (bin .lss true true .int x14 (.int .u8 128)) m) fun x15 m =>
  s_strings_Trim_2 G x15 p0 p1 m)
    (s_strings_Trim_2 G (.bool false) p0 p1 m)
noncomputable def s_strings_Trim_3 (G : Gt) (p12 p0 p1 : Value) (m : Mem) : Option Rs :=
  brb p12
    (some (p0, m))
    (s_strings_Trim_1 G p1 p0 m)
noncomputable def s_strings_Trim_0 (G : Gt) (p0 p1 : Value) (m : Mem) : Option Rs :=
  bp (pur (bin .eql true true .str p0 (.string ⟨#[]⟩)) m) fun x16 m =>
  brb x16
    (s_strings_Trim_3 G (.bool true) p0 p1 m)
    (bp (pur (bin .eql true true .str p1 (.string ⟨#[]⟩)) m) fun x17 m =>
  s_strings_Trim_3 G x17 p0 p1 m)
noncomputable def s_strings_Trim (G : Gt) (p0 p1 : Value) (m : Mem) : Option Rs :=
  s_strings_Trim_0 G p0 p1 m
theorem e_strings_Trim (G : Gt) (a0 a1 : Value) (m : Mem) : evFn Go.Proofs.Tryz.prog G.tab G.rds (drOf Go.Proofs.Tryz.prog G.tab) Go.Proofs.Tryz.f133 [a0, a1] m = s_strings_Trim G a0 a1 m :=
  evFn_of (r := fun ρ m => s_strings_Trim G (ρ 0) (ρ 1) m) rfl rfl (tr (seqQ (f := fun ρ m => s_strings_Trim_0 G (ρ 0) (ρ 1) m) (tr (tr (seqQ (f := fun ρ m => s_strings_Trim_1 G (ρ 1) (ρ 0) m) (tr (tr seqD (seqQ (f := fun ρ m => s_strings_Trim_2 G (ρ 21) (ρ 0) (ρ 1) m) (fun ρ m => by kernel_rfl))) (fun ρ m => by kernel_rfl))) (seqQ (f := fun ρ m => s_strings_Trim_3 G (ρ 12) (ρ 0) (ρ 1) m) (fun ρ m => by kernel_rfl))) (fun ρ m => by kernel_rfl))) (fun ρ m => by kernel_rfl)) m
noncomputable def E_strings_Trim : Entry Go.Proofs.Tryz.prog := ⟨F_strings_Trim, Go.Proofs.Tryz.f133, Go.Proofs.Tryz.func133, by kernel_rfl, arg2 (fun G a0 a1 m => s_strings_Trim G a0 a1 m), okarg2 e_strings_Trim⟩
/-! 135 (*waymark/flat.cursor).redist -/
noncomputable def s_Pflat_cursor_redist_4 (G : Gt) (p9 p8 : Value) (m : Mem) : Option Rs :=
  bp (pur (aLoad true 4 p9 m) m) fun x0 m =>
  bp (unt (aStore 4 p8 x0 m)) fun _ m =>
  ob (ob (aLoad true 4 p8 m) fun v => ob (some []) fun l => some (v :: l)) fun l => some (resVal l, m)
noncomputable def s_Pflat_cursor_redist_3 (G : Gt) (p0 p9 p8 : Value) (m : Mem) : Option Rs :=
  bp (G.tab F_Pflat_cursor_is [p0, (.string ⟨#[114, 111, 117, 116, 101, 45, 109, 97, 112]⟩)] m) fun x1 m =>
  brb x1
    (bp (G.tab F_Pflat_cursor_name [p0] m) fun x2 m =>
  bp (pur (aFieldAddr 3 p9) m) fun x3 m =>
  bp (unt (aStore 1 x3 x2 m)) fun _ m =>
  s_Pflat_cursor_redist_4 G p9 p8 m)
    (s_Pflat_cursor_redist_4 G p9 p8 m)
noncomputable def s_Pflat_cursor_redist_2 (G : Gt) (p3 p9 p0 p8 : Value) (m : Mem) : Option Rs :=
  brb p3
    (bp (pur (aFieldAddr 2 p9) m) fun x4 m =>
  bp (unt (aStore 1 x4 (.int .u8 2) m)) fun _ m =>
  bp (G.tab F_Pflat_cursor_is [p0, (.string ⟨#[116, 121, 112, 101]⟩)] m) fun x5 m =>
  brb x5
    (bp (G.tab F_Pflat_cursor_number [p0, (.int .i64 1), (.int .i64 2)] m) fun x6 m =>
  bp (conv (.int .u8) x6 m) fun x7 m =>
  bp (pur (aFieldAddr 2 p9) m) fun x8 m =>
  bp (unt (aStore 1 x8 x7 m)) fun _ m =>
  s_Pflat_cursor_redist_3 G p0 p9 p8 m)
    (s_Pflat_cursor_redist_3 G p0 p9 p8 m))
    (s_Pflat_cursor_redist_3 G p0 p9 p8 m)
noncomputable def s_Pflat_cursor_redist_1 (G : Gt) (p0 p9 p3 p8 : Value) (m : Mem) : Option Rs :=
  bp (G.tab F_Pflat_cursor_is [p0, (.string ⟨#[109, 101, 116, 114, 105, 99]⟩)] m) fun x9 m =>
  brb x9
    (bp (G.tab F_Pflat_cursor_number [p0, (.int .i64 0), (.int .i64 16777216)] m) fun x10 m =>
  bp (pur (aFieldAddr 1 p9) m) fun x11 m =>
  bp (unt (aStore 1 x11 x10 m)) fun _ m =>
  s_Pflat_cursor_redist_2 G p3 p9 p0 p8 m)
    (s_Pflat_cursor_redist_2 G p3 p9 p0 p8 m)
noncomputable def s_Pflat_cursor_redist_0 (G : Gt) (p2 p0 p1 p3 p8 : Value) (m : Mem) : Option Rs :=
  bp (aBuildSlice T_uint8 [(.int .u8 0)] 1 3 [(0, (.int .u8 1)), (1, (.int .u8 2)), (2, p2)] m) fun x12 m =>
  bp (aBuildSlice T_string [(.string ⟨#[]⟩)] 1 3 [(0, (.string ⟨#[99, 111, 110, 110, 101, 99, 116, 101, 100]⟩)), (1, (.string ⟨#[115, 116, 97, 116, 105, 99]⟩)), (2, p1)] m) fun x13 m =>
  bp (G.tab F_Pflat_cursor_one [p0, x13] m) fun x14 m =>
  bp (pur (aIndexAddrSl 1 x12 x14) m) fun x15 m =>
  bp (pur (aLoad false 1 x15 m) m) fun x16 m =>
  bp (pur (aBuild z_api_Redist [(0, 1), (1, 1), (2, 1), (3, 1)] [(0, x16), (1, (.int .i64 (-1)))]) m) fun x17 m =>
  bp (some (aNew T_api_Redist z_api_Redist m)) fun x18 m =>
  bp (unt (aStore 4 x18 x17 m)) fun _ m =>
  s_Pflat_cursor_redist_1 G p0 x18 p3 p8 m
noncomputable def s_Pflat_cursor_redist (G : Gt) (p2 p0 p1 p3 : Value) (m : Mem) : Option Rs :=
  bp (some (aNew T_api_Redist z_api_Redist m)) fun x19 m =>
  s_Pflat_cursor_redist_0 G p2 p0 p1 p3 x19 m
theorem e_Pflat_cursor_redist (G : Gt) (a0 a1 a2 a3 : Value) (m : Mem) : evFn Go.Proofs.Tryz.prog G.tab G.rds (drOf Go.Proofs.Tryz.prog G.tab) Go.Proofs.Tryz.f135 [a0, a1, a2, a3] m = s_Pflat_cursor_redist G a2 a0 a1 a3 m :=
  evFn_of (r := fun ρ m => s_Pflat_cursor_redist G (ρ 2) (ρ 0) (ρ 1) (ρ 3) m) rfl rfl (tr (seqQ (f := fun ρ m => s_Pflat_cursor_redist_0 G (ρ 2) (ρ 0) (ρ 1) (ρ 3) (ρ 8) m) (tr (seqQ (f := fun ρ m => s_Pflat_cursor_redist_1 G (ρ 0) (ρ 9) (ρ 3) (ρ 8) m) (tr (seqQ (f := fun ρ m => s_Pflat_cursor_redist_2 G (ρ 3) (ρ 9) (ρ 0) (ρ 8) m) (tr (seqQ (f := fun ρ m => s_Pflat_cursor_redist_3 G (ρ 0) (ρ 9) (ρ 8) m) (tr (seqQ (f := fun ρ m => s_Pflat_cursor_redist_4 G (ρ 9) (ρ 8) m) (fun ρ m => by kernel_rfl)) (fun ρ m => by kernel_rfl))) (fun ρ m => by kernel_rfl))) (fun ρ m => by kernel_rfl))) (fun ρ m => by kernel_rfl))) (fun ρ m => by kernel_rfl)) m
noncomputable def E_Pflat_cursor_redist : Entry Go.Proofs.Tryz.prog := ⟨F_Pflat_cursor_redist, Go.Proofs.Tryz.f135, Go.Proofs.Tryz.func135, by kernel_rfl, arg4 (fun G a0 a1 a2 a3 m => s_Pflat_cursor_redist G a2 a0 a1 a3 m), okarg4 e_Pflat_cursor_redist⟩
end Go.Ab.Sh
