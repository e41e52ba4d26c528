/-
  Functions of the program as plain definitions, each with the theorem that it is what the evaluator makes of the code. No conditions.
-/
import Derived.Test.YtbjgjnkihdddlaaGreatDoorAb4
import Derived.Test.YtbjgjnkihdddlaaGreatDoorZ
import Derived.KernelRfl
import Derived.Test.YtbjgjnkihdddlaaGreatDoorProg
set_option linter.unusedVariables false
set_option maxRecDepth 100000
namespace Go.Ab.Sh
open Go Go.Ab
/-! 53 waymark/model.Check -/
noncomputable def s_model_Check_3 (G : Gt) (m : Mem) : Option Rs :=
  some (.tuple ⟨[(.string ⟨#[]⟩), (.int .i64 0)]⟩, m)
noncomputable def s_model_Check_8 (G : Gt) (k0 : Value → Value → Value → Mem → Option Rs) (p22 p21 p20 : Value) (m : Mem) : Option Rs :=
  bp (pur (bin .add true true .int p22 (.int .i64 1)) m) fun x0 m =>
  k0 x0 p21 p20 m
noncomputable def s_model_Check_12 (G : Gt) (k0 : Value → Value → Value → Mem → Option Rs) : Nat → Value → Value → Value → Value → Value → Value → Mem → Option Rs
  | 0, _, _, _, _, _, _, _ => none
  | i + 1, p40, p39, p5, p22, p21, p20, m =>
  bp (pur (bin .lss false true .int p40 p39) m) fun x1 m =>
  brb x1
    (bp (pur (aFieldAddr 3 p5) m) fun x2 m =>
  bp (pur (aLoad false 1 x2 m) m) fun x3 m =>
  bp (evCall G.tab x3 [p40] m) fun x4 m =>
  bp (pur (bin .eql true true .int x4 (.int .i64 1)) m) fun x5 m =>
  brb x5
    (bp (pur (aFieldAddr 0 p5) m) fun x6 m =>
  bp (pur (aLoad false 1 x6 m) m) fun x7 m =>
  bp (pur (bin .add true true .str x7 (.string ⟨#[32]⟩)) m) fun x8 m =>
  bp (G.tab F_strconv_Itoa [p40] m) fun x9 m =>
  ckB (again (pur (aLoad false 1 x6 m) m) x7 && true)
    (bp (pur (bin .add false true .str x8 x9) m) fun x10 m =>
  some (.tuple ⟨[x10, (.int .i64 121)]⟩, m)))
    (bp (pur (bin .eql true true .int x4 (.int .i64 2)) m) fun x11 m =>
  brb x11
    (bp (pur (aFieldAddr 0 p5) m) fun x12 m =>
  bp (pur (aLoad false 1 x12 m) m) fun x13 m =>
  bp (pur (bin .add true true .str x13 (.string ⟨#[32]⟩)) m) fun x14 m =>
  bp (G.tab F_strconv_Itoa [p40] m) fun x15 m =>
  ckB (again (pur (aLoad false 1 x12 m) m) x13 && true)
    (bp (pur (bin .add false true .str x14 x15) m) fun x16 m =>
  some (.tuple ⟨[x16, (.int .i64 120)]⟩, m)))
    (bp (pur (bin .add true true .int p40 (.int .i64 1)) m) fun x17 m =>
  (s_model_Check_12 G k0 i) x17 p39 p5 p22 p21 p20 m)))
    (s_model_Check_8 G k0 p22 p21 p20 m)
noncomputable def s_model_Check_11 (G : Gt) (k0 : Value → Value → Value → Mem → Option Rs) (p40 p39 p5 p22 p21 p20 : Value) (m : Mem) : Option Rs :=
  s_model_Check_12 G k0 G.rds p40 p39 p5 p22 p21 p20 m
noncomputable def s_model_Check_10 (G : Gt) (k0 : Value → Value → Value → Mem → Option Rs) (p5 p22 p21 p20 : Value) (m : Mem) : Option Rs :=
  bp (pur (aFieldAddr 1 p5) m) fun x18 m =>
  bp (pur (aLoad false 1 x18 m) m) fun x19 m =>
  s_model_Check_11 G k0 (.int .i64 0) x19 p5 p22 p21 p20 m
noncomputable def s_model_Check_9 (G : Gt) (k0 : Value → Value → Value → Mem → Option Rs) (p5 p22 p21 p20 : Value) (m : Mem) : Option Rs :=
  bp (pur (aFieldAddr 1 p5) m) fun x20 m =>
  bp (pur (aLoad false 1 x20 m) m) fun x21 m =>
  bp (pur (aFieldAddr 2 p5) m) fun x22 m =>
  bp (pur (aLoad false 1 x22 m) m) fun x23 m =>
  bp (pur (bin .gtr false true .int x21 x23) m) fun x24 m =>
  brb x24
    (bp (pur (aFieldAddr 0 p5) m) fun x25 m =>
  bp (pur (aLoad false 1 x25 m) m) fun x26 m =>
  bp (pur (bin .add true true .str x26 (.string ⟨#[32]⟩)) m) fun x27 m =>
  bp (pur (aFieldAddr 2 p5) m) fun x28 m =>
  bp (pur (aLoad false 1 x28 m) m) fun x29 m =>
  bp (G.tab F_strconv_Itoa [x29] m) fun x30 m =>
  ckB (again (pur (aLoad false 1 x25 m) m) x26 && true)
    (bp (pur (bin .add false true .str x27 x30) m) fun x31 m =>
  some (.tuple ⟨[x31, (.int .i64 121)]⟩, m)))
    (s_model_Check_10 G k0 p5 p22 p21 p20 m)
noncomputable def s_model_Check_7 (G : Gt) (k0 : Value → Value → Value → Mem → Option Rs) (p20 p22 p21 : Value) (m : Mem) : Option Rs :=
  bp (pur (aIndexAddrSl 4 p20 p22) m) fun x32 m =>
  bp (pur (aLoad true 4 x32 m) m) fun x33 m =>
  bp (some (aNew T_model_part z_model_part m)) fun x34 m =>
  bp (unt (aStore 4 x34 x33 m)) fun _ m =>
  s_model_Check_9 G k0 x34 p22 p21 p20 m
noncomputable def s_model_Check_6 (G : Gt) (k0 : Value → Value → Value → Mem → Option Rs) (p23 p20 p22 p21 : Value) (m : Mem) : Option Rs :=
  brb p23
    (s_model_Check_7 G k0 p20 p22 p21 m)
    (s_model_Check_3 G m)
noncomputable def s_model_Check_5 (G : Gt) : Nat → Value → Value → Value → Mem → Option Rs
  | 0, _, _, _, _ => none
  | i + 1, p22, p21, p20, m =>
  bp (pur (bin .lss false true .int p22 p21) m) fun x35 m =>
  s_model_Check_6 G (s_model_Check_5 G i) x35 p20 p22 p21 m
noncomputable def s_model_Check_4 (G : Gt) (p22 p21 p20 : Value) (m : Mem) : Option Rs :=
  s_model_Check_5 G G.rds p22 p21 p20 m
noncomputable def s_model_Check_2 (G : Gt) (p1 : Value) (m : Mem) : Option Rs :=
  bp (pur (aLoad true 12 p1 m) m) fun x36 m =>
  bp (G.tab F_model_partsOf [x36] m) fun x37 m =>
  bp (pur (lenK 1 x37 m) m) fun x38 m =>
  s_model_Check_4 G (.int .i64 0) x38 x37 m
noncomputable def s_model_Check_13 (G : Gt) (p18 p1 : Value) (m : Mem) : Option Rs :=
  brb p18
    (some (.tuple ⟨[(.string ⟨#[107, 105, 110, 100]⟩), (.int .i64 121)]⟩, m))
    (s_model_Check_2 G p1 m)
noncomputable def s_model_Check_1 (G : Gt) (p1 : Value) (m : Mem) : Option Rs :=
  bp (pur (aFieldAddr 1 p1) m) fun x39 m =>
  bp (pur (aLoad false 1 x39 m) m) fun x40 m =>
  bp (pur (bin .neq true true .int x40 (.int .u8 1)) m) fun x41 m =>
  brb x41
    (bp (pur (aFieldAddr 1 p1) m) fun x42 m =>
  bp (pur (aLoad false 1 x42 m) m) fun x43 m =>
  bp (pur (bin .neq true true .int x43 (.int .u8 2)) m) fun x44 m =>
  s_model_Check_13 G x44 p1 m)
    (s_model_Check_13 G (.bool false) p1 m)
noncomputable def s_model_Check_0 (G : Gt) (p1 : Value) (m : Mem) : Option Rs :=
  bp (pur (aFieldAddr 0 p1) m) fun x45 m =>
  bp (pur (aLoad false 1 x45 m) m) fun x46 m =>
  bp (G.tab F_model_name [x46] m) fun x47 m =>
  bp (pur (un .not x47) m) fun x48 m =>
  brb x48
    (some (.tuple ⟨[(.string ⟨#[110, 97, 109, 101]⟩), (.int .i64 121)]⟩, m))
    (s_model_Check_1 G p1 m)
noncomputable def s_model_Check (G : Gt) (p0 : Value) (m : Mem) : Option Rs :=
  bp (some (aNew T_api_Device (Value.cells p0).toList m)) fun x49 m =>
  s_model_Check_0 G x49 m
theorem e_model_Check (G : Gt) (a0 : Value) (m : Mem) : evFn Go.Proofs.Tryz.prog G.tab G.rds (drOf Go.Proofs.Tryz.prog G.tab) Go.Proofs.Tryz.f53 [a0] m = s_model_Check G a0 m :=
  evFn_of (r := fun ρ m => s_model_Check G (ρ 0) m) rfl rfl (tr (seqQ (f := fun ρ m => s_model_Check_0 G (ρ 1) m) (tr (seqQ (f := fun ρ m => s_model_Check_1 G (ρ 1) m) (tr (tr (seqQ (f := fun ρ m => s_model_Check_2 G (ρ 1) m) (tr (tr (seqQ (f := fun ρ m => s_model_Check_3 G m) (fun ρ m => by kernel_rfl)) (seqQ (f := fun ρ m => s_model_Check_4 G (ρ 22) (ρ 21) (ρ 20) m) (tr (blockQ (loopQ (fun i ρ m => s_model_Check_5 G i (ρ 22) (ρ 21) (ρ 20) m) (fun _ _ => rfl) (fun i0 => tr (seqQ (f := fun ρ m => s_model_Check_6 G (s_model_Check_5 G i0) (ρ 23) (ρ 20) (ρ 22) (ρ 21) m) (tr (seqQ (f := fun ρ m => s_model_Check_7 G (s_model_Check_5 G i0) (ρ 20) (ρ 22) (ρ 21) m) (tr (tr (seqQ (f := fun ρ m => s_model_Check_8 G (s_model_Check_5 G i0) (ρ 22) (ρ 21) (ρ 20) m) (fun ρ m => by kernel_rfl)) (blockQ (seqQ (f := fun ρ m => s_model_Check_9 G (s_model_Check_5 G i0) (ρ 5) (ρ 22) (ρ 21) (ρ 20) m) (tr (seqQ (f := fun ρ m => s_model_Check_10 G (s_model_Check_5 G i0) (ρ 5) (ρ 22) (ρ 21) (ρ 20) m) (tr (seqQ (f := fun ρ m => s_model_Check_11 G (s_model_Check_5 G i0) (ρ 40) (ρ 39) (ρ 5) (ρ 22) (ρ 21) (ρ 20) m) (tr (blockQ (loopQ (fun i ρ m => s_model_Check_12 G (s_model_Check_5 G i0) i (ρ 40) (ρ 39) (ρ 5) (ρ 22) (ρ 21) (ρ 20) m) (fun _ _ => rfl) (fun i1 => fun ρ m => by kernel_rfl))) (fun ρ m => by kernel_rfl))) (fun ρ m => by kernel_rfl))) (fun ρ m => by kernel_rfl))))) (fun ρ m => by kernel_rfl))) (fun ρ m => by kernel_rfl))) (fun ρ m => by kernel_rfl)))) (fun ρ m => by kernel_rfl)))) (fun ρ m => by kernel_rfl))) (seqQ (f := fun ρ m => s_model_Check_13 G (ρ 18) (ρ 1) m) (fun ρ m => by kernel_rfl))) (fun ρ m => by kernel_rfl))) (fun ρ m => by kernel_rfl))) (fun ρ m => by kernel_rfl)) m
noncomputable def E_model_Check : Entry Go.Proofs.Tryz.prog := ⟨F_model_Check, Go.Proofs.Tryz.f53, Go.Proofs.Tryz.func53, by kernel_rfl, arg1 (fun G a0 m => s_model_Check G a0 m), okarg1 e_model_Check⟩
/-! 54 waymark/flat.ports -/
noncomputable def s_flat_ports_1 (G : Gt) (p2 : Value) (m : Mem) : Option Rs :=
  some (p2, m)
noncomputable def s_flat_ports_0 (G : Gt) (p1 : Value) (m : Mem) : Option Rs :=
  bp (pur (aFieldAddr 0 p1) m) fun x0 m =>
  bp (pur (aLoad false 1 x0 m) m) fun x1 m =>
  bp (pur (bin .neq true true .int x1 (.int .u32 0)) m) fun x2 m =>
  brt x2
    (bp (pur (aFieldAddr 0 p1) m) fun x3 m =>
  bp (pur (aLoad false 1 x3 m) m) fun x4 m =>
  bp (conv (.int .i64) x4 m) fun x5 m =>
  bp (pur (aFieldAddr 1 p1) m) fun x6 m =>
  bp (pur (aLoad false 1 x6 m) m) fun x7 m =>
  bp (conv (.int .i64) x7 m) fun x8 m =>
  bp (G.tab F_flat_number [x5] m) fun x9 m =>
  ckB (again (pur (aLoad false 1 x6 m) m) x7 && true)
    (bp (G.tab F_flat_number [x8] m) fun x10 m =>
  ckB true
    (bp (aBuildSlice T_string [(.string ⟨#[]⟩)] 1 3 [(0, (.string ⟨#[114, 97, 110, 103, 101]⟩)), (1, x9), (2, x10)] m) fun x11 m =>
  bp (G.tab F_flat_opt [(.bool true), x11] m) fun x12 m =>
  s_flat_ports_1 G x12 m)))
    (bp (pur (aFieldAddr 1 p1) m) fun x13 m =>
  bp (pur (aLoad false 1 x13 m) m) fun x14 m =>
  bp (pur (bin .neq true true .int x14 (.int .u32 65535)) m) fun x15 m =>
  bp (pur (aFieldAddr 0 p1) m) fun x16 m =>
  bp (pur (aLoad false 1 x16 m) m) fun x17 m =>
  bp (conv (.int .i64) x17 m) fun x18 m =>
  bp (pur (aFieldAddr 1 p1) m) fun x19 m =>
  bp (pur (aLoad false 1 x19 m) m) fun x20 m =>
  bp (conv (.int .i64) x20 m) fun x21 m =>
  bp (G.tab F_flat_number [x18] m) fun x22 m =>
  ckB (again (pur (aLoad false 1 x13 m) m) x14 && (again (pur (aLoad false 1 x19 m) m) x20 && true))
    (bp (G.tab F_flat_number [x21] m) fun x23 m =>
  ckB (again (pur (aLoad false 1 x13 m) m) x14 && true)
    (bp (aBuildSlice T_string [(.string ⟨#[]⟩)] 1 3 [(0, (.string ⟨#[114, 97, 110, 103, 101]⟩)), (1, x22), (2, x23)] m) fun x24 m =>
  bp (G.tab F_flat_opt [x15, x24] m) fun x25 m =>
  s_flat_ports_1 G x25 m)))
    (none)
noncomputable def s_flat_ports (G : Gt) (p0 : Value) (m : Mem) : Option Rs :=
  bp (some (aNew T_api_Span (Value.cells p0).toList m)) fun x26 m =>
  s_flat_ports_0 G x26 m
theorem e_flat_ports (G : Gt) (a0 : Value) (m : Mem) : evFn Go.Proofs.Tryz.prog G.tab G.rds (drOf Go.Proofs.Tryz.prog G.tab) Go.Proofs.Tryz.f54 [a0] m = s_flat_ports G a0 m :=
  evFn_of (r := fun ρ m => s_flat_ports G (ρ 0) m) rfl rfl (tr (seqQ (f := fun ρ m => s_flat_ports_0 G (ρ 1) m) (tr (seqQ (f := fun ρ m => s_flat_ports_1 G (ρ 2) m) (fun ρ m => by kernel_rfl)) (fun ρ m => by kernel_rfl))) (fun ρ m => by kernel_rfl)) m
noncomputable def E_flat_ports : Entry Go.Proofs.Tryz.prog := ⟨F_flat_ports, Go.Proofs.Tryz.f54, Go.Proofs.Tryz.func54, by kernel_rfl, arg1 (fun G a0 m => s_flat_ports G a0 m), okarg1 e_flat_ports⟩
/-! 55 waymark/flat.can$1 -/
noncomputable def s_flat_canS1_4 (G : Gt) (k0 : Value → Value → Value → Value → Mem → Option Rs) (p7 p6 p5 p1 : Value) (m : Mem) : Option Rs :=
  bp (pur (bin .add true true .int p7 (.int .i64 1)) m) fun x0 m =>
  k0 x0 p6 p5 p1 m
noncomputable def s_flat_canS1_3 (G : Gt) (k0 : Value → Value → Value → Value → Mem → Option Rs) (p5 p7 p1 p6 : Value) (m : Mem) : Option Rs :=
  bp (pur (aIndexAddrSl 4 p5 p7) m) fun x1 m =>
  bp (pur (aLoad true 4 x1 m) m) fun x2 m =>
  bp (some (aNew T_api_Redist z_api_Redist m)) fun x3 m =>
  bp (unt (aStore 4 x3 x2 m)) fun _ m =>
  bp (pur (aLoad false 1 p1 m) m) fun x4 m =>
  brb x4
    (bp (pur (aFieldAddr 0 x3) m) fun x5 m =>
  bp (pur (aLoad false 1 x5 m) m) fun x6 m =>
  bp (G.tab F_math_bits_OnesCount8 [x6] m) fun x7 m =>
  bp (pur (bin .eql true true .int x7 (.int .i64 1)) m) fun x8 m =>
  bp (unt (aStore 1 p1 x8 m)) fun _ m =>
  s_flat_canS1_4 G k0 p7 p6 p5 p1 m)
    (bp (unt (aStore 1 p1 (.bool false) m)) fun _ m =>
  s_flat_canS1_4 G k0 p7 p6 p5 p1 m)
noncomputable def s_flat_canS1_2 (G : Gt) (k0 : Value → Value → Value → Value → Mem → Option Rs) (p8 p5 p7 p1 p6 : Value) (m : Mem) : Option Rs :=
  brb p8
    (s_flat_canS1_3 G k0 p5 p7 p1 p6 m)
    (some (.tuple ⟨[]⟩, m))
noncomputable def s_flat_canS1_1 (G : Gt) : Nat → Value → Value → Value → Value → Mem → Option Rs
  | 0, _, _, _, _, _ => none
  | i + 1, p7, p6, p5, p1, m =>
  bp (pur (bin .lss false true .int p7 p6) m) fun x9 m =>
  s_flat_canS1_2 G (s_flat_canS1_1 G i) x9 p5 p7 p1 p6 m
noncomputable def s_flat_canS1_0 (G : Gt) (p7 p6 p5 p1 : Value) (m : Mem) : Option Rs :=
  s_flat_canS1_1 G G.rds p7 p6 p5 p1 m
noncomputable def s_flat_canS1 (G : Gt) (p0 p1 : Value) (m : Mem) : Option Rs :=
  bp (pur (lenK 1 p0 m) m) fun x10 m =>
  s_flat_canS1_0 G (.int .i64 0) x10 p0 p1 m
theorem e_flat_canS1 (G : Gt) (a0 a1 : Value) (m : Mem) : evFn Go.Proofs.Tryz.prog G.tab G.rds (drOf Go.Proofs.Tryz.prog G.tab) Go.Proofs.Tryz.f55 [a0, a1] m = s_flat_canS1 G a0 a1 m :=
  evFn_of (r := fun ρ m => s_flat_canS1 G (ρ 0) (ρ 1) m) rfl rfl (tr (seqQ (f := fun ρ m => s_flat_canS1_0 G (ρ 7) (ρ 6) (ρ 5) (ρ 1) m) (tr (blockQ (loopQ (fun i ρ m => s_flat_canS1_1 G i (ρ 7) (ρ 6) (ρ 5) (ρ 1) m) (fun _ _ => rfl) (fun i0 => tr (seqQ (f := fun ρ m => s_flat_canS1_2 G (s_flat_canS1_1 G i0) (ρ 8) (ρ 5) (ρ 7) (ρ 1) (ρ 6) m) (tr (seqQ (f := fun ρ m => s_flat_canS1_3 G (s_flat_canS1_1 G i0) (ρ 5) (ρ 7) (ρ 1) (ρ 6) m) (tr (seqQ (f := fun ρ m => s_flat_canS1_4 G (s_flat_canS1_1 G i0) (ρ 7) (ρ 6) (ρ 5) (ρ 1) m) (fun ρ m => by kernel_rfl)) (fun ρ m => by kernel_rfl))) (fun ρ m => by kernel_rfl))) (fun ρ m => by kernel_rfl)))) (fun ρ m => by kernel_rfl))) (fun ρ m => by kernel_rfl)) m
noncomputable def E_flat_canS1 : Entry Go.Proofs.Tryz.prog := ⟨F_flat_canS1, Go.Proofs.Tryz.f55, Go.Proofs.Tryz.func55, by kernel_rfl, arg2 (fun G a0 a1 m => s_flat_canS1 G a0 a1 m), okarg2 e_flat_canS1⟩
/-! 56 math/bits.OnesCount8 -/
noncomputable def s_math_bits_OnesCount8 (G : Gt) (p0 : Value) (m : Mem) : Option Rs :=
  bp (pur (aIndexStr (.string ⟨#[0, 1, 1, 2, 1, 2, 2, 3, 1, 2, 2, 3, 2, 3, 3, 4, 1, 2, 2, 3, 2, 3, 3, 4, 2, 3, 3, 4, 3, 4, 4, 5, 1, 2, 2, 3, 2, 3, 3, 4, 2, 3, 3, 4, 3, 4, 4, 5, 2, 3, 3, 4, 3, 4, 4, 5, 3, 4, 4, 5, 4, 5, 5, 6, 1, 2, 2, 3, 2, 3, 3, 4, 2, 3, 3, 4, 3, 4, 4, 5, 2, 3, 3, 4, 3, 4, 4, 5, 3, 4, 4, 5, 4, 5, 5, 6, 2, 3, 3, 4, 3, 4, 4, 5, 3, 4, 4, 5, 4, 5, 5, 6, 3, 4, 4, 5, 4, 5, 5, 6, 4, 5, 5, 6, 5, 6, 6, 7, 1, 2, 2, 3, 2, 3, 3, 4, 2, 3, 3, 4, 3, 4, 4, 5, 2, 3, 3, 4, 3, 4, 4, 5, 3, 4, 4, 5, 4, 5, 5, 6, 2, 3, 3, 4, 3, 4, 4, 5, 3, 4, 4, 5, 4, 5, 5, 6, 3, 4, 4, 5, 4, 5, 5, 6, 4, 5, 5, 6, 5, 6, 6, 7, 2, 3, 3, 4, 3, 4, 4, 5, 3, 4, 4, 5, 4, 5, 5, 6, 3, 4, 4, 5, 4, 5, 5, 6, 4, 5, 5, 6, 5, 6, 6, 7, 3, 4, 4, 5, 4, 5, 5, 6, 4, 5, 5, 6, 5, 6, 6, 7, 4, 5, 5, 6, 5, 6, 6, 7, 5, 6, 6, 7, 6, 7, 7, 8]⟩) p0) m) fun x0 m =>
  bp (conv (.int .i64) x0 m) fun x1 m =>
  some (x1, m)
theorem e_math_bits_OnesCount8 (G : Gt) (a0 : Value) (m : Mem) : evFn Go.Proofs.Tryz.prog G.tab G.rds (drOf Go.Proofs.Tryz.prog G.tab) Go.Proofs.Tryz.f56 [a0] m = s_math_bits_OnesCount8 G a0 m :=
  evFn_of (r := fun ρ m => s_math_bits_OnesCount8 G (ρ 0) m) rfl rfl (fun ρ m => by kernel_rfl) m
noncomputable def E_math_bits_OnesCount8 : Entry Go.Proofs.Tryz.prog := ⟨F_math_bits_OnesCount8, Go.Proofs.Tryz.f56, Go.Proofs.Tryz.func56, by kernel_rfl, arg1 (fun G a0 m => s_math_bits_OnesCount8 G a0 m), okarg1 e_math_bits_OnesCount8⟩
/-! 57 (*strings.Builder).WriteString -/
noncomputable def s_Pstrings_Builder_WriteString (G : Gt) (p0 p1 : Value) (m : Mem) : Option Rs :=
  bp (G.tab F_Pstrings_Builder_copyCheck [p0] m) fun x0 m =>
  bp (pur (aNilCheck p0) m) fun x1 m =>
  bp (pur (aFieldAddr 1 x1) m) fun x2 m =>
  bp (pur (aLoad false 1 x2 m) m) fun x3 m =>
  bp (aAppend T_uint8 1 1 x3 p1 m) fun x4 m =>
  bp (pur (aNilCheck p0) m) fun x5 m =>
  bp (pur (aFieldAddr 1 x5) m) fun x6 m =>
  bp (unt (aStore 1 x6 x4 m)) fun _ m =>
  bp (pur (lenK 0 p1 m) m) fun x7 m =>
  some (.tuple ⟨[x7, .nilIface]⟩, m)
theorem e_Pstrings_Builder_WriteString (G : Gt) (a0 a1 : Value) (m : Mem) : evFn Go.Proofs.Tryz.prog G.tab G.rds (drOf Go.Proofs.Tryz.prog G.tab) Go.Proofs.Tryz.f57 [a0, a1] m = s_Pstrings_Builder_WriteString G a0 a1 m :=
  evFn_of (r := fun ρ m => s_Pstrings_Builder_WriteString G (ρ 0) (ρ 1) m) rfl rfl (fun ρ m => by kernel_rfl) m
noncomputable def E_Pstrings_Builder_WriteString : Entry Go.Proofs.Tryz.prog := ⟨F_Pstrings_Builder_WriteString, Go.Proofs.Tryz.f57, Go.Proofs.Tryz.func57, by kernel_rfl, arg2 (fun G a0 a1 m => s_Pstrings_Builder_WriteString G a0 a1 m), okarg2 e_Pstrings_Builder_WriteString⟩
/-! 58 (*strings.Builder).WriteByte -/
noncomputable def s_Pstrings_Builder_WriteByte (G : Gt) (p0 p1 : Value) (m : Mem) : Option Rs :=
  bp (G.tab F_Pstrings_Builder_copyCheck [p0] m) fun x0 m =>
  bp (pur (aNilCheck p0) m) fun x1 m =>
  bp (pur (aFieldAddr 1 x1) m) fun x2 m =>
  bp (pur (aLoad false 1 x2 m) m) fun x3 m =>
  bp (aBuildSlice T_uint8 [(.int .u8 0)] 1 1 [(0, p1)] m) fun x4 m =>
  bp (apS T_uint8 1 1 x3 x4 m) fun x5 m =>
  bp (pur (aNilCheck p0) m) fun x6 m =>
  bp (pur (aFieldAddr 1 x6) m) fun x7 m =>
  bp (unt (aStore 1 x7 x5 m)) fun _ m =>
  some (.nilIface, m)
theorem e_Pstrings_Builder_WriteByte (G : Gt) (a0 a1 : Value) (m : Mem) : evFn Go.Proofs.Tryz.prog G.tab G.rds (drOf Go.Proofs.Tryz.prog G.tab) Go.Proofs.Tryz.f58 [a0, a1] m = s_Pstrings_Builder_WriteByte G a0 a1 m :=
  evFn_of (r := fun ρ m => s_Pstrings_Builder_WriteByte G (ρ 0) (ρ 1) m) rfl rfl (fun ρ m => by kernel_rfl) m
noncomputable def E_Pstrings_Builder_WriteByte : Entry Go.Proofs.Tryz.prog := ⟨F_Pstrings_Builder_WriteByte, Go.Proofs.Tryz.f58, Go.Proofs.Tryz.func58, by kernel_rfl, arg2 (fun G a0 a1 m => s_Pstrings_Builder_WriteByte G a0 a1 m), okarg2 e_Pstrings_Builder_WriteByte⟩
/-! 59 waymark/flat.ends -/
noncomputable def s_flat_ends (G : Gt) (p0 : Value) (m : Mem) : Option Rs :=
  bp (some (aNew T_api_Prefix (Value.cells p0).toList m)) fun x0 m =>
  bp (pur (aFieldAddr 1 x0) m) fun x1 m =>
  bp (pur (aLoad false 1 x1 m) m) fun x2 m =>
  bp (pur (bin .eql true true .int x2 (.int .i64 0)) m) fun x3 m =>
  brb x3
    (some ((.string ⟨#[97, 110, 121]⟩), m))
    (bp (pur (aFieldAddr 0 x0) m) fun x4 m =>
  bp (pur (aLoad false 1 x4 m) m) fun x5 m =>
  bp (pur (aFieldAddr 1 x0) m) fun x6 m =>
  bp (pur (aLoad false 1 x6 m) m) fun x7 m =>
  bp (G.tab F_addr_Text [x5] m) fun x8 m =>
  ckB (again (pur (aLoad false 1 x6 m) m) x7 && true)
    (bp (pur (bin .add true true .str x8 (.string ⟨#[32]⟩)) m) fun x9 m =>
  bp (G.tab F_flat_mask [x7, (.bool true)] m) fun x10 m =>
  bp (pur (bin .add false true .str x9 x10) m) fun x11 m =>
  some (x11, m)))
theorem e_flat_ends (G : Gt) (a0 : Value) (m : Mem) : evFn Go.Proofs.Tryz.prog G.tab G.rds (drOf Go.Proofs.Tryz.prog G.tab) Go.Proofs.Tryz.f59 [a0] m = s_flat_ends G a0 m :=
  evFn_of (r := fun ρ m => s_flat_ends G (ρ 0) m) rfl rfl (fun ρ m => by kernel_rfl) m
noncomputable def E_flat_ends : Entry Go.Proofs.Tryz.prog := ⟨F_flat_ends, Go.Proofs.Tryz.f59, Go.Proofs.Tryz.func59, by kernel_rfl, arg1 (fun G a0 m => s_flat_ends G a0 m), okarg1 e_flat_ends⟩
/-! 62 waymark/addr.Mask -/
noncomputable def s_addr_Mask_1 (G : Gt) (p9 p0 : Value) (m : Mem) : Option Rs :=
  brb p9
    (some (.tuple ⟨[(.int .u32 0), (.int .i64 1)]⟩, m))
    (bp (G.tab F_addr_behind [p0] m) fun x0 m =>
  bp (pur (un .xor x0) m) fun x1 m =>
  some (.tuple ⟨[x1, (.int .i64 0)]⟩, m))
noncomputable def s_addr_Mask_0 (G : Gt) (p0 : Value) (m : Mem) : Option Rs :=
  bp (pur (bin .lss true true .int p0 (.int .i64 0)) m) fun x2 m =>
  brb x2
    (s_addr_Mask_1 G (.bool true) p0 m)
    (bp (pur (bin .gtr true true .int p0 (.int .i64 32)) m) fun x3 m =>
  s_addr_Mask_1 G x3 p0 m)
noncomputable def s_addr_Mask (G : Gt) (p0 : Value) (m : Mem) : Option Rs :=
  s_addr_Mask_0 G p0 m
theorem e_addr_Mask (G : Gt) (a0 : Value) (m : Mem) : evFn Go.Proofs.Tryz.prog G.tab G.rds (drOf Go.Proofs.Tryz.prog G.tab) Go.Proofs.Tryz.f62 [a0] m = s_addr_Mask G a0 m :=
  evFn_of (r := fun ρ m => s_addr_Mask G (ρ 0) m) rfl rfl (tr (seqQ (f := fun ρ m => s_addr_Mask_0 G (ρ 0) m) (tr (tr seqD (seqQ (f := fun ρ m => s_addr_Mask_1 G (ρ 9) (ρ 0) m) (fun ρ m => by kernel_rfl))) (fun ρ m => by kernel_rfl))) (fun ρ m => by kernel_rfl)) m
noncomputable def E_addr_Mask : Entry Go.Proofs.Tryz.prog := ⟨F_addr_Mask, Go.Proofs.Tryz.f62, Go.Proofs.Tryz.func62, by kernel_rfl, arg1 (fun G a0 m => s_addr_Mask G a0 m), okarg1 e_addr_Mask⟩
/-! 63 waymark/addr.PrefixText -/
noncomputable def s_addr_PrefixText (G : Gt) (p0 : Value) (m : Mem) : Option Rs :=
  bp (some (aNew T_api_Prefix (Value.cells p0).toList m)) fun x0 m =>
  bp (pur (aFieldAddr 0 x0) m) fun x1 m =>
  bp (pur (aLoad false 1 x1 m) m) fun x2 m =>
  bp (pur (aFieldAddr 1 x0) m) fun x3 m =>
  bp (pur (aLoad false 1 x3 m) m) fun x4 m =>
  bp (G.tab F_addr_Text [x2] m) fun x5 m =>
  ckB (again (pur (aLoad false 1 x3 m) m) x4 && true)
    (bp (pur (bin .add true true .str x5 (.string ⟨#[47]⟩)) m) fun x6 m =>
  bp (G.tab F_strconv_Itoa [x4] m) fun x7 m =>
  bp (pur (bin .add false true .str x6 x7) m) fun x8 m =>
  some (x8, m))
theorem e_addr_PrefixText (G : Gt) (a0 : Value) (m : Mem) : evFn Go.Proofs.Tryz.prog G.tab G.rds (drOf Go.Proofs.Tryz.prog G.tab) Go.Proofs.Tryz.f63 [a0] m = s_addr_PrefixText G a0 m :=
  evFn_of (r := fun ρ m => s_addr_PrefixText G (ρ 0) m) rfl rfl (fun ρ m => by kernel_rfl) m
noncomputable def E_addr_PrefixText : Entry Go.Proofs.Tryz.prog := ⟨F_addr_PrefixText, Go.Proofs.Tryz.f63, Go.Proofs.Tryz.func63, by kernel_rfl, arg1 (fun G a0 m => s_addr_PrefixText G a0 m), okarg1 e_addr_PrefixText⟩
/-! 64 waymark/flat.comms -/
noncomputable def s_flat_comms_2 (G : Gt) (p3 : Value) (m : Mem) : Option Rs :=
  bp (G.tab F_strings_Join [p3, (.string ⟨#[32]⟩)] m) fun x0 m =>
  some (x0, m)
noncomputable def s_flat_comms_4 (G : Gt) : Nat → Value → Value → Value → Value → Mem → Option Rs
  | 0, _, _, _, _, _ => none
  | i + 1, p8, p7, p6, p3, m =>
  bp (pur (bin .lss false true .int p8 p7) m) fun x1 m =>
  brb x1
    (bp (pur (aIndexAddrSl 1 p6 p8) m) fun x2 m =>
  bp (pur (aLoad false 1 x2 m) m) fun x3 m =>
  bp (G.tab F_lists_Text [x3] m) fun x4 m =>
  bp (aBuildSlice T_string [(.string ⟨#[]⟩)] 1 1 [(0, x4)] m) fun x5 m =>
  bp (apS T_string 1 16 p3 x5 m) fun x6 m =>
  bp (pur (bin .add true true .int p8 (.int .i64 1)) m) fun x7 m =>
  (s_flat_comms_4 G i) x7 p7 p6 x6 m)
    (s_flat_comms_2 G p3 m)
noncomputable def s_flat_comms_3 (G : Gt) (p8 p7 p6 p3 : Value) (m : Mem) : Option Rs :=
  s_flat_comms_4 G G.rds p8 p7 p6 p3 m
noncomputable def s_flat_comms_1 (G : Gt) (p0 p3 : Value) (m : Mem) : Option Rs :=
  bp (pur (lenK 1 p0 m) m) fun x8 m =>
  s_flat_comms_3 G (.int .i64 0) x8 p0 p3 m
noncomputable def s_flat_comms_0 (G : Gt) (p0 : Value) (m : Mem) : Option Rs :=
  s_flat_comms_1 G p0 (.slice none 0 0) m
noncomputable def s_flat_comms (G : Gt) (p0 : Value) (m : Mem) : Option Rs :=
  s_flat_comms_0 G p0 m
theorem e_flat_comms (G : Gt) (a0 : Value) (m : Mem) : evFn Go.Proofs.Tryz.prog G.tab G.rds (drOf Go.Proofs.Tryz.prog G.tab) Go.Proofs.Tryz.f64 [a0] m = s_flat_comms G a0 m :=
  evFn_of (r := fun ρ m => s_flat_comms G (ρ 0) m) rfl rfl (tr (seqQ (f := fun ρ m => s_flat_comms_0 G (ρ 0) m) (tr (seqQ (f := fun ρ m => s_flat_comms_1 G (ρ 0) (ρ 3) m) (tr (tr (seqQ (f := fun ρ m => s_flat_comms_2 G (ρ 3) m) (fun ρ m => by kernel_rfl)) (seqQ (f := fun ρ m => s_flat_comms_3 G (ρ 8) (ρ 7) (ρ 6) (ρ 3) m) (tr (blockQ (loopQ (fun i ρ m => s_flat_comms_4 G i (ρ 8) (ρ 7) (ρ 6) (ρ 3) m) (fun _ _ => rfl) (fun i0 => fun ρ m => by kernel_rfl))) (fun ρ m => by kernel_rfl)))) (fun ρ m => by kernel_rfl))) (fun ρ m => by kernel_rfl))) (fun ρ m => by kernel_rfl)) m
noncomputable def E_flat_comms : Entry Go.Proofs.Tryz.prog := ⟨F_flat_comms, Go.Proofs.Tryz.f64, Go.Proofs.Tryz.func64, by kernel_rfl, arg1 (fun G a0 m => s_flat_comms G a0 m), okarg1 e_flat_comms⟩
/-! 65 waymark/waymarkref01.Number -/
noncomputable def s_waymarkref01_Number (G : Gt) (p0 : Value) (m : Mem) : Option Rs :=
  bp (pur (bin .lss true true .int p0 (.int .i64 0)) m) fun x0 m =>
  brb x0
    (bp (pur (bin .add true true .int p0 (.int .i64 1)) m) fun x1 m =>
  bp (pur (un .neg x1) m) fun x2 m =>
  bp (conv (.int .u64) x2 m) fun x3 m =>
  bp (pur (bin .add true true .int x3 (.int .u64 1)) m) fun x4 m =>
  bp (G.tab F_waymarkref01_digits [x4] m) fun x5 m =>
  bp (pur (bin .add true true .str (.string ⟨#[45]⟩) x5) m) fun x6 m =>
  some (x6, m))
    (bp (conv (.int .u64) p0 m) fun x7 m =>
  bp (G.tab F_waymarkref01_digits [x7] m) fun x8 m =>
  some (x8, m))
theorem e_waymarkref01_Number (G : Gt) (a0 : Value) (m : Mem) : evFn Go.Proofs.Tryz.prog G.tab G.rds (drOf Go.Proofs.Tryz.prog G.tab) Go.Proofs.Tryz.f65 [a0] m = s_waymarkref01_Number G a0 m :=
  evFn_of (r := fun ρ m => s_waymarkref01_Number G (ρ 0) m) rfl rfl (fun ρ m => by kernel_rfl) m
noncomputable def E_waymarkref01_Number : Entry Go.Proofs.Tryz.prog := ⟨F_waymarkref01_Number, Go.Proofs.Tryz.f65, Go.Proofs.Tryz.func65, by kernel_rfl, arg1 (fun G a0 m => s_waymarkref01_Number G a0 m), okarg1 e_waymarkref01_Number⟩
/-! 66 waymark/waymarkref13.numbers -/
noncomputable def s_waymarkref13_numbers_2 (G : Gt) (p3 : Value) (m : Mem) : Option Rs :=
  some (p3, m)
noncomputable def s_waymarkref13_numbers_4 (G : Gt) : Nat → Value → Value → Value → Mem → Option Rs
  | 0, _, _, _, _ => none
  | i + 1, p4, p0, p3, m =>
  bp (pur (lenK 1 p0 m) m) fun x0 m =>
  bp (pur (bin .lss false true .int p4 x0) m) fun x1 m =>
  brb x1
    (bp (pur (aIndexAddrSl 1 p0 p4) m) fun x2 m =>
  bp (pur (aLoad false 1 x2 m) m) fun x3 m =>
  bp (conv (.int .i64) x3 m) fun x4 m =>
  bp (aBuildSlice T_int [(.int .i64 0)] 1 1 [(0, x4)] m) fun x5 m =>
  bp (apS T_int 1 8 p3 x5 m) fun x6 m =>
  bp (pur (bin .add true true .int p4 (.int .i64 1)) m) fun x7 m =>
  (s_waymarkref13_numbers_4 G i) x7 p0 x6 m)
    (s_waymarkref13_numbers_2 G p3 m)
noncomputable def s_waymarkref13_numbers_3 (G : Gt) (p4 p0 p3 : Value) (m : Mem) : Option Rs :=
  s_waymarkref13_numbers_4 G G.rds p4 p0 p3 m
noncomputable def s_waymarkref13_numbers_1 (G : Gt) (p0 p3 : Value) (m : Mem) : Option Rs :=
  s_waymarkref13_numbers_3 G (.int .i64 0) p0 p3 m
noncomputable def s_waymarkref13_numbers_0 (G : Gt) (p0 : Value) (m : Mem) : Option Rs :=
  bp (pur (lenK 1 p0 m) m) fun x8 m =>
  bp (aBuildSlice T_int [(.int .i64 0)] 1 1 [(0, x8)] m) fun x9 m =>
  s_waymarkref13_numbers_1 G p0 x9 m
noncomputable def s_waymarkref13_numbers (G : Gt) (p0 : Value) (m : Mem) : Option Rs :=
  s_waymarkref13_numbers_0 G p0 m
theorem e_waymarkref13_numbers (G : Gt) (a0 : Value) (m : Mem) : evFn Go.Proofs.Tryz.prog G.tab G.rds (drOf Go.Proofs.Tryz.prog G.tab) Go.Proofs.Tryz.f66 [a0] m = s_waymarkref13_numbers G a0 m :=
  evFn_of (r := fun ρ m => s_waymarkref13_numbers G (ρ 0) m) rfl rfl (tr (seqQ (f := fun ρ m => s_waymarkref13_numbers_0 G (ρ 0) m) (tr (seqQ (f := fun ρ m => s_waymarkref13_numbers_1 G (ρ 0) (ρ 3) m) (tr (tr (seqQ (f := fun ρ m => s_waymarkref13_numbers_2 G (ρ 3) m) (fun ρ m => by kernel_rfl)) (seqQ (f := fun ρ m => s_waymarkref13_numbers_3 G (ρ 4) (ρ 0) (ρ 3) m) (tr (blockQ (loopQ (fun i ρ m => s_waymarkref13_numbers_4 G i (ρ 4) (ρ 0) (ρ 3) m) (fun _ _ => rfl) (fun i0 => fun ρ m => by kernel_rfl))) (fun ρ m => by kernel_rfl)))) (fun ρ m => by kernel_rfl))) (fun ρ m => by kernel_rfl))) (fun ρ m => by kernel_rfl)) m
noncomputable def E_waymarkref13_numbers : Entry Go.Proofs.Tryz.prog := ⟨F_waymarkref13_numbers, Go.Proofs.Tryz.f66, Go.Proofs.Tryz.func66, by kernel_rfl, arg1 (fun G a0 m => s_waymarkref13_numbers G a0 m), okarg1 e_waymarkref13_numbers⟩
end Go.Ab.Sh

set_option linter.unusedVariables false
set_option maxRecDepth 100000
namespace Go.Ab.Sh
open Go Go.Ab
/-! 67 waymark/waymarkref13.dumpRedists -/
noncomputable def s_waymarkref13_dumpRedists_2 (G : Gt) (p3 : Value) (m : Mem) : Option Rs :=
  some (p3, m)
noncomputable def s_waymarkref13_dumpRedists_4 (G : Gt) : Nat → Value → Value → Value → Mem → Option Rs
  | 0, _, _, _, _ => none
  | i + 1, p4, p0, p3, m =>
  bp (pur (lenK 1 p0 m) m) fun x0 m =>
  bp (pur (bin .lss false true .int p4 x0) m) fun x1 m =>
  brb x1
    (bp (pur (aIndexAddrSl 4 p0 p4) m) fun x2 m =>
  bp (pur (aFieldAddr 0 x2) m) fun x3 m =>
  bp (pur (aLoad false 1 x3 m) m) fun x4 m =>
  bp (conv (.int .i64) x4 m) fun x5 m =>
  bp (pur (aIndexAddrSl 4 p0 p4) m) fun x6 m =>
  bp (pur (aFieldAddr 1 x6) m) fun x7 m =>
  bp (pur (aLoad false 1 x7 m) m) fun x8 m =>
  bp (pur (aIndexAddrSl 4 p0 p4) m) fun x9 m =>
  bp (pur (aFieldAddr 2 x9) m) fun x10 m =>
  bp (pur (aLoad false 1 x10 m) m) fun x11 m =>
  bp (conv (.int .i64) x11 m) fun x12 m =>
  bp (aBuildSlice T_int [(.int .i64 0)] 1 3 [(0, x5), (1, x8), (2, x12)] m) fun x13 m =>
  bp (pur (aIndexAddrSl 4 p0 p4) m) fun x14 m =>
  bp (pur (aFieldAddr 3 x14) m) fun x15 m =>
  bp (pur (aLoad false 1 x15 m) m) fun x16 m =>
  bp (aBuildSlice T_string [(.string ⟨#[]⟩)] 1 1 [(0, x16)] m) fun x17 m =>
  bp (G.tab F_waymarkref13_dump [x13, x17] m) fun x18 m =>
  bp (pur (bin .add false true .str p3 x18) m) fun x19 m =>
  bp (pur (bin .add true true .int p4 (.int .i64 1)) m) fun x20 m =>
  (s_waymarkref13_dumpRedists_4 G i) x20 p0 x19 m)
    (s_waymarkref13_dumpRedists_2 G p3 m)
noncomputable def s_waymarkref13_dumpRedists_3 (G : Gt) (p4 p0 p3 : Value) (m : Mem) : Option Rs :=
  s_waymarkref13_dumpRedists_4 G G.rds p4 p0 p3 m
noncomputable def s_waymarkref13_dumpRedists_1 (G : Gt) (p0 p3 : Value) (m : Mem) : Option Rs :=
  s_waymarkref13_dumpRedists_3 G (.int .i64 0) p0 p3 m
noncomputable def s_waymarkref13_dumpRedists_0 (G : Gt) (p0 : Value) (m : Mem) : Option Rs :=
  bp (pur (lenK 1 p0 m) m) fun x21 m =>
  bp (aBuildSlice T_int [(.int .i64 0)] 1 1 [(0, x21)] m) fun x22 m =>
  bp (G.tab F_waymarkref13_dump [x22, (.slice none 0 0)] m) fun x23 m =>
  s_waymarkref13_dumpRedists_1 G p0 x23 m
noncomputable def s_waymarkref13_dumpRedists (G : Gt) (p0 : Value) (m : Mem) : Option Rs :=
  s_waymarkref13_dumpRedists_0 G p0 m
theorem e_waymarkref13_dumpRedists (G : Gt) (a0 : Value) (m : Mem) : evFn Go.Proofs.Tryz.prog G.tab G.rds (drOf Go.Proofs.Tryz.prog G.tab) Go.Proofs.Tryz.f67 [a0] m = s_waymarkref13_dumpRedists G a0 m :=
  evFn_of (r := fun ρ m => s_waymarkref13_dumpRedists G (ρ 0) m) rfl rfl (tr (seqQ (f := fun ρ m => s_waymarkref13_dumpRedists_0 G (ρ 0) m) (tr (seqQ (f := fun ρ m => s_waymarkref13_dumpRedists_1 G (ρ 0) (ρ 3) m) (tr (tr (seqQ (f := fun ρ m => s_waymarkref13_dumpRedists_2 G (ρ 3) m) (fun ρ m => by kernel_rfl)) (seqQ (f := fun ρ m => s_waymarkref13_dumpRedists_3 G (ρ 4) (ρ 0) (ρ 3) m) (tr (blockQ (loopQ (fun i ρ m => s_waymarkref13_dumpRedists_4 G i (ρ 4) (ρ 0) (ρ 3) m) (fun _ _ => rfl) (fun i0 => fun ρ m => by kernel_rfl))) (fun ρ m => by kernel_rfl)))) (fun ρ m => by kernel_rfl))) (fun ρ m => by kernel_rfl))) (fun ρ m => by kernel_rfl)) m
noncomputable def E_waymarkref13_dumpRedists : Entry Go.Proofs.Tryz.prog := ⟨F_waymarkref13_dumpRedists, Go.Proofs.Tryz.f67, Go.Proofs.Tryz.func67, by kernel_rfl, arg1 (fun G a0 m => s_waymarkref13_dumpRedists G a0 m), okarg1 e_waymarkref13_dumpRedists⟩
/-! 68 strings.genSplit -/
noncomputable def s_strings_genSplit_8 (G : Gt) (p9 p10 p0 : Value) (m : Mem) : Option Rs :=
  bp (pur (aIndexAddrSl 1 p9 p10) m) fun x0 m =>
  bp (unt (aStore 1 x0 p0 m)) fun _ m =>
  bp (pur (bin .add true true .int p10 (.int .i64 1)) m) fun x1 m =>
  bp (pur (aSliceSl 1 p9 none (some x1)) m) fun x2 m =>
  some (x2, m)
noncomputable def s_strings_genSplit_9 (G : Gt) : Nat → Value → Value → Value → Value → Value → Value → Mem → Option Rs
  | 0, _, _, _, _, _, _, _ => none
  | i + 1, p10, p3, p0, p1, p9, p2, m =>
  bp (pur (bin .lss false true .int p10 p3) m) fun x3 m =>
  brb x3
    (bp (G.tab F_strings_Index [p0, p1] m) fun x4 m =>
  bp (pur (bin .lss true true .int x4 (.int .i64 0)) m) fun x5 m =>
  brb x5
    (s_strings_genSplit_8 G p9 p10 p0 m)
    (bp (pur (bin .add false true .int x4 p2) m) fun x6 m =>
  bp (pur (aSliceStr p0 none (some x6)) m) fun x7 m =>
  bp (pur (aIndexAddrSl 1 p9 p10) m) fun x8 m =>
  bp (unt (aStore 1 x8 x7 m)) fun _ m =>
  bp (pur (lenK 0 p1 m) m) fun x9 m =>
  bp (pur (bin .add false true .int x4 x9) m) fun x10 m =>
  bp (pur (aSliceStr p0 (some x10) none) m) fun x11 m =>
  bp (pur (bin .add true true .int p10 (.int .i64 1)) m) fun x12 m =>
  (s_strings_genSplit_9 G i) x12 p3 x11 p1 p9 p2 m))
    (s_strings_genSplit_8 G p9 p10 p0 m)
noncomputable def s_strings_genSplit_7 (G : Gt) (p10 p3 p0 p1 p9 p2 : Value) (m : Mem) : Option Rs :=
  s_strings_genSplit_9 G G.rds p10 p3 p0 p1 p9 p2 m
noncomputable def s_strings_genSplit_6 (G : Gt) (p3 p0 p1 p9 p2 : Value) (m : Mem) : Option Rs :=
  s_strings_genSplit_7 G (.int .i64 0) p3 p0 p1 p9 p2 m
noncomputable def s_strings_genSplit_5 (G : Gt) (p3 p0 p1 p9 p2 : Value) (m : Mem) : Option Rs :=
  bp (pur (bin .sub true true .int p3 (.int .i64 1)) m) fun x13 m =>
  s_strings_genSplit_6 G x13 p0 p1 p9 p2 m
noncomputable def s_strings_genSplit_4 (G : Gt) (p3 p0 p1 p2 : Value) (m : Mem) : Option Rs :=
  bp (aMakeSlice T_string [(.string ⟨#[]⟩)] 1 16 p3 p3 m) fun x14 m =>
  s_strings_genSplit_5 G p3 p0 p1 x14 p2 m
noncomputable def s_strings_genSplit_3 (G : Gt) (p3 p0 p1 p2 : Value) (m : Mem) : Option Rs :=
  bp (pur (lenK 0 p0 m) m) fun x15 m =>
  bp (pur (bin .add true true .int x15 (.int .i64 1)) m) fun x16 m =>
  bp (pur (aMin p3 x16) m) fun x17 m =>
  s_strings_genSplit_4 G x17 p0 p1 p2 m
noncomputable def s_strings_genSplit_2 (G : Gt) (p3 p0 p1 p2 : Value) (m : Mem) : Option Rs :=
  bp (pur (bin .lss true true .int p3 (.int .i64 0)) m) fun x18 m =>
  brb x18
    (bp (G.tab F_strings_Count [p0, p1] m) fun x19 m =>
  bp (pur (bin .add true true .int x19 (.int .i64 1)) m) fun x20 m =>
  s_strings_genSplit_3 G x20 p0 p1 p2 m)
    (s_strings_genSplit_3 G p3 p0 p1 p2 m)
noncomputable def s_strings_genSplit_1 (G : Gt) (p1 p0 p3 p2 : Value) (m : Mem) : Option Rs :=
  bp (pur (bin .eql true true .str p1 (.string ⟨#[]⟩)) m) fun x21 m =>
  brb x21
    (bp (G.tab F_strings_explode [p0, p3] m) fun x22 m =>
  some (x22, m))
    (s_strings_genSplit_2 G p3 p0 p1 p2 m)
noncomputable def s_strings_genSplit_0 (G : Gt) (p3 p1 p0 p2 : Value) (m : Mem) : Option Rs :=
  bp (pur (bin .eql true true .int p3 (.int .i64 0)) m) fun x23 m =>
  brb x23
    (some ((.slice none 0 0), m))
    (s_strings_genSplit_1 G p1 p0 p3 p2 m)
noncomputable def s_strings_genSplit (G : Gt) (p3 p1 p0 p2 : Value) (m : Mem) : Option Rs :=
  s_strings_genSplit_0 G p3 p1 p0 p2 m
theorem e_strings_genSplit (G : Gt) (a0 a1 a2 a3 : Value) (m : Mem) : evFn Go.Proofs.Tryz.prog G.tab G.rds (drOf Go.Proofs.Tryz.prog G.tab) Go.Proofs.Tryz.f68 [a0, a1, a2, a3] m = s_strings_genSplit G a3 a1 a0 a2 m :=
  evFn_of (r := fun ρ m => s_strings_genSplit G (ρ 3) (ρ 1) (ρ 0) (ρ 2) m) rfl rfl (tr (seqQ (f := fun ρ m => s_strings_genSplit_0 G (ρ 3) (ρ 1) (ρ 0) (ρ 2) m) (tr (seqQ (f := fun ρ m => s_strings_genSplit_1 G (ρ 1) (ρ 0) (ρ 3) (ρ 2) m) (tr (seqQ (f := fun ρ m => s_strings_genSplit_2 G (ρ 3) (ρ 0) (ρ 1) (ρ 2) m) (tr (seqQ (f := fun ρ m => s_strings_genSplit_3 G (ρ 3) (ρ 0) (ρ 1) (ρ 2) m) (tr (seqQ (f := fun ρ m => s_strings_genSplit_4 G (ρ 3) (ρ 0) (ρ 1) (ρ 2) m) (tr (seqQ (f := fun ρ m => s_strings_genSplit_5 G (ρ 3) (ρ 0) (ρ 1) (ρ 9) (ρ 2) m) (tr (seqQ (f := fun ρ m => s_strings_genSplit_6 G (ρ 3) (ρ 0) (ρ 1) (ρ 9) (ρ 2) m) (tr (seqQ (f := fun ρ m => s_strings_genSplit_7 G (ρ 10) (ρ 3) (ρ 0) (ρ 1) (ρ 9) (ρ 2) m) (tr (tr (seqQ (f := fun ρ m => s_strings_genSplit_8 G (ρ 9) (ρ 10) (ρ 0) m) (fun ρ m => by kernel_rfl)) (blockQ (loopQ (fun i ρ m => s_strings_genSplit_9 G i (ρ 10) (ρ 3) (ρ 0) (ρ 1) (ρ 9) (ρ 2) m) (fun _ _ => rfl) (fun i0 => fun ρ m => by kernel_rfl)))) (fun ρ m => by kernel_rfl))) (fun ρ m => by kernel_rfl))) (fun ρ m => by kernel_rfl))) (fun ρ m => by kernel_rfl))) (fun ρ m => by kernel_rfl))) (fun ρ m => by kernel_rfl))) (fun ρ m => by kernel_rfl))) (fun ρ m => by kernel_rfl))) (fun ρ m => by kernel_rfl)) m
noncomputable def E_strings_genSplit : Entry Go.Proofs.Tryz.prog := ⟨F_strings_genSplit, Go.Proofs.Tryz.f68, Go.Proofs.Tryz.func68, by kernel_rfl, arg4 (fun G a0 a1 a2 a3 m => s_strings_genSplit G a3 a1 a0 a2 m), okarg4 e_strings_genSplit⟩
/-! 69 strings.trimLeftByte -/
noncomputable def s_strings_trimLeftByte_1 (G : Gt) (p0 : Value) (m : Mem) : Option Rs :=
  some (p0, m)
noncomputable def s_strings_trimLeftByte_3 (G : Gt) (k0 : Value → Value → Mem → Option Rs) (p13 p0 p1 : Value) (m : Mem) : Option Rs :=
  brb p13
    (bp (pur (aSliceStr p0 (some (.int .i64 1)) none) m) fun x0 m =>
  k0 x0 p1 m)
    (s_strings_trimLeftByte_1 G p0 m)
noncomputable def s_strings_trimLeftByte_2 (G : Gt) : Nat → Value → Value → Mem → Option Rs
  | 0, _, _, _ => none
  | i + 1, p0, p1, m =>
  bp (pur (lenK 0 p0 m) m) fun x1 m =>
  bp (pur (bin .gtr true true .int x1 (.int .i64 0)) m) fun x2 m =>
  brb x2
    (bp (pur (aIndexStr p0 (.int .i64 0)) m) fun x3 m =>
  bp (pur (bin .eql false true .int x3 p1) m) fun x4 m =>
  s_strings_trimLeftByte_3 G (s_strings_trimLeftByte_2 G i) x4 p0 p1 m)
    (s_strings_trimLeftByte_3 G (s_strings_trimLeftByte_2 G i) (.bool false) p0 p1 m)
noncomputable def s_strings_trimLeftByte_0 (G : Gt) (p0 p1 : Value) (m : Mem) : Option Rs :=
  s_strings_trimLeftByte_2 G G.rds p0 p1 m
noncomputable def s_strings_trimLeftByte (G : Gt) (p0 p1 : Value) (m : Mem) : Option Rs :=
  s_strings_trimLeftByte_0 G p0 p1 m
theorem e_strings_trimLeftByte (G : Gt) (a0 a1 : Value) (m : Mem) : evFn Go.Proofs.Tryz.prog G.tab G.rds (drOf Go.Proofs.Tryz.prog G.tab) Go.Proofs.Tryz.f69 [a0, a1] m = s_strings_trimLeftByte G a0 a1 m :=
  evFn_of (r := fun ρ m => s_strings_trimLeftByte G (ρ 0) (ρ 1) m) rfl rfl (tr (seqQ (f := fun ρ m => s_strings_trimLeftByte_0 G (ρ 0) (ρ 1) m) (tr (tr (seqQ (f := fun ρ m => s_strings_trimLeftByte_1 G (ρ 0) m) (fun ρ m => by kernel_rfl)) (blockQ (loopQ (fun i ρ m => s_strings_trimLeftByte_2 G i (ρ 0) (ρ 1) m) (fun _ _ => rfl) (fun i0 => tr (tr seqD (seqQ (f := fun ρ m => s_strings_trimLeftByte_3 G (s_strings_trimLeftByte_2 G i0) (ρ 13) (ρ 0) (ρ 1) m) (fun ρ m => by kernel_rfl))) (fun ρ m => by kernel_rfl))))) (fun ρ m => by kernel_rfl))) (fun ρ m => by kernel_rfl)) m
noncomputable def E_strings_trimLeftByte : Entry Go.Proofs.Tryz.prog := ⟨F_strings_trimLeftByte, Go.Proofs.Tryz.f69, Go.Proofs.Tryz.func69, by kernel_rfl, arg2 (fun G a0 a1 m => s_strings_trimLeftByte G a0 a1 m), okarg2 e_strings_trimLeftByte⟩
/-! 70 strings.makeASCIISet -/
noncomputable def s_strings_makeASCIISet_1 (G : Gt) (p2 : Value) (m : Mem) : Option Rs :=
  bp (pur (aLoad true 256 p2 m) m) fun x0 m =>
  bp (unt (aStore 256 p2 x0 m)) fun _ m =>
  ob (ob (aLoad true 256 p2 m) fun v => ob (some [(.bool true)]) fun l => some (v :: l)) fun l => some (resVal l, m)
noncomputable def s_strings_makeASCIISet_3 (G : Gt) : Nat → Value → Value → Value → Mem → Option Rs
  | 0, _, _, _, _ => none
  | i + 1, p4, p0, p2, m =>
  bp (pur (lenK 0 p0 m) m) fun x1 m =>
  bp (pur (bin .lss false true .int p4 x1) m) fun x2 m =>
  brb x2
    (bp (pur (aIndexStr p0 p4) m) fun x3 m =>
  bp (pur (bin .geq true true .int x3 (.int .u8 128)) m) fun x4 m =>
  brb x4
    (bp (pur (aLoad true 256 p2 m) m) fun x5 m =>
  bp (unt (aStore 256 p2 x5 m)) fun _ m =>
  ob (ob (aLoad true 256 p2 m) fun v => ob (some [(.bool false)]) fun l => some (v :: l)) fun l => some (resVal l, m))
    (bp (pur (aIndexAddrArr 256 1 p2 x3) m) fun x6 m =>
  bp (unt (aStore 1 x6 (.bool true) m)) fun _ m =>
  bp (pur (bin .add true true .int p4 (.int .i64 1)) m) fun x7 m =>
  (s_strings_makeASCIISet_3 G i) x7 p0 p2 m))
    (s_strings_makeASCIISet_1 G p2 m)
noncomputable def s_strings_makeASCIISet_2 (G : Gt) (p4 p0 p2 : Value) (m : Mem) : Option Rs :=
  s_strings_makeASCIISet_3 G G.rds p4 p0 p2 m
noncomputable def s_strings_makeASCIISet_0 (G : Gt) (p0 p2 : Value) (m : Mem) : Option Rs :=
  s_strings_makeASCIISet_2 G (.int .i64 0) p0 p2 m
noncomputable def s_strings_makeASCIISet (G : Gt) (p0 : Value) (m : Mem) : Option Rs :=
  bp (some (aNew T_strings_asciiSet z_strings_asciiSet m)) fun x8 m =>
  s_strings_makeASCIISet_0 G p0 x8 m
theorem e_strings_makeASCIISet (G : Gt) (a0 : Value) (m : Mem) : evFn Go.Proofs.Tryz.prog G.tab G.rds (drOf Go.Proofs.Tryz.prog G.tab) Go.Proofs.Tryz.f70 [a0] m = s_strings_makeASCIISet G a0 m :=
  evFn_of (r := fun ρ m => s_strings_makeASCIISet G (ρ 0) m) rfl rfl (tr (seqQ (f := fun ρ m => s_strings_makeASCIISet_0 G (ρ 0) (ρ 2) m) (tr (tr (seqQ (f := fun ρ m => s_strings_makeASCIISet_1 G (ρ 2) m) (fun ρ m => by kernel_rfl)) (seqQ (f := fun ρ m => s_strings_makeASCIISet_2 G (ρ 4) (ρ 0) (ρ 2) m) (tr (blockQ (loopQ (fun i ρ m => s_strings_makeASCIISet_3 G i (ρ 4) (ρ 0) (ρ 2) m) (fun _ _ => rfl) (fun i0 => fun ρ m => by kernel_rfl))) (fun ρ m => by kernel_rfl)))) (fun ρ m => by kernel_rfl))) (fun ρ m => by kernel_rfl)) m
noncomputable def E_strings_makeASCIISet : Entry Go.Proofs.Tryz.prog := ⟨F_strings_makeASCIISet, Go.Proofs.Tryz.f70, Go.Proofs.Tryz.func70, by kernel_rfl, arg1 (fun G a0 m => s_strings_makeASCIISet G a0 m), okarg1 e_strings_makeASCIISet⟩
/-! 71 strings.trimLeftASCII -/
noncomputable def s_strings_trimLeftASCII_1 (G : Gt) (p0 : Value) (m : Mem) : Option Rs :=
  some (p0, m)
noncomputable def s_strings_trimLeftASCII_2 (G : Gt) : Nat → Value → Value → Mem → Option Rs
  | 0, _, _, _ => none
  | i + 1, p0, p1, m =>
  bp (pur (lenK 0 p0 m) m) fun x0 m =>
  bp (pur (bin .gtr true true .int x0 (.int .i64 0)) m) fun x1 m =>
  brb x1
    (bp (pur (aIndexStr p0 (.int .i64 0)) m) fun x2 m =>
  bp (G.tab F_Pstrings_asciiSet_contains [p1, x2] m) fun x3 m =>
  bp (pur (un .not x3) m) fun x4 m =>
  brb x4
    (s_strings_trimLeftASCII_1 G p0 m)
    (bp (pur (aSliceStr p0 (some (.int .i64 1)) none) m) fun x5 m =>
  (s_strings_trimLeftASCII_2 G i) x5 p1 m))
    (s_strings_trimLeftASCII_1 G p0 m)
noncomputable def s_strings_trimLeftASCII_0 (G : Gt) (p0 p1 : Value) (m : Mem) : Option Rs :=
  s_strings_trimLeftASCII_2 G G.rds p0 p1 m
noncomputable def s_strings_trimLeftASCII (G : Gt) (p0 p1 : Value) (m : Mem) : Option Rs :=
  s_strings_trimLeftASCII_0 G p0 p1 m
theorem e_strings_trimLeftASCII (G : Gt) (a0 a1 : Value) (m : Mem) : evFn Go.Proofs.Tryz.prog G.tab G.rds (drOf Go.Proofs.Tryz.prog G.tab) Go.Proofs.Tryz.f71 [a0, a1] m = s_strings_trimLeftASCII G a0 a1 m :=
  evFn_of (r := fun ρ m => s_strings_trimLeftASCII G (ρ 0) (ρ 1) m) rfl rfl (tr (seqQ (f := fun ρ m => s_strings_trimLeftASCII_0 G (ρ 0) (ρ 1) m) (tr (tr (seqQ (f := fun ρ m => s_strings_trimLeftASCII_1 G (ρ 0) m) (fun ρ m => by kernel_rfl)) (blockQ (loopQ (fun i ρ m => s_strings_trimLeftASCII_2 G i (ρ 0) (ρ 1) m) (fun _ _ => rfl) (fun i0 => fun ρ m => by kernel_rfl)))) (fun ρ m => by kernel_rfl))) (fun ρ m => by kernel_rfl)) m
noncomputable def E_strings_trimLeftASCII : Entry Go.Proofs.Tryz.prog := ⟨F_strings_trimLeftASCII, Go.Proofs.Tryz.f71, Go.Proofs.Tryz.func71, by kernel_rfl, arg2 (fun G a0 a1 m => s_strings_trimLeftASCII G a0 a1 m), okarg2 e_strings_trimLeftASCII⟩
/-! 73 internal/stringslite.Cut -/
noncomputable def s_internal_stringslite_Cut (G : Gt) (p0 p1 : Value) (m : Mem) : Option Rs :=
  bp (G.tab F_internal_stringslite_Index [p0, p1] m) fun x0 m =>
  bp (pur (bin .geq true true .int x0 (.int .i64 0)) m) fun x1 m =>
  brb x1
    (bp (pur (aSliceStr p0 none (some x0)) m) fun x2 m =>
  bp (pur (lenK 0 p1 m) m) fun x3 m =>
  bp (pur (bin .add false true .int x0 x3) m) fun x4 m =>
  bp (pur (aSliceStr p0 (some x4) none) m) fun x5 m =>
  some (.tuple ⟨[x2, x5, (.bool true)]⟩, m))
    (some (.tuple ⟨[p0, (.string ⟨#[]⟩), (.bool false)]⟩, m))
theorem e_internal_stringslite_Cut (G : Gt) (a0 a1 : Value) (m : Mem) : evFn Go.Proofs.Tryz.prog G.tab G.rds (drOf Go.Proofs.Tryz.prog G.tab) Go.Proofs.Tryz.f73 [a0, a1] m = s_internal_stringslite_Cut G a0 a1 m :=
  evFn_of (r := fun ρ m => s_internal_stringslite_Cut G (ρ 0) (ρ 1) m) rfl rfl (fun ρ m => by kernel_rfl) m
noncomputable def E_internal_stringslite_Cut : Entry Go.Proofs.Tryz.prog := ⟨F_internal_stringslite_Cut, Go.Proofs.Tryz.f73, Go.Proofs.Tryz.func73, by kernel_rfl, arg2 (fun G a0 a1 m => s_internal_stringslite_Cut G a0 a1 m), okarg2 e_internal_stringslite_Cut⟩
/-! 74 waymark/lex.Name -/
noncomputable def s_lex_Name_2 (G : Gt) (m : Mem) : Option Rs :=
  some ((.bool true), m)
noncomputable def s_lex_Name_9 (G : Gt) (k0 : Value → Mem → Option Rs) (p51 p14 : Value) (m : Mem) : Option Rs :=
  brb p51
    (some ((.bool false), m))
    (k0 p14 m)
noncomputable def s_lex_Name_8 (G : Gt) (k0 : Value → Mem → Option Rs) (p5 p3 p4 p14 : Value) (m : Mem) : Option Rs :=
  bp (pur (un .not p5) m) fun x0 m =>
  brb x0
    (bp (pur (bin .eql true true .int p3 (.int .i64 0)) m) fun x1 m =>
  brb x1
    (s_lex_Name_9 G k0 (.bool true) p14 m)
    (bp (pur (bin .lss true true .int p4 (.int .i32 48)) m) fun x2 m =>
  brb x2
    (bp (G.tab F_strings_IndexRune [(.string ⟨#[45, 95, 46, 47]⟩), p4] m) fun x3 m =>
  bp (pur (bin .lss true true .int x3 (.int .i64 0)) m) fun x4 m =>
  s_lex_Name_9 G k0 x4 p14 m)
    (bp (pur (bin .gtr true true .int p4 (.int .i32 57)) m) fun x5 m =>
  brb x5
    (bp (G.tab F_strings_IndexRune [(.string ⟨#[45, 95, 46, 47]⟩), p4] m) fun x6 m =>
  bp (pur (bin .lss true true .int x6 (.int .i64 0)) m) fun x7 m =>
  s_lex_Name_9 G k0 x7 p14 m)
    (s_lex_Name_9 G k0 (.bool false) p14 m))))
    (s_lex_Name_9 G k0 (.bool false) p14 m)
noncomputable def s_lex_Name_7 (G : Gt) (k0 : Value → Mem → Option Rs) (p4 p3 p14 : Value) (m : Mem) : Option Rs :=
  bp (pur (bin .geq true true .int p4 (.int .i32 97)) m) fun x8 m =>
  brb x8
    (bp (pur (bin .leq true true .int p4 (.int .i32 122)) m) fun x9 m =>
  brb x9
    (s_lex_Name_8 G k0 (.bool true) p3 p4 p14 m)
    (bp (pur (bin .geq true true .int p4 (.int .i32 65)) m) fun x10 m =>
  brb x10
    (bp (pur (bin .leq true true .int p4 (.int .i32 90)) m) fun x11 m =>
  s_lex_Name_8 G k0 x11 p3 p4 p14 m)
    (s_lex_Name_8 G k0 (.bool false) p3 p4 p14 m)))
    (bp (pur (bin .geq true true .int p4 (.int .i32 65)) m) fun x12 m =>
  brb x12
    (bp (pur (bin .leq true true .int p4 (.int .i32 90)) m) fun x13 m =>
  s_lex_Name_8 G k0 x13 p3 p4 p14 m)
    (s_lex_Name_8 G k0 (.bool false) p3 p4 p14 m))
noncomputable def s_lex_Name_6 (G : Gt) (k0 : Value → Mem → Option Rs) (p15 p14 : Value) (m : Mem) : Option Rs :=
  bp (pur (aExtract p15 1) m) fun x14 m =>
  bp (pur (aExtract p15 2) m) fun x15 m =>
  s_lex_Name_7 G k0 x15 x14 p14 m
noncomputable def s_lex_Name_5 (G : Gt) (k0 : Value → Mem → Option Rs) (p16 p15 p14 : Value) (m : Mem) : Option Rs :=
  brb p16
    (s_lex_Name_6 G k0 p15 p14 m)
    (s_lex_Name_2 G m)
noncomputable def s_lex_Name_4 (G : Gt) : Nat → Value → Mem → Option Rs
  | 0, _, _ => none
  | i + 1, p14, m =>
  bp (aNextStr p14 m) fun x16 m =>
  bp (pur (aExtract x16 0) m) fun x17 m =>
  s_lex_Name_5 G (s_lex_Name_4 G i) x17 x16 p14 m
noncomputable def s_lex_Name_3 (G : Gt) (p14 : Value) (m : Mem) : Option Rs :=
  s_lex_Name_4 G G.rds p14 m
noncomputable def s_lex_Name_1 (G : Gt) (p0 : Value) (m : Mem) : Option Rs :=
  bp (aRangeStr p0 m) fun x18 m =>
  s_lex_Name_3 G x18 m
noncomputable def s_lex_Name_10 (G : Gt) (p12 p0 : Value) (m : Mem) : Option Rs :=
  brb p12
    (some ((.bool false), m))
    (s_lex_Name_1 G p0 m)
noncomputable def s_lex_Name_0 (G : Gt) (p0 : Value) (m : Mem) : Option Rs :=
  bp (pur (bin .eql true true .str p0 (.string ⟨#[]⟩)) m) fun x19 m =>
  brb x19
    (s_lex_Name_10 G (.bool true) p0 m)
    (bp (pur (lenK 0 p0 m) m) fun x20 m =>
  bp (pur (bin .gtr true true .int x20 (.int .i64 32)) m) fun x21 m =>
  s_lex_Name_10 G x21 p0 m)
noncomputable def s_lex_Name (G : Gt) (p0 : Value) (m : Mem) : Option Rs :=
  s_lex_Name_0 G p0 m
theorem e_lex_Name (G : Gt) (a0 : Value) (m : Mem) : evFn Go.Proofs.Tryz.prog G.tab G.rds (drOf Go.Proofs.Tryz.prog G.tab) Go.Proofs.Tryz.f74 [a0] m = s_lex_Name G a0 m :=
  evFn_of (r := fun ρ m => s_lex_Name G (ρ 0) m) rfl rfl (tr (seqQ (f := fun ρ m => s_lex_Name_0 G (ρ 0) m) (tr (tr (seqQ (f := fun ρ m => s_lex_Name_1 G (ρ 0) m) (tr (tr (seqQ (f := fun ρ m => s_lex_Name_2 G m) (fun ρ m => by kernel_rfl)) (seqQ (f := fun ρ m => s_lex_Name_3 G (ρ 14) m) (tr (blockQ (loopQ (fun i ρ m => s_lex_Name_4 G i (ρ 14) m) (fun _ _ => rfl) (fun i0 => tr (seqQ (f := fun ρ m => s_lex_Name_5 G (s_lex_Name_4 G i0) (ρ 16) (ρ 15) (ρ 14) m) (tr (seqQ (f := fun ρ m => s_lex_Name_6 G (s_lex_Name_4 G i0) (ρ 15) (ρ 14) m) (tr (blockQ (seqQ (f := fun ρ m => s_lex_Name_7 G (s_lex_Name_4 G i0) (ρ 4) (ρ 3) (ρ 14) m) (tr (seqQ (f := fun ρ m => s_lex_Name_8 G (s_lex_Name_4 G i0) (ρ 5) (ρ 3) (ρ 4) (ρ 14) m) (tr (seqQ (f := fun ρ m => s_lex_Name_9 G (s_lex_Name_4 G i0) (ρ 51) (ρ 14) m) (fun ρ m => by kernel_rfl)) (fun ρ m => by kernel_rfl))) (fun ρ m => by kernel_rfl)))) (fun ρ m => by kernel_rfl))) (fun ρ m => by kernel_rfl))) (fun ρ m => by kernel_rfl)))) (fun ρ m => by kernel_rfl)))) (fun ρ m => by kernel_rfl))) (seqQ (f := fun ρ m => s_lex_Name_10 G (ρ 12) (ρ 0) m) (fun ρ m => by kernel_rfl))) (fun ρ m => by kernel_rfl))) (fun ρ m => by kernel_rfl)) m
noncomputable def E_lex_Name : Entry Go.Proofs.Tryz.prog := ⟨F_lex_Name, Go.Proofs.Tryz.f74, Go.Proofs.Tryz.func74, by kernel_rfl, arg1 (fun G a0 m => s_lex_Name G a0 m), okarg1 e_lex_Name⟩
/-! 75 (*waymark/flat.parser).inside -/
noncomputable def s_Pflat_parser_inside (G : Gt) (p0 p1 : Value) (m : Mem) : Option Rs :=
  bp (pur (aNilCheck p0) m) fun x0 m =>
  bp (pur (aFieldAddr 13 x0) m) fun x1 m =>
  bp (pur (aLoad false 1 x1 m) m) fun x2 m =>
  bp (aBuildSlice T_string [(.string ⟨#[]⟩)] 1 3 [(0, (.string ⟨#[105, 110]⟩)), (1, x2), (2, (.string ⟨#[46]⟩))] m) fun x3 m =>
  bp (apS T_string 1 16 x3 p1 m) fun x4 m =>
  bp (G.tab F_Pflat_parser_single [p0, x4] m) fun x5 m =>
  some (.tuple ⟨[]⟩, m)
theorem e_Pflat_parser_inside (G : Gt) (a0 a1 : Value) (m : Mem) : evFn Go.Proofs.Tryz.prog G.tab G.rds (drOf Go.Proofs.Tryz.prog G.tab) Go.Proofs.Tryz.f75 [a0, a1] m = s_Pflat_parser_inside G a0 a1 m :=
  evFn_of (r := fun ρ m => s_Pflat_parser_inside G (ρ 0) (ρ 1) m) rfl rfl (fun ρ m => by kernel_rfl) m
noncomputable def E_Pflat_parser_inside : Entry Go.Proofs.Tryz.prog := ⟨F_Pflat_parser_inside, Go.Proofs.Tryz.f75, Go.Proofs.Tryz.func75, by kernel_rfl, arg2 (fun G a0 a1 m => s_Pflat_parser_inside G a0 a1 m), okarg2 e_Pflat_parser_inside⟩
/-! 76 (*waymark/flat.cursor).addr -/
noncomputable def s_Pflat_cursor_addr_2 (G : Gt) (p3 : Value) (m : Mem) : Option Rs :=
  some (p3, m)
noncomputable def s_Pflat_cursor_addr_1 (G : Gt) (p4 p0 p3 : Value) (m : Mem) : Option Rs :=
  bp (pur (bin .neq true true .int p4 (.int .i64 0)) m) fun x0 m =>
  brb x0
    (bp (G.tab F_Pflat_cursor_bad [p0, (.int .i64 130)] m) fun x1 m =>
  s_Pflat_cursor_addr_2 G p3 m)
    (s_Pflat_cursor_addr_2 G p3 m)
noncomputable def s_Pflat_cursor_addr_0 (G : Gt) (p0 : Value) (m : Mem) : Option Rs :=
  bp (G.tab F_Pflat_cursor_word [p0] m) fun x2 m =>
  bp (G.tab F_addr_Parse [x2] m) fun x3 m =>
  bp (pur (aExtract x3 0) m) fun x4 m =>
  bp (pur (aExtract x3 1) m) fun x5 m =>
  s_Pflat_cursor_addr_1 G x5 p0 x4 m
noncomputable def s_Pflat_cursor_addr (G : Gt) (p0 : Value) (m : Mem) : Option Rs :=
  s_Pflat_cursor_addr_0 G p0 m
theorem e_Pflat_cursor_addr (G : Gt) (a0 : Value) (m : Mem) : evFn Go.Proofs.Tryz.prog G.tab G.rds (drOf Go.Proofs.Tryz.prog G.tab) Go.Proofs.Tryz.f76 [a0] m = s_Pflat_cursor_addr G a0 m :=
  evFn_of (r := fun ρ m => s_Pflat_cursor_addr G (ρ 0) m) rfl rfl (tr (seqQ (f := fun ρ m => s_Pflat_cursor_addr_0 G (ρ 0) m) (tr (seqQ (f := fun ρ m => s_Pflat_cursor_addr_1 G (ρ 4) (ρ 0) (ρ 3) m) (tr (seqQ (f := fun ρ m => s_Pflat_cursor_addr_2 G (ρ 3) m) (fun ρ m => by kernel_rfl)) (fun ρ m => by kernel_rfl))) (fun ρ m => by kernel_rfl))) (fun ρ m => by kernel_rfl)) m
noncomputable def E_Pflat_cursor_addr : Entry Go.Proofs.Tryz.prog := ⟨F_Pflat_cursor_addr, Go.Proofs.Tryz.f76, Go.Proofs.Tryz.func76, by kernel_rfl, arg1 (fun G a0 m => s_Pflat_cursor_addr G a0 m), okarg1 e_Pflat_cursor_addr⟩
/-! 77 (*waymark/flat.cursor).mask -/
noncomputable def s_Pflat_cursor_mask_4 (G : Gt) (p6 : Value) (m : Mem) : Option Rs :=
  some (p6, m)
noncomputable def s_Pflat_cursor_mask_3 (G : Gt) (p7 p0 p6 : Value) (m : Mem) : Option Rs :=
  bp (pur (bin .neq true true .int p7 (.int .i64 0)) m) fun x0 m =>
  brb x0
    (bp (G.tab F_Pflat_cursor_bad [p0, (.int .i64 10)] m) fun x1 m =>
  s_Pflat_cursor_mask_4 G p6 m)
    (s_Pflat_cursor_mask_4 G p6 m)
noncomputable def s_Pflat_cursor_mask_2 (G : Gt) (p5 p0 : Value) (m : Mem) : Option Rs :=
  bp (G.tab F_addr_Bits [p5] m) fun x2 m =>
  bp (pur (aExtract x2 0) m) fun x3 m =>
  bp (pur (aExtract x2 1) m) fun x4 m =>
  s_Pflat_cursor_mask_3 G x4 p0 x3 m
noncomputable def s_Pflat_cursor_mask_1 (G : Gt) (p1 p5 p0 : Value) (m : Mem) : Option Rs :=
  brb p1
    (bp (pur (un .xor p5) m) fun x5 m =>
  s_Pflat_cursor_mask_2 G x5 p0 m)
    (s_Pflat_cursor_mask_2 G p5 p0 m)
noncomputable def s_Pflat_cursor_mask_0 (G : Gt) (p0 p1 : Value) (m : Mem) : Option Rs :=
  bp (G.tab F_Pflat_cursor_addr [p0] m) fun x6 m =>
  s_Pflat_cursor_mask_1 G p1 x6 p0 m
noncomputable def s_Pflat_cursor_mask (G : Gt) (p0 p1 : Value) (m : Mem) : Option Rs :=
  s_Pflat_cursor_mask_0 G p0 p1 m
theorem e_Pflat_cursor_mask (G : Gt) (a0 a1 : Value) (m : Mem) : evFn Go.Proofs.Tryz.prog G.tab G.rds (drOf Go.Proofs.Tryz.prog G.tab) Go.Proofs.Tryz.f77 [a0, a1] m = s_Pflat_cursor_mask G a0 a1 m :=
  evFn_of (r := fun ρ m => s_Pflat_cursor_mask G (ρ 0) (ρ 1) m) rfl rfl (tr (seqQ (f := fun ρ m => s_Pflat_cursor_mask_0 G (ρ 0) (ρ 1) m) (tr (seqQ (f := fun ρ m => s_Pflat_cursor_mask_1 G (ρ 1) (ρ 5) (ρ 0) m) (tr (seqQ (f := fun ρ m => s_Pflat_cursor_mask_2 G (ρ 5) (ρ 0) m) (tr (seqQ (f := fun ρ m => s_Pflat_cursor_mask_3 G (ρ 7) (ρ 0) (ρ 6) m) (tr (seqQ (f := fun ρ m => s_Pflat_cursor_mask_4 G (ρ 6) m) (fun ρ m => by kernel_rfl)) (fun ρ m => by kernel_rfl))) (fun ρ m => by kernel_rfl))) (fun ρ m => by kernel_rfl))) (fun ρ m => by kernel_rfl))) (fun ρ m => by kernel_rfl)) m
noncomputable def E_Pflat_cursor_mask : Entry Go.Proofs.Tryz.prog := ⟨F_Pflat_cursor_mask, Go.Proofs.Tryz.f77, Go.Proofs.Tryz.func77, by kernel_rfl, arg2 (fun G a0 a1 m => s_Pflat_cursor_mask G a0 a1 m), okarg2 e_Pflat_cursor_mask⟩
/-! 78 (*waymark/flat.cursor).vrf -/
noncomputable def s_Pflat_cursor_vrf (G : Gt) (p0 : Value) (m : Mem) : Option Rs :=
  bp (G.tab F_Pflat_cursor_is [p0, (.string ⟨#[118, 114, 102]⟩)] m) fun x0 m =>
  brb x0
    (bp (G.tab F_Pflat_cursor_name [p0] m) fun x1 m =>
  some (x1, m))
    (some ((.string ⟨#[]⟩), m))
theorem e_Pflat_cursor_vrf (G : Gt) (a0 : Value) (m : Mem) : evFn Go.Proofs.Tryz.prog G.tab G.rds (drOf Go.Proofs.Tryz.prog G.tab) Go.Proofs.Tryz.f78 [a0] m = s_Pflat_cursor_vrf G a0 m :=
  evFn_of (r := fun ρ m => s_Pflat_cursor_vrf G (ρ 0) m) rfl rfl (fun ρ m => by kernel_rfl) m
noncomputable def E_Pflat_cursor_vrf : Entry Go.Proofs.Tryz.prog := ⟨F_Pflat_cursor_vrf, Go.Proofs.Tryz.f78, Go.Proofs.Tryz.func78, by kernel_rfl, arg1 (fun G a0 m => s_Pflat_cursor_vrf G a0 m), okarg1 e_Pflat_cursor_vrf⟩
/-! 79 (*waymark/flat.cursor).net -/
noncomputable def s_Pflat_cursor_net_2 (G : Gt) (p7 p6 : Value) (m : Mem) : Option Rs :=
  bp (pur (aLoad true 2 p7 m) m) fun x0 m =>
  bp (unt (aStore 2 p6 x0 m)) fun _ m =>
  ob (ob (aLoad true 2 p6 m) fun v => ob (some []) fun l => some (v :: l)) fun l => some (resVal l, m)
noncomputable def s_Pflat_cursor_net_1 (G : Gt) (p7 p0 p6 : Value) (m : Mem) : Option Rs :=
  bp (pur (aLoad true 2 p7 m) m) fun x1 m =>
  bp (G.tab F_addr_Check [x1] m) fun x2 m =>
  bp (pur (bin .neq true true .int x2 (.int .i64 0)) m) fun x3 m =>
  brb x3
    (bp (G.tab F_Pflat_cursor_bad [p0, (.int .i64 10)] m) fun x4 m =>
  s_Pflat_cursor_net_2 G p7 p6 m)
    (s_Pflat_cursor_net_2 G p7 p6 m)
noncomputable def s_Pflat_cursor_net_0 (G : Gt) (p1 p2 p0 p6 : Value) (m : Mem) : Option Rs :=
  bp (pur (aBuild z_api_Prefix [(0, 1), (1, 1)] [(0, p1), (1, p2)]) m) fun x5 m =>
  bp (some (aNew T_api_Prefix z_api_Prefix m)) fun x6 m =>
  bp (unt (aStore 2 x6 x5 m)) fun _ m =>
  s_Pflat_cursor_net_1 G x6 p0 p6 m
noncomputable def s_Pflat_cursor_net (G : Gt) (p1 p2 p0 : Value) (m : Mem) : Option Rs :=
  bp (some (aNew T_api_Prefix z_api_Prefix m)) fun x7 m =>
  s_Pflat_cursor_net_0 G p1 p2 p0 x7 m
theorem e_Pflat_cursor_net (G : Gt) (a0 a1 a2 : Value) (m : Mem) : evFn Go.Proofs.Tryz.prog G.tab G.rds (drOf Go.Proofs.Tryz.prog G.tab) Go.Proofs.Tryz.f79 [a0, a1, a2] m = s_Pflat_cursor_net G a1 a2 a0 m :=
  evFn_of (r := fun ρ m => s_Pflat_cursor_net G (ρ 1) (ρ 2) (ρ 0) m) rfl rfl (tr (seqQ (f := fun ρ m => s_Pflat_cursor_net_0 G (ρ 1) (ρ 2) (ρ 0) (ρ 6) m) (tr (seqQ (f := fun ρ m => s_Pflat_cursor_net_1 G (ρ 7) (ρ 0) (ρ 6) m) (tr (seqQ (f := fun ρ m => s_Pflat_cursor_net_2 G (ρ 7) (ρ 6) m) (fun ρ m => by kernel_rfl)) (fun ρ m => by kernel_rfl))) (fun ρ m => by kernel_rfl))) (fun ρ m => by kernel_rfl)) m
noncomputable def E_Pflat_cursor_net : Entry Go.Proofs.Tryz.prog := ⟨F_Pflat_cursor_net, Go.Proofs.Tryz.f79, Go.Proofs.Tryz.func79, by kernel_rfl, arg3 (fun G a0 a1 a2 m => s_Pflat_cursor_net G a1 a2 a0 m), okarg3 e_Pflat_cursor_net⟩
end Go.Ab.Sh
