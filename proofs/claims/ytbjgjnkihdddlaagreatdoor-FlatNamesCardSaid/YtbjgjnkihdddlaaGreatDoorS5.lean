/-
  Functions of the program as plain definitions, each with the theorem that it is what the evaluator makes of the code. No conditions.
-/
import Derived.Test.YtbjgjnkihdddlaaGreatDoorAb4
import Derived.Test.YtbjgjnkihdddlaaGreatDoorZ
import Derived.KernelRfl
import Derived.Test.YtbjgjnkihdddlaaGreatDoorProg
set_option linter.unusedVariables false
set_option maxRecDepth 100000
namespace Go.Ab.Sh
open Go Go.Ab
/-! 31 waymark/waymarkref13.dumpLists -/
noncomputable def s_waymarkref13_dumpLists_3 (G : Gt) (p3 : Value) (m : Mem) : Option Rs :=
  bp (conv .str p3 m) fun x0 m =>
  some (x0, m)
noncomputable def s_waymarkref13_dumpLists_7 (G : Gt) (k0 : Value → Value → Value → Mem → Option Rs) (p8 p1 p3 : Value) (m : Mem) : Option Rs :=
  bp (pur (bin .add true true .int p8 (.int .i64 1)) m) fun x1 m =>
  k0 x1 p1 p3 m
noncomputable def s_waymarkref13_dumpLists_11 (G : Gt) (k0 : Value → Value → Value → Mem → Option Rs) : Nat → Value → Value → Value → Value → Value → Mem → Option Rs
  | 0, _, _, _, _, _, _ => none
  | i + 1, p10, p9, p3, p8, p1, m =>
  bp (pur (aFieldAddr 1 p9) m) fun x2 m =>
  bp (pur (aLoad false 1 x2 m) m) fun x3 m =>
  bp (pur (lenK 1 x3 m) m) fun x4 m =>
  bp (pur (bin .lss false true .int p10 x4) m) fun x5 m =>
  brb x5
    (bp (pur (aFieldAddr 1 p9) m) fun x6 m =>
  bp (pur (aLoad false 1 x6 m) m) fun x7 m =>
  bp (pur (aIndexAddrSl 2 x7 p10) m) fun x8 m =>
  bp (pur (aFieldAddr 0 x8) m) fun x9 m =>
  bp (pur (aLoad false 1 x9 m) m) fun x10 m =>
  bp (pur (aFieldAddr 1 p9) m) fun x11 m =>
  bp (pur (aLoad false 1 x11 m) m) fun x12 m =>
  bp (pur (aIndexAddrSl 2 x12 p10) m) fun x13 m =>
  bp (pur (aFieldAddr 1 x13) m) fun x14 m =>
  bp (pur (aLoad false 1 x14 m) m) fun x15 m =>
  bp (G.tab F_waymarkref13_bit [x10] m) fun x16 m =>
  ckB (again (pur (aLoad false 1 x11 m) m) x12 && (again (pur (aLoad false 1 x14 m) m) x15 && true))
    (bp (aBuildSlice T_int [(.int .i64 0)] 1 1 [(0, x16)] m) fun x17 m =>
  bp (G.tab F_waymarkref13_numbers [x15] m) fun x18 m =>
  bp (apS T_int 1 8 x17 x18 m) fun x19 m =>
  bp (G.tab F_waymarkref13_dump [x19, (.slice none 0 0)] m) fun x20 m =>
  bp (aAppend T_uint8 1 1 p3 x20 m) fun x21 m =>
  bp (pur (bin .add true true .int p10 (.int .i64 1)) m) fun x22 m =>
  (s_waymarkref13_dumpLists_11 G k0 i) x22 p9 x21 p8 p1 m))
    (s_waymarkref13_dumpLists_7 G k0 p8 p1 p3 m)
noncomputable def s_waymarkref13_dumpLists_10 (G : Gt) (k0 : Value → Value → Value → Mem → Option Rs) (p10 p9 p3 p8 p1 : Value) (m : Mem) : Option Rs :=
  s_waymarkref13_dumpLists_11 G k0 G.rds p10 p9 p3 p8 p1 m
noncomputable def s_waymarkref13_dumpLists_9 (G : Gt) (k0 : Value → Value → Value → Mem → Option Rs) (p9 p3 p8 p1 : Value) (m : Mem) : Option Rs :=
  s_waymarkref13_dumpLists_10 G k0 (.int .i64 0) p9 p3 p8 p1 m
noncomputable def s_waymarkref13_dumpLists_8 (G : Gt) (k0 : Value → Value → Value → Mem → Option Rs) (p3 p9 p8 p1 : Value) (m : Mem) : Option Rs :=
  bp (pur (aFieldAddr 1 p9) m) fun x23 m =>
  bp (pur (aLoad false 1 x23 m) m) fun x24 m =>
  bp (pur (lenK 1 x24 m) m) fun x25 m =>
  bp (aBuildSlice T_int [(.int .i64 0)] 1 1 [(0, x25)] m) fun x26 m =>
  bp (pur (aFieldAddr 0 p9) m) fun x27 m =>
  bp (pur (aLoad false 1 x27 m) m) fun x28 m =>
  bp (aBuildSlice T_string [(.string ⟨#[]⟩)] 1 1 [(0, x28)] m) fun x29 m =>
  bp (G.tab F_waymarkref13_dump [x26, x29] m) fun x30 m =>
  bp (aAppend T_uint8 1 1 p3 x30 m) fun x31 m =>
  s_waymarkref13_dumpLists_9 G k0 p9 x31 p8 p1 m
noncomputable def s_waymarkref13_dumpLists_6 (G : Gt) (k0 : Value → Value → Value → Mem → Option Rs) (p1 p8 p3 : Value) (m : Mem) : Option Rs :=
  bp (pur (aFieldAddr 8 p1) m) fun x32 m =>
  bp (pur (aLoad false 1 x32 m) m) fun x33 m =>
  bp (pur (aIndexAddrSl 2 x33 p8) m) fun x34 m =>
  bp (pur (aLoad true 2 x34 m) m) fun x35 m =>
  bp (some (aNew T_api_CommunityList z_api_CommunityList m)) fun x36 m =>
  bp (unt (aStore 2 x36 x35 m)) fun _ m =>
  s_waymarkref13_dumpLists_8 G k0 p3 x36 p8 p1 m
noncomputable def s_waymarkref13_dumpLists_5 (G : Gt) : Nat → Value → Value → Value → Mem → Option Rs
  | 0, _, _, _, _ => none
  | i + 1, p8, p1, p3, m =>
  bp (pur (aFieldAddr 8 p1) m) fun x37 m =>
  bp (pur (aLoad false 1 x37 m) m) fun x38 m =>
  bp (pur (lenK 1 x38 m) m) fun x39 m =>
  bp (pur (bin .lss false true .int p8 x39) m) fun x40 m =>
  brb x40
    (s_waymarkref13_dumpLists_6 G (s_waymarkref13_dumpLists_5 G i) p1 p8 p3 m)
    (s_waymarkref13_dumpLists_3 G p3 m)
noncomputable def s_waymarkref13_dumpLists_4 (G : Gt) (p8 p1 p3 : Value) (m : Mem) : Option Rs :=
  s_waymarkref13_dumpLists_5 G G.rds p8 p1 p3 m
noncomputable def s_waymarkref13_dumpLists_2 (G : Gt) (p1 p3 : Value) (m : Mem) : Option Rs :=
  s_waymarkref13_dumpLists_4 G (.int .i64 0) p1 p3 m
noncomputable def s_waymarkref13_dumpLists_15 (G : Gt) (k0 : Value → Value → Value → Mem → Option Rs) (p4 p1 p3 : Value) (m : Mem) : Option Rs :=
  bp (pur (bin .add true true .int p4 (.int .i64 1)) m) fun x41 m =>
  k0 x41 p1 p3 m
noncomputable def s_waymarkref13_dumpLists_19 (G : Gt) (k0 : Value → Value → Value → Mem → Option Rs) : Nat → Value → Value → Value → Value → Value → Mem → Option Rs
  | 0, _, _, _, _, _, _ => none
  | i + 1, p6, p5, p3, p4, p1, m =>
  bp (pur (aFieldAddr 1 p5) m) fun x42 m =>
  bp (pur (aLoad false 1 x42 m) m) fun x43 m =>
  bp (pur (lenK 1 x43 m) m) fun x44 m =>
  bp (pur (bin .lss false true .int p6 x44) m) fun x45 m =>
  brb x45
    (bp (pur (aFieldAddr 1 p5) m) fun x46 m =>
  bp (pur (aLoad false 1 x46 m) m) fun x47 m =>
  bp (pur (aIndexAddrSl 5 x47 p6) m) fun x48 m =>
  bp (pur (aLoad true 5 x48 m) m) fun x49 m =>
  bp (some (aNew T_api_Entry z_api_Entry m)) fun x50 m =>
  bp (unt (aStore 5 x50 x49 m)) fun _ m =>
  bp (pur (aFieldAddr 0 x50) m) fun x51 m =>
  bp (pur (aLoad false 1 x51 m) m) fun x52 m =>
  bp (pur (aFieldAddr 1 x50) m) fun x53 m =>
  bp (pur (aFieldAddr 0 x53) m) fun x54 m =>
  bp (pur (aLoad false 1 x54 m) m) fun x55 m =>
  bp (conv (.int .i64) x55 m) fun x56 m =>
  bp (pur (aFieldAddr 1 x50) m) fun x57 m =>
  bp (pur (aFieldAddr 1 x57) m) fun x58 m =>
  bp (pur (aLoad false 1 x58 m) m) fun x59 m =>
  bp (pur (aFieldAddr 3 x50) m) fun x60 m =>
  bp (pur (aLoad false 1 x60 m) m) fun x61 m =>
  bp (pur (aFieldAddr 4 x50) m) fun x62 m =>
  bp (pur (aLoad false 1 x62 m) m) fun x63 m =>
  bp (G.tab F_waymarkref13_bit [x52] m) fun x64 m =>
  ckB (again (pur (aLoad false 1 x54 m) m) x55 && (again (pur (aLoad false 1 x58 m) m) x59 && (again (pur (aLoad false 1 x60 m) m) x61 && (again (pur (aLoad false 1 x62 m) m) x63 && true))))
    (bp (aBuildSlice T_int [(.int .i64 0)] 1 5 [(0, x64), (1, x56), (2, x59), (3, x61), (4, x63)] m) fun x65 m =>
  bp (G.tab F_waymarkref13_dump [x65, (.slice none 0 0)] m) fun x66 m =>
  bp (aAppend T_uint8 1 1 p3 x66 m) fun x67 m =>
  bp (pur (bin .add true true .int p6 (.int .i64 1)) m) fun x68 m =>
  (s_waymarkref13_dumpLists_19 G k0 i) x68 p5 x67 p4 p1 m))
    (s_waymarkref13_dumpLists_15 G k0 p4 p1 p3 m)
noncomputable def s_waymarkref13_dumpLists_18 (G : Gt) (k0 : Value → Value → Value → Mem → Option Rs) (p6 p5 p3 p4 p1 : Value) (m : Mem) : Option Rs :=
  s_waymarkref13_dumpLists_19 G k0 G.rds p6 p5 p3 p4 p1 m
noncomputable def s_waymarkref13_dumpLists_17 (G : Gt) (k0 : Value → Value → Value → Mem → Option Rs) (p5 p3 p4 p1 : Value) (m : Mem) : Option Rs :=
  s_waymarkref13_dumpLists_18 G k0 (.int .i64 0) p5 p3 p4 p1 m
noncomputable def s_waymarkref13_dumpLists_16 (G : Gt) (k0 : Value → Value → Value → Mem → Option Rs) (p3 p5 p4 p1 : Value) (m : Mem) : Option Rs :=
  bp (pur (aFieldAddr 1 p5) m) fun x69 m =>
  bp (pur (aLoad false 1 x69 m) m) fun x70 m =>
  bp (pur (lenK 1 x70 m) m) fun x71 m =>
  bp (aBuildSlice T_int [(.int .i64 0)] 1 1 [(0, x71)] m) fun x72 m =>
  bp (pur (aFieldAddr 0 p5) m) fun x73 m =>
  bp (pur (aLoad false 1 x73 m) m) fun x74 m =>
  bp (aBuildSlice T_string [(.string ⟨#[]⟩)] 1 1 [(0, x74)] m) fun x75 m =>
  bp (G.tab F_waymarkref13_dump [x72, x75] m) fun x76 m =>
  bp (aAppend T_uint8 1 1 p3 x76 m) fun x77 m =>
  s_waymarkref13_dumpLists_17 G k0 p5 x77 p4 p1 m
noncomputable def s_waymarkref13_dumpLists_14 (G : Gt) (k0 : Value → Value → Value → Mem → Option Rs) (p1 p4 p3 : Value) (m : Mem) : Option Rs :=
  bp (pur (aFieldAddr 7 p1) m) fun x78 m =>
  bp (pur (aLoad false 1 x78 m) m) fun x79 m =>
  bp (pur (aIndexAddrSl 2 x79 p4) m) fun x80 m =>
  bp (pur (aLoad true 2 x80 m) m) fun x81 m =>
  bp (some (aNew T_api_PrefixList z_api_PrefixList m)) fun x82 m =>
  bp (unt (aStore 2 x82 x81 m)) fun _ m =>
  s_waymarkref13_dumpLists_16 G k0 p3 x82 p4 p1 m
noncomputable def s_waymarkref13_dumpLists_13 (G : Gt) : Nat → Value → Value → Value → Mem → Option Rs
  | 0, _, _, _, _ => none
  | i + 1, p4, p1, p3, m =>
  bp (pur (aFieldAddr 7 p1) m) fun x83 m =>
  bp (pur (aLoad false 1 x83 m) m) fun x84 m =>
  bp (pur (lenK 1 x84 m) m) fun x85 m =>
  bp (pur (bin .lss false true .int p4 x85) m) fun x86 m =>
  brb x86
    (s_waymarkref13_dumpLists_14 G (s_waymarkref13_dumpLists_13 G i) p1 p4 p3 m)
    (s_waymarkref13_dumpLists_2 G p1 p3 m)
noncomputable def s_waymarkref13_dumpLists_12 (G : Gt) (p4 p1 p3 : Value) (m : Mem) : Option Rs :=
  s_waymarkref13_dumpLists_13 G G.rds p4 p1 p3 m
noncomputable def s_waymarkref13_dumpLists_1 (G : Gt) (p1 p3 : Value) (m : Mem) : Option Rs :=
  s_waymarkref13_dumpLists_12 G (.int .i64 0) p1 p3 m
noncomputable def s_waymarkref13_dumpLists_0 (G : Gt) (p1 : Value) (m : Mem) : Option Rs :=
  s_waymarkref13_dumpLists_1 G p1 (.slice none 0 0) m
noncomputable def s_waymarkref13_dumpLists (G : Gt) (p0 : Value) (m : Mem) : Option Rs :=
  bp (some (aNew T_api_Device (Value.cells p0).toList m)) fun x87 m =>
  s_waymarkref13_dumpLists_0 G x87 m
theorem e_waymarkref13_dumpLists (G : Gt) (a0 : Value) (m : Mem) : evFn Go.Proofs.Tryz.prog G.tab G.rds (drOf Go.Proofs.Tryz.prog G.tab) Go.Proofs.Tryz.f31 [a0] m = s_waymarkref13_dumpLists G a0 m :=
  evFn_of (r := fun ρ m => s_waymarkref13_dumpLists G (ρ 0) m) rfl rfl (tr (seqQ (f := fun ρ m => s_waymarkref13_dumpLists_0 G (ρ 1) m) (tr (seqQ (f := fun ρ m => s_waymarkref13_dumpLists_1 G (ρ 1) (ρ 3) m) (tr (tr (seqQ (f := fun ρ m => s_waymarkref13_dumpLists_2 G (ρ 1) (ρ 3) m) (tr (tr (seqQ (f := fun ρ m => s_waymarkref13_dumpLists_3 G (ρ 3) m) (fun ρ m => by kernel_rfl)) (seqQ (f := fun ρ m => s_waymarkref13_dumpLists_4 G (ρ 8) (ρ 1) (ρ 3) m) (tr (blockQ (loopQ (fun i ρ m => s_waymarkref13_dumpLists_5 G i (ρ 8) (ρ 1) (ρ 3) m) (fun _ _ => rfl) (fun i0 => tr (seqQ (f := fun ρ m => s_waymarkref13_dumpLists_6 G (s_waymarkref13_dumpLists_5 G i0) (ρ 1) (ρ 8) (ρ 3) m) (tr (tr (seqQ (f := fun ρ m => s_waymarkref13_dumpLists_7 G (s_waymarkref13_dumpLists_5 G i0) (ρ 8) (ρ 1) (ρ 3) m) (fun ρ m => by kernel_rfl)) (blockQ (seqQ (f := fun ρ m => s_waymarkref13_dumpLists_8 G (s_waymarkref13_dumpLists_5 G i0) (ρ 3) (ρ 9) (ρ 8) (ρ 1) m) (tr (seqQ (f := fun ρ m => s_waymarkref13_dumpLists_9 G (s_waymarkref13_dumpLists_5 G i0) (ρ 9) (ρ 3) (ρ 8) (ρ 1) m) (tr (seqQ (f := fun ρ m => s_waymarkref13_dumpLists_10 G (s_waymarkref13_dumpLists_5 G i0) (ρ 10) (ρ 9) (ρ 3) (ρ 8) (ρ 1) m) (tr (blockQ (loopQ (fun i ρ m => s_waymarkref13_dumpLists_11 G (s_waymarkref13_dumpLists_5 G i0) i (ρ 10) (ρ 9) (ρ 3) (ρ 8) (ρ 1) m) (fun _ _ => rfl) (fun i1 => fun ρ m => by kernel_rfl))) (fun ρ m => by kernel_rfl))) (fun ρ m => by kernel_rfl))) (fun ρ m => by kernel_rfl))))) (fun ρ m => by kernel_rfl))) (fun ρ m => by kernel_rfl)))) (fun ρ m => by kernel_rfl)))) (fun ρ m => by kernel_rfl))) (seqQ (f := fun ρ m => s_waymarkref13_dumpLists_12 G (ρ 4) (ρ 1) (ρ 3) m) (tr (blockQ (loopQ (fun i ρ m => s_waymarkref13_dumpLists_13 G i (ρ 4) (ρ 1) (ρ 3) m) (fun _ _ => rfl) (fun i0 => tr (seqQ (f := fun ρ m => s_waymarkref13_dumpLists_14 G (s_waymarkref13_dumpLists_13 G i0) (ρ 1) (ρ 4) (ρ 3) m) (tr (tr (seqQ (f := fun ρ m => s_waymarkref13_dumpLists_15 G (s_waymarkref13_dumpLists_13 G i0) (ρ 4) (ρ 1) (ρ 3) m) (fun ρ m => by kernel_rfl)) (blockQ (seqQ (f := fun ρ m => s_waymarkref13_dumpLists_16 G (s_waymarkref13_dumpLists_13 G i0) (ρ 3) (ρ 5) (ρ 4) (ρ 1) m) (tr (seqQ (f := fun ρ m => s_waymarkref13_dumpLists_17 G (s_waymarkref13_dumpLists_13 G i0) (ρ 5) (ρ 3) (ρ 4) (ρ 1) m) (tr (seqQ (f := fun ρ m => s_waymarkref13_dumpLists_18 G (s_waymarkref13_dumpLists_13 G i0) (ρ 6) (ρ 5) (ρ 3) (ρ 4) (ρ 1) m) (tr (blockQ (loopQ (fun i ρ m => s_waymarkref13_dumpLists_19 G (s_waymarkref13_dumpLists_13 G i0) i (ρ 6) (ρ 5) (ρ 3) (ρ 4) (ρ 1) m) (fun _ _ => rfl) (fun i1 => fun ρ m => by kernel_rfl))) (fun ρ m => by kernel_rfl))) (fun ρ m => by kernel_rfl))) (fun ρ m => by kernel_rfl))))) (fun ρ m => by kernel_rfl))) (fun ρ m => by kernel_rfl)))) (fun ρ m => by kernel_rfl)))) (fun ρ m => by kernel_rfl))) (fun ρ m => by kernel_rfl))) (fun ρ m => by kernel_rfl)) m
noncomputable def E_waymarkref13_dumpLists : Entry Go.Proofs.Tryz.prog := ⟨F_waymarkref13_dumpLists, Go.Proofs.Tryz.f31, Go.Proofs.Tryz.func31, by kernel_rfl, arg1 (fun G a0 m => s_waymarkref13_dumpLists G a0 m), okarg1 e_waymarkref13_dumpLists⟩
/-! 32 waymark/waymarkref13.dumpPolicies -/
noncomputable def s_waymarkref13_dumpPolicies_2 (G : Gt) (p3 : Value) (m : Mem) : Option Rs :=
  bp (conv .str p3 m) fun x0 m =>
  some (x0, m)
noncomputable def s_waymarkref13_dumpPolicies_6 (G : Gt) (k0 : Value → Value → Value → Mem → Option Rs) (p4 p1 p3 : Value) (m : Mem) : Option Rs :=
  bp (pur (bin .add true true .int p4 (.int .i64 1)) m) fun x1 m =>
  k0 x1 p1 p3 m
noncomputable def s_waymarkref13_dumpPolicies_10 (G : Gt) (k0 : Value → Value → Value → Mem → Option Rs) : Nat → Value → Value → Value → Value → Value → Mem → Option Rs
  | 0, _, _, _, _, _, _ => none
  | i + 1, p6, p5, p3, p4, p1, m =>
  bp (pur (aFieldAddr 1 p5) m) fun x2 m =>
  bp (pur (aLoad false 1 x2 m) m) fun x3 m =>
  bp (pur (lenK 1 x3 m) m) fun x4 m =>
  bp (pur (bin .lss false true .int p6 x4) m) fun x5 m =>
  brb x5
    (bp (pur (aFieldAddr 1 p5) m) fun x6 m =>
  bp (pur (aLoad false 1 x6 m) m) fun x7 m =>
  bp (pur (aIndexAddrSl 15 x7 p6) m) fun x8 m =>
  bp (pur (aLoad true 15 x8 m) m) fun x9 m =>
  bp (some (aNew T_api_Clause z_api_Clause m)) fun x10 m =>
  bp (unt (aStore 15 x10 x9 m)) fun _ m =>
  bp (pur (aFieldAddr 0 x10) m) fun x11 m =>
  bp (pur (aLoad false 1 x11 m) m) fun x12 m =>
  bp (pur (aFieldAddr 1 x10) m) fun x13 m =>
  bp (pur (aLoad false 1 x13 m) m) fun x14 m =>
  bp (conv (.int .i64) x14 m) fun x15 m =>
  bp (pur (aFieldAddr 4 x10) m) fun x16 m =>
  bp (pur (aLoad false 1 x16 m) m) fun x17 m =>
  bp (pur (aFieldAddr 5 x10) m) fun x18 m =>
  bp (pur (aLoad false 1 x18 m) m) fun x19 m =>
  bp (pur (aFieldAddr 6 x10) m) fun x20 m =>
  bp (pur (aLoad false 1 x20 m) m) fun x21 m =>
  bp (pur (aFieldAddr 7 x10) m) fun x22 m =>
  bp (pur (aLoad false 1 x22 m) m) fun x23 m =>
  bp (pur (aFieldAddr 8 x10) m) fun x24 m =>
  bp (pur (aLoad false 1 x24 m) m) fun x25 m =>
  bp (pur (aFieldAddr 9 x10) m) fun x26 m =>
  bp (pur (aLoad false 1 x26 m) m) fun x27 m =>
  bp (pur (aFieldAddr 11 x10) m) fun x28 m =>
  bp (pur (aLoad false 1 x28 m) m) fun x29 m =>
  bp (pur (aFieldAddr 13 x10) m) fun x30 m =>
  bp (pur (aLoad false 1 x30 m) m) fun x31 m =>
  bp (conv (.int .i64) x31 m) fun x32 m =>
  bp (pur (aFieldAddr 14 x10) m) fun x33 m =>
  bp (pur (aLoad false 1 x33 m) m) fun x34 m =>
  bp (G.tab F_waymarkref13_bit [x29] m) fun x35 m =>
  ckB (again (pur (aLoad false 1 x11 m) m) x12 && (again (pur (aLoad false 1 x13 m) m) x14 && (again (pur (aLoad false 1 x16 m) m) x17 && (again (pur (aLoad false 1 x18 m) m) x19 && (again (pur (aLoad false 1 x20 m) m) x21 && (again (pur (aLoad false 1 x22 m) m) x23 && (again (pur (aLoad false 1 x24 m) m) x25 && (again (pur (aLoad false 1 x26 m) m) x27 && (again (pur (aLoad false 1 x30 m) m) x31 && (again (pur (aLoad false 1 x33 m) m) x34 && true))))))))))
    (bp (aBuildSlice T_int [(.int .i64 0)] 1 11 [(0, x12), (1, x15), (2, x17), (3, x19), (4, x21), (5, x23), (6, x25), (7, x27), (8, x35), (9, x32), (10, x34)] m) fun x36 m =>
  bp (pur (aFieldAddr 10 x10) m) fun x37 m =>
  bp (pur (aLoad false 1 x37 m) m) fun x38 m =>
  bp (G.tab F_waymarkref13_numbers [x38] m) fun x39 m =>
  bp (apS T_int 1 8 x36 x39 m) fun x40 m =>
  bp (pur (aFieldAddr 12 x10) m) fun x41 m =>
  bp (pur (aLoad false 1 x41 m) m) fun x42 m =>
  bp (G.tab F_waymarkref13_numbers [x42] m) fun x43 m =>
  bp (apS T_int 1 8 x40 x43 m) fun x44 m =>
  bp (pur (aFieldAddr 2 x10) m) fun x45 m =>
  bp (pur (aLoad false 1 x45 m) m) fun x46 m =>
  bp (pur (aFieldAddr 3 x10) m) fun x47 m =>
  bp (pur (aLoad false 1 x47 m) m) fun x48 m =>
  bp (aBuildSlice T_string [(.string ⟨#[]⟩)] 1 2 [(0, x46), (1, x48)] m) fun x49 m =>
  bp (G.tab F_waymarkref13_dump [x44, x49] m) fun x50 m =>
  bp (aAppend T_uint8 1 1 p3 x50 m) fun x51 m =>
  bp (pur (bin .add true true .int p6 (.int .i64 1)) m) fun x52 m =>
  (s_waymarkref13_dumpPolicies_10 G k0 i) x52 p5 x51 p4 p1 m))
    (s_waymarkref13_dumpPolicies_6 G k0 p4 p1 p3 m)
noncomputable def s_waymarkref13_dumpPolicies_9 (G : Gt) (k0 : Value → Value → Value → Mem → Option Rs) (p6 p5 p3 p4 p1 : Value) (m : Mem) : Option Rs :=
  s_waymarkref13_dumpPolicies_10 G k0 G.rds p6 p5 p3 p4 p1 m
noncomputable def s_waymarkref13_dumpPolicies_8 (G : Gt) (k0 : Value → Value → Value → Mem → Option Rs) (p5 p3 p4 p1 : Value) (m : Mem) : Option Rs :=
  s_waymarkref13_dumpPolicies_9 G k0 (.int .i64 0) p5 p3 p4 p1 m
noncomputable def s_waymarkref13_dumpPolicies_7 (G : Gt) (k0 : Value → Value → Value → Mem → Option Rs) (p3 p5 p4 p1 : Value) (m : Mem) : Option Rs :=
  bp (pur (aFieldAddr 1 p5) m) fun x53 m =>
  bp (pur (aLoad false 1 x53 m) m) fun x54 m =>
  bp (pur (lenK 1 x54 m) m) fun x55 m =>
  bp (pur (aFieldAddr 2 p5) m) fun x56 m =>
  bp (pur (aLoad false 1 x56 m) m) fun x57 m =>
  bp (pur (aFieldAddr 0 p5) m) fun x58 m =>
  bp (pur (aLoad false 1 x58 m) m) fun x59 m =>
  bp (aBuildSlice T_string [(.string ⟨#[]⟩)] 1 1 [(0, x59)] m) fun x60 m =>
  bp (G.tab F_waymarkref13_bit [x57] m) fun x61 m =>
  ckB (again (pur (aLoad false 1 x53 m) m) x54 && (again (pur (aLoad false 1 x58 m) m) x59 && true))
    (bp (aBuildSlice T_int [(.int .i64 0)] 1 2 [(0, x55), (1, x61)] m) fun x62 m =>
  bp (G.tab F_waymarkref13_dump [x62, x60] m) fun x63 m =>
  bp (aAppend T_uint8 1 1 p3 x63 m) fun x64 m =>
  s_waymarkref13_dumpPolicies_8 G k0 p5 x64 p4 p1 m)
noncomputable def s_waymarkref13_dumpPolicies_5 (G : Gt) (k0 : Value → Value → Value → Mem → Option Rs) (p1 p4 p3 : Value) (m : Mem) : Option Rs :=
  bp (pur (aFieldAddr 9 p1) m) fun x65 m =>
  bp (pur (aLoad false 1 x65 m) m) fun x66 m =>
  bp (pur (aIndexAddrSl 3 x66 p4) m) fun x67 m =>
  bp (pur (aLoad true 3 x67 m) m) fun x68 m =>
  bp (some (aNew T_api_Policy z_api_Policy m)) fun x69 m =>
  bp (unt (aStore 3 x69 x68 m)) fun _ m =>
  s_waymarkref13_dumpPolicies_7 G k0 p3 x69 p4 p1 m
noncomputable def s_waymarkref13_dumpPolicies_4 (G : Gt) : Nat → Value → Value → Value → Mem → Option Rs
  | 0, _, _, _, _ => none
  | i + 1, p4, p1, p3, m =>
  bp (pur (aFieldAddr 9 p1) m) fun x70 m =>
  bp (pur (aLoad false 1 x70 m) m) fun x71 m =>
  bp (pur (lenK 1 x71 m) m) fun x72 m =>
  bp (pur (bin .lss false true .int p4 x72) m) fun x73 m =>
  brb x73
    (s_waymarkref13_dumpPolicies_5 G (s_waymarkref13_dumpPolicies_4 G i) p1 p4 p3 m)
    (s_waymarkref13_dumpPolicies_2 G p3 m)
noncomputable def s_waymarkref13_dumpPolicies_3 (G : Gt) (p4 p1 p3 : Value) (m : Mem) : Option Rs :=
  s_waymarkref13_dumpPolicies_4 G G.rds p4 p1 p3 m
noncomputable def s_waymarkref13_dumpPolicies_1 (G : Gt) (p1 p3 : Value) (m : Mem) : Option Rs :=
  s_waymarkref13_dumpPolicies_3 G (.int .i64 0) p1 p3 m
noncomputable def s_waymarkref13_dumpPolicies_0 (G : Gt) (p1 : Value) (m : Mem) : Option Rs :=
  s_waymarkref13_dumpPolicies_1 G p1 (.slice none 0 0) m
noncomputable def s_waymarkref13_dumpPolicies (G : Gt) (p0 : Value) (m : Mem) : Option Rs :=
  bp (some (aNew T_api_Device (Value.cells p0).toList m)) fun x74 m =>
  s_waymarkref13_dumpPolicies_0 G x74 m
theorem e_waymarkref13_dumpPolicies (G : Gt) (a0 : Value) (m : Mem) : evFn Go.Proofs.Tryz.prog G.tab G.rds (drOf Go.Proofs.Tryz.prog G.tab) Go.Proofs.Tryz.f32 [a0] m = s_waymarkref13_dumpPolicies G a0 m :=
  evFn_of (r := fun ρ m => s_waymarkref13_dumpPolicies G (ρ 0) m) rfl rfl (tr (seqQ (f := fun ρ m => s_waymarkref13_dumpPolicies_0 G (ρ 1) m) (tr (seqQ (f := fun ρ m => s_waymarkref13_dumpPolicies_1 G (ρ 1) (ρ 3) m) (tr (tr (seqQ (f := fun ρ m => s_waymarkref13_dumpPolicies_2 G (ρ 3) m) (fun ρ m => by kernel_rfl)) (seqQ (f := fun ρ m => s_waymarkref13_dumpPolicies_3 G (ρ 4) (ρ 1) (ρ 3) m) (tr (blockQ (loopQ (fun i ρ m => s_waymarkref13_dumpPolicies_4 G i (ρ 4) (ρ 1) (ρ 3) m) (fun _ _ => rfl) (fun i0 => tr (seqQ (f := fun ρ m => s_waymarkref13_dumpPolicies_5 G (s_waymarkref13_dumpPolicies_4 G i0) (ρ 1) (ρ 4) (ρ 3) m) (tr (tr (seqQ (f := fun ρ m => s_waymarkref13_dumpPolicies_6 G (s_waymarkref13_dumpPolicies_4 G i0) (ρ 4) (ρ 1) (ρ 3) m) (fun ρ m => by kernel_rfl)) (blockQ (seqQ (f := fun ρ m => s_waymarkref13_dumpPolicies_7 G (s_waymarkref13_dumpPolicies_4 G i0) (ρ 3) (ρ 5) (ρ 4) (ρ 1) m) (tr (seqQ (f := fun ρ m => s_waymarkref13_dumpPolicies_8 G (s_waymarkref13_dumpPolicies_4 G i0) (ρ 5) (ρ 3) (ρ 4) (ρ 1) m) (tr (seqQ (f := fun ρ m => s_waymarkref13_dumpPolicies_9 G (s_waymarkref13_dumpPolicies_4 G i0) (ρ 6) (ρ 5) (ρ 3) (ρ 4) (ρ 1) m) (tr (blockQ (loopQ (fun i ρ m => s_waymarkref13_dumpPolicies_10 G (s_waymarkref13_dumpPolicies_4 G i0) i (ρ 6) (ρ 5) (ρ 3) (ρ 4) (ρ 1) m) (fun _ _ => rfl) (fun i1 => fun ρ m => by kernel_rfl))) (fun ρ m => by kernel_rfl))) (fun ρ m => by kernel_rfl))) (fun ρ m => by kernel_rfl))))) (fun ρ m => by kernel_rfl))) (fun ρ m => by kernel_rfl)))) (fun ρ m => by kernel_rfl)))) (fun ρ m => by kernel_rfl))) (fun ρ m => by kernel_rfl))) (fun ρ m => by kernel_rfl)) m
noncomputable def E_waymarkref13_dumpPolicies : Entry Go.Proofs.Tryz.prog := ⟨F_waymarkref13_dumpPolicies, Go.Proofs.Tryz.f32, Go.Proofs.Tryz.func32, by kernel_rfl, arg1 (fun G a0 m => s_waymarkref13_dumpPolicies G a0 m), okarg1 e_waymarkref13_dumpPolicies⟩
/-! 33 waymark/waymarkref13.dumpOSPF -/
noncomputable def s_waymarkref13_dumpOSPF_2 (G : Gt) (p3 : Value) (m : Mem) : Option Rs :=
  some (p3, m)
noncomputable def s_waymarkref13_dumpOSPF_4 (G : Gt) : Nat → Value → Value → Value → Mem → Option Rs
  | 0, _, _, _, _ => none
  | i + 1, p4, p1, p3, m =>
  bp (pur (aFieldAddr 10 p1) m) fun x0 m =>
  bp (pur (aLoad false 1 x0 m) m) fun x1 m =>
  bp (pur (lenK 1 x1 m) m) fun x2 m =>
  bp (pur (bin .lss false true .int p4 x2) m) fun x3 m =>
  brb x3
    (bp (pur (aFieldAddr 10 p1) m) fun x4 m =>
  bp (pur (aLoad false 1 x4 m) m) fun x5 m =>
  bp (pur (aIndexAddrSl 3 x5 p4) m) fun x6 m =>
  bp (pur (aFieldAddr 1 x6) m) fun x7 m =>
  bp (pur (aLoad false 1 x7 m) m) fun x8 m =>
  bp (conv (.int .i64) x8 m) fun x9 m =>
  bp (aBuildSlice T_int [(.int .i64 0)] 1 1 [(0, x9)] m) fun x10 m =>
  bp (pur (aFieldAddr 10 p1) m) fun x11 m =>
  bp (pur (aLoad false 1 x11 m) m) fun x12 m =>
  bp (pur (aIndexAddrSl 3 x12 p4) m) fun x13 m =>
  bp (pur (aFieldAddr 0 x13) m) fun x14 m =>
  bp (pur (aLoad false 1 x14 m) m) fun x15 m =>
  bp (aBuildSlice T_string [(.string ⟨#[]⟩)] 1 1 [(0, x15)] m) fun x16 m =>
  bp (pur (aFieldAddr 10 p1) m) fun x17 m =>
  bp (pur (aLoad false 1 x17 m) m) fun x18 m =>
  bp (pur (aIndexAddrSl 3 x18 p4) m) fun x19 m =>
  bp (pur (aFieldAddr 2 x19) m) fun x20 m =>
  bp (pur (aLoad false 1 x20 m) m) fun x21 m =>
  bp (G.tab F_waymarkref13_dump [x10, x16] m) fun x22 m =>
  ckB (again (pur (aLoad false 1 x17 m) m) x18 && (again (pur (aLoad false 1 x20 m) m) x21 && true))
    (bp (pur (bin .add false true .str p3 x22) m) fun x23 m =>
  bp (G.tab F_waymarkref13_dumpRedists [x21] m) fun x24 m =>
  bp (pur (bin .add false true .str x23 x24) m) fun x25 m =>
  bp (pur (bin .add true true .int p4 (.int .i64 1)) m) fun x26 m =>
  (s_waymarkref13_dumpOSPF_4 G i) x26 p1 x25 m))
    (s_waymarkref13_dumpOSPF_2 G p3 m)
noncomputable def s_waymarkref13_dumpOSPF_3 (G : Gt) (p4 p1 p3 : Value) (m : Mem) : Option Rs :=
  s_waymarkref13_dumpOSPF_4 G G.rds p4 p1 p3 m
noncomputable def s_waymarkref13_dumpOSPF_1 (G : Gt) (p1 p3 : Value) (m : Mem) : Option Rs :=
  s_waymarkref13_dumpOSPF_3 G (.int .i64 0) p1 p3 m
noncomputable def s_waymarkref13_dumpOSPF_0 (G : Gt) (p1 : Value) (m : Mem) : Option Rs :=
  s_waymarkref13_dumpOSPF_1 G p1 (.string ⟨#[]⟩) m
noncomputable def s_waymarkref13_dumpOSPF (G : Gt) (p0 : Value) (m : Mem) : Option Rs :=
  bp (some (aNew T_api_Device (Value.cells p0).toList m)) fun x27 m =>
  s_waymarkref13_dumpOSPF_0 G x27 m
theorem e_waymarkref13_dumpOSPF (G : Gt) (a0 : Value) (m : Mem) : evFn Go.Proofs.Tryz.prog G.tab G.rds (drOf Go.Proofs.Tryz.prog G.tab) Go.Proofs.Tryz.f33 [a0] m = s_waymarkref13_dumpOSPF G a0 m :=
  evFn_of (r := fun ρ m => s_waymarkref13_dumpOSPF G (ρ 0) m) rfl rfl (tr (seqQ (f := fun ρ m => s_waymarkref13_dumpOSPF_0 G (ρ 1) m) (tr (seqQ (f := fun ρ m => s_waymarkref13_dumpOSPF_1 G (ρ 1) (ρ 3) m) (tr (tr (seqQ (f := fun ρ m => s_waymarkref13_dumpOSPF_2 G (ρ 3) m) (fun ρ m => by kernel_rfl)) (seqQ (f := fun ρ m => s_waymarkref13_dumpOSPF_3 G (ρ 4) (ρ 1) (ρ 3) m) (tr (blockQ (loopQ (fun i ρ m => s_waymarkref13_dumpOSPF_4 G i (ρ 4) (ρ 1) (ρ 3) m) (fun _ _ => rfl) (fun i0 => fun ρ m => by kernel_rfl))) (fun ρ m => by kernel_rfl)))) (fun ρ m => by kernel_rfl))) (fun ρ m => by kernel_rfl))) (fun ρ m => by kernel_rfl)) m
noncomputable def E_waymarkref13_dumpOSPF : Entry Go.Proofs.Tryz.prog := ⟨F_waymarkref13_dumpOSPF, Go.Proofs.Tryz.f33, Go.Proofs.Tryz.func33, by kernel_rfl, arg1 (fun G a0 m => s_waymarkref13_dumpOSPF G a0 m), okarg1 e_waymarkref13_dumpOSPF⟩
end Go.Ab.Sh

set_option linter.unusedVariables false
set_option maxRecDepth 100000
namespace Go.Ab.Sh
open Go Go.Ab
/-! 34 waymark/waymarkref13.dumpBGP -/
noncomputable def s_waymarkref13_dumpBGP_2 (G : Gt) (p3 : Value) (m : Mem) : Option Rs :=
  some (p3, m)
noncomputable def s_waymarkref13_dumpBGP_6 (G : Gt) (k0 : Value → Value → Value → Mem → Option Rs) (p4 p1 p3 : Value) (m : Mem) : Option Rs :=
  bp (pur (bin .add true true .int p4 (.int .i64 1)) m) fun x0 m =>
  k0 x0 p1 p3 m
noncomputable def s_waymarkref13_dumpBGP_11 (G : Gt) (k0 : Value → Value → Value → Mem → Option Rs) : Nat → Value → Value → Value → Value → Value → Mem → Option Rs
  | 0, _, _, _, _, _, _ => none
  | i + 1, p7, p5, p3, p4, p1, m =>
  bp (pur (aFieldAddr 4 p5) m) fun x1 m =>
  bp (pur (aLoad false 1 x1 m) m) fun x2 m =>
  bp (pur (lenK 1 x2 m) m) fun x3 m =>
  bp (pur (bin .lss false true .int p7 x3) m) fun x4 m =>
  brb x4
    (bp (pur (aFieldAddr 4 p5) m) fun x5 m =>
  bp (pur (aLoad false 1 x5 m) m) fun x6 m =>
  bp (pur (aIndexAddrSl 6 x6 p7) m) fun x7 m =>
  bp (pur (aLoad true 6 x7 m) m) fun x8 m =>
  bp (some (aNew T_api_Peer z_api_Peer m)) fun x9 m =>
  bp (unt (aStore 6 x9 x8 m)) fun _ m =>
  bp (pur (aFieldAddr 0 x9) m) fun x10 m =>
  bp (pur (aLoad false 1 x10 m) m) fun x11 m =>
  bp (conv (.int .i64) x11 m) fun x12 m =>
  bp (pur (aFieldAddr 1 x9) m) fun x13 m =>
  bp (pur (aLoad false 1 x13 m) m) fun x14 m =>
  bp (conv (.int .i64) x14 m) fun x15 m =>
  bp (pur (aFieldAddr 4 x9) m) fun x16 m =>
  bp (pur (aLoad false 1 x16 m) m) fun x17 m =>
  bp (pur (aFieldAddr 5 x9) m) fun x18 m =>
  bp (pur (aLoad false 1 x18 m) m) fun x19 m =>
  bp (pur (aFieldAddr 2 x9) m) fun x20 m =>
  bp (pur (aLoad false 1 x20 m) m) fun x21 m =>
  bp (pur (aFieldAddr 3 x9) m) fun x22 m =>
  bp (pur (aLoad false 1 x22 m) m) fun x23 m =>
  bp (aBuildSlice T_string [(.string ⟨#[]⟩)] 1 2 [(0, x21), (1, x23)] m) fun x24 m =>
  bp (G.tab F_waymarkref13_bit [x17] m) fun x25 m =>
  ckB (again (pur (aLoad false 1 x10 m) m) x11 && (again (pur (aLoad false 1 x13 m) m) x14 && (again (pur (aLoad false 1 x18 m) m) x19 && (again (pur (aLoad false 1 x20 m) m) x21 && (again (pur (aLoad false 1 x22 m) m) x23 && true)))))
    (bp (G.tab F_waymarkref13_bit [x19] m) fun x26 m =>
  ckB (again (pur (aLoad false 1 x10 m) m) x11 && (again (pur (aLoad false 1 x13 m) m) x14 && (again (pur (aLoad false 1 x20 m) m) x21 && (again (pur (aLoad false 1 x22 m) m) x23 && true))))
    (bp (aBuildSlice T_int [(.int .i64 0)] 1 4 [(0, x12), (1, x15), (2, x25), (3, x26)] m) fun x27 m =>
  bp (G.tab F_waymarkref13_dump [x27, x24] m) fun x28 m =>
  bp (pur (bin .add false true .str p3 x28) m) fun x29 m =>
  bp (pur (bin .add true true .int p7 (.int .i64 1)) m) fun x30 m =>
  (s_waymarkref13_dumpBGP_11 G k0 i) x30 p5 x29 p4 p1 m)))
    (s_waymarkref13_dumpBGP_6 G k0 p4 p1 p3 m)
noncomputable def s_waymarkref13_dumpBGP_10 (G : Gt) (k0 : Value → Value → Value → Mem → Option Rs) (p7 p5 p3 p4 p1 : Value) (m : Mem) : Option Rs :=
  s_waymarkref13_dumpBGP_11 G k0 G.rds p7 p5 p3 p4 p1 m
noncomputable def s_waymarkref13_dumpBGP_9 (G : Gt) (k0 : Value → Value → Value → Mem → Option Rs) (p5 p3 p4 p1 : Value) (m : Mem) : Option Rs :=
  s_waymarkref13_dumpBGP_10 G k0 (.int .i64 0) p5 p3 p4 p1 m
noncomputable def s_waymarkref13_dumpBGP_13 (G : Gt) (k0 : Value → Value → Value → Mem → Option Rs) : Nat → Value → Value → Value → Value → Value → Mem → Option Rs
  | 0, _, _, _, _, _, _ => none
  | i + 1, p6, p5, p3, p4, p1, m =>
  bp (pur (aFieldAddr 3 p5) m) fun x31 m =>
  bp (pur (aLoad false 1 x31 m) m) fun x32 m =>
  bp (pur (lenK 1 x32 m) m) fun x33 m =>
  bp (pur (bin .lss false true .int p6 x33) m) fun x34 m =>
  brb x34
    (bp (pur (aFieldAddr 3 p5) m) fun x35 m =>
  bp (pur (aLoad false 1 x35 m) m) fun x36 m =>
  bp (pur (aIndexAddrSl 2 x36 p6) m) fun x37 m =>
  bp (pur (aFieldAddr 0 x37) m) fun x38 m =>
  bp (pur (aLoad false 1 x38 m) m) fun x39 m =>
  bp (conv (.int .i64) x39 m) fun x40 m =>
  bp (pur (aFieldAddr 3 p5) m) fun x41 m =>
  bp (pur (aLoad false 1 x41 m) m) fun x42 m =>
  bp (pur (aIndexAddrSl 2 x42 p6) m) fun x43 m =>
  bp (pur (aFieldAddr 1 x43) m) fun x44 m =>
  bp (pur (aLoad false 1 x44 m) m) fun x45 m =>
  bp (aBuildSlice T_int [(.int .i64 0)] 1 2 [(0, x40), (1, x45)] m) fun x46 m =>
  bp (G.tab F_waymarkref13_dump [x46, (.slice none 0 0)] m) fun x47 m =>
  bp (pur (bin .add false true .str p3 x47) m) fun x48 m =>
  bp (pur (bin .add true true .int p6 (.int .i64 1)) m) fun x49 m =>
  (s_waymarkref13_dumpBGP_13 G k0 i) x49 p5 x48 p4 p1 m)
    (s_waymarkref13_dumpBGP_9 G k0 p5 p3 p4 p1 m)
noncomputable def s_waymarkref13_dumpBGP_12 (G : Gt) (k0 : Value → Value → Value → Mem → Option Rs) (p6 p5 p3 p4 p1 : Value) (m : Mem) : Option Rs :=
  s_waymarkref13_dumpBGP_13 G k0 G.rds p6 p5 p3 p4 p1 m
noncomputable def s_waymarkref13_dumpBGP_8 (G : Gt) (k0 : Value → Value → Value → Mem → Option Rs) (p5 p3 p4 p1 : Value) (m : Mem) : Option Rs :=
  s_waymarkref13_dumpBGP_12 G k0 (.int .i64 0) p5 p3 p4 p1 m
noncomputable def s_waymarkref13_dumpBGP_7 (G : Gt) (k0 : Value → Value → Value → Mem → Option Rs) (p3 p5 p4 p1 : Value) (m : Mem) : Option Rs :=
  bp (pur (aFieldAddr 1 p5) m) fun x50 m =>
  bp (pur (aLoad false 1 x50 m) m) fun x51 m =>
  bp (conv (.int .i64) x51 m) fun x52 m =>
  bp (pur (aFieldAddr 2 p5) m) fun x53 m =>
  bp (pur (aLoad false 1 x53 m) m) fun x54 m =>
  bp (conv (.int .i64) x54 m) fun x55 m =>
  bp (pur (aFieldAddr 3 p5) m) fun x56 m =>
  bp (pur (aLoad false 1 x56 m) m) fun x57 m =>
  bp (pur (lenK 1 x57 m) m) fun x58 m =>
  bp (pur (aFieldAddr 4 p5) m) fun x59 m =>
  bp (pur (aLoad false 1 x59 m) m) fun x60 m =>
  bp (pur (lenK 1 x60 m) m) fun x61 m =>
  bp (aBuildSlice T_int [(.int .i64 0)] 1 4 [(0, x52), (1, x55), (2, x58), (3, x61)] m) fun x62 m =>
  bp (pur (aFieldAddr 0 p5) m) fun x63 m =>
  bp (pur (aLoad false 1 x63 m) m) fun x64 m =>
  bp (aBuildSlice T_string [(.string ⟨#[]⟩)] 1 1 [(0, x64)] m) fun x65 m =>
  bp (pur (aFieldAddr 5 p5) m) fun x66 m =>
  bp (pur (aLoad false 1 x66 m) m) fun x67 m =>
  bp (G.tab F_waymarkref13_dump [x62, x65] m) fun x68 m =>
  ckB (again (pur (aLoad false 1 x66 m) m) x67 && true)
    (bp (pur (bin .add false true .str p3 x68) m) fun x69 m =>
  bp (G.tab F_waymarkref13_dumpRedists [x67] m) fun x70 m =>
  bp (pur (bin .add false true .str x69 x70) m) fun x71 m =>
  s_waymarkref13_dumpBGP_8 G k0 p5 x71 p4 p1 m)
noncomputable def s_waymarkref13_dumpBGP_5 (G : Gt) (k0 : Value → Value → Value → Mem → Option Rs) (p1 p4 p3 : Value) (m : Mem) : Option Rs :=
  bp (pur (aFieldAddr 11 p1) m) fun x72 m =>
  bp (pur (aLoad false 1 x72 m) m) fun x73 m =>
  bp (pur (aIndexAddrSl 6 x73 p4) m) fun x74 m =>
  bp (pur (aLoad true 6 x74 m) m) fun x75 m =>
  bp (some (aNew T_api_BGP z_api_BGP m)) fun x76 m =>
  bp (unt (aStore 6 x76 x75 m)) fun _ m =>
  s_waymarkref13_dumpBGP_7 G k0 p3 x76 p4 p1 m
noncomputable def s_waymarkref13_dumpBGP_4 (G : Gt) : Nat → Value → Value → Value → Mem → Option Rs
  | 0, _, _, _, _ => none
  | i + 1, p4, p1, p3, m =>
  bp (pur (aFieldAddr 11 p1) m) fun x77 m =>
  bp (pur (aLoad false 1 x77 m) m) fun x78 m =>
  bp (pur (lenK 1 x78 m) m) fun x79 m =>
  bp (pur (bin .lss false true .int p4 x79) m) fun x80 m =>
  brb x80
    (s_waymarkref13_dumpBGP_5 G (s_waymarkref13_dumpBGP_4 G i) p1 p4 p3 m)
    (s_waymarkref13_dumpBGP_2 G p3 m)
noncomputable def s_waymarkref13_dumpBGP_3 (G : Gt) (p4 p1 p3 : Value) (m : Mem) : Option Rs :=
  s_waymarkref13_dumpBGP_4 G G.rds p4 p1 p3 m
noncomputable def s_waymarkref13_dumpBGP_1 (G : Gt) (p1 p3 : Value) (m : Mem) : Option Rs :=
  s_waymarkref13_dumpBGP_3 G (.int .i64 0) p1 p3 m
noncomputable def s_waymarkref13_dumpBGP_0 (G : Gt) (p1 : Value) (m : Mem) : Option Rs :=
  s_waymarkref13_dumpBGP_1 G p1 (.string ⟨#[]⟩) m
noncomputable def s_waymarkref13_dumpBGP (G : Gt) (p0 : Value) (m : Mem) : Option Rs :=
  bp (some (aNew T_api_Device (Value.cells p0).toList m)) fun x81 m =>
  s_waymarkref13_dumpBGP_0 G x81 m
theorem e_waymarkref13_dumpBGP (G : Gt) (a0 : Value) (m : Mem) : evFn Go.Proofs.Tryz.prog G.tab G.rds (drOf Go.Proofs.Tryz.prog G.tab) Go.Proofs.Tryz.f34 [a0] m = s_waymarkref13_dumpBGP G a0 m :=
  evFn_of (r := fun ρ m => s_waymarkref13_dumpBGP G (ρ 0) m) rfl rfl (tr (seqQ (f := fun ρ m => s_waymarkref13_dumpBGP_0 G (ρ 1) m) (tr (seqQ (f := fun ρ m => s_waymarkref13_dumpBGP_1 G (ρ 1) (ρ 3) m) (tr (tr (seqQ (f := fun ρ m => s_waymarkref13_dumpBGP_2 G (ρ 3) m) (fun ρ m => by kernel_rfl)) (seqQ (f := fun ρ m => s_waymarkref13_dumpBGP_3 G (ρ 4) (ρ 1) (ρ 3) m) (tr (blockQ (loopQ (fun i ρ m => s_waymarkref13_dumpBGP_4 G i (ρ 4) (ρ 1) (ρ 3) m) (fun _ _ => rfl) (fun i0 => tr (seqQ (f := fun ρ m => s_waymarkref13_dumpBGP_5 G (s_waymarkref13_dumpBGP_4 G i0) (ρ 1) (ρ 4) (ρ 3) m) (tr (tr (seqQ (f := fun ρ m => s_waymarkref13_dumpBGP_6 G (s_waymarkref13_dumpBGP_4 G i0) (ρ 4) (ρ 1) (ρ 3) m) (fun ρ m => by kernel_rfl)) (blockQ (seqQ (f := fun ρ m => s_waymarkref13_dumpBGP_7 G (s_waymarkref13_dumpBGP_4 G i0) (ρ 3) (ρ 5) (ρ 4) (ρ 1) m) (tr (seqQ (f := fun ρ m => s_waymarkref13_dumpBGP_8 G (s_waymarkref13_dumpBGP_4 G i0) (ρ 5) (ρ 3) (ρ 4) (ρ 1) m) (tr (tr (seqQ (f := fun ρ m => s_waymarkref13_dumpBGP_9 G (s_waymarkref13_dumpBGP_4 G i0) (ρ 5) (ρ 3) (ρ 4) (ρ 1) m) (tr (seqQ (f := fun ρ m => s_waymarkref13_dumpBGP_10 G (s_waymarkref13_dumpBGP_4 G i0) (ρ 7) (ρ 5) (ρ 3) (ρ 4) (ρ 1) m) (tr (blockQ (loopQ (fun i ρ m => s_waymarkref13_dumpBGP_11 G (s_waymarkref13_dumpBGP_4 G i0) i (ρ 7) (ρ 5) (ρ 3) (ρ 4) (ρ 1) m) (fun _ _ => rfl) (fun i1 => fun ρ m => by kernel_rfl))) (fun ρ m => by kernel_rfl))) (fun ρ m => by kernel_rfl))) (seqQ (f := fun ρ m => s_waymarkref13_dumpBGP_12 G (s_waymarkref13_dumpBGP_4 G i0) (ρ 6) (ρ 5) (ρ 3) (ρ 4) (ρ 1) m) (tr (blockQ (loopQ (fun i ρ m => s_waymarkref13_dumpBGP_13 G (s_waymarkref13_dumpBGP_4 G i0) i (ρ 6) (ρ 5) (ρ 3) (ρ 4) (ρ 1) m) (fun _ _ => rfl) (fun i1 => fun ρ m => by kernel_rfl))) (fun ρ m => by kernel_rfl)))) (fun ρ m => by kernel_rfl))) (fun ρ m => by kernel_rfl))))) (fun ρ m => by kernel_rfl))) (fun ρ m => by kernel_rfl)))) (fun ρ m => by kernel_rfl)))) (fun ρ m => by kernel_rfl))) (fun ρ m => by kernel_rfl))) (fun ρ m => by kernel_rfl)) m
noncomputable def E_waymarkref13_dumpBGP : Entry Go.Proofs.Tryz.prog := ⟨F_waymarkref13_dumpBGP, Go.Proofs.Tryz.f34, Go.Proofs.Tryz.func34, by kernel_rfl, arg1 (fun G a0 m => s_waymarkref13_dumpBGP G a0 m), okarg1 e_waymarkref13_dumpBGP⟩
/-! 35 waymark/lex.check -/
noncomputable def s_lex_check_3 (G : Gt) (p2 : Value) (m : Mem) : Option Rs :=
  bp (pur (aBuild z_api_Pos [(0, 1), (1, 1)] []) m) fun x0 m =>
  bp (unt (aStore 2 p2 x0 m)) fun _ m =>
  ob (ob (aLoad true 2 p2 m) fun v => ob (some [(.int .i64 0)]) fun l => some (v :: l)) fun l => some (resVal l, m)
noncomputable def s_lex_check_8 (G : Gt) (k0 : Value → Value → Value → Value → Value → Mem → Option Rs) (p13 p12 p4 p2 p0 : Value) (m : Mem) : Option Rs :=
  bp (pur (bin .add true true .int p13 (.int .i64 1)) m) fun x1 m =>
  k0 x1 p12 p4 p2 p0 m
noncomputable def s_lex_check_12 (G : Gt) (k0 : Value → Value → Value → Value → Value → Mem → Option Rs) (p30 p4 p2 p13 p12 p0 : Value) (m : Mem) : Option Rs :=
  brb p30
    (bp (pur (aLoad true 2 p4 m) m) fun x7 m =>
  bp (unt (aStore 2 p2 x7 m)) fun _ m =>
  ob (ob (aLoad true 2 p2 m) fun v => ob (some [(.int .i64 70)]) fun l => some (v :: l)) fun l => some (resVal l, m))
    (bp (pur (aFieldAddr 1 p4) m) fun x8 m =>
  bp (pur (aLoad false 1 x8 m) m) fun x9 m =>
  bp (pur (bin .add true true .int x9 (.int .i64 1)) m) fun x10 m =>
  bp (pur (aFieldAddr 1 p4) m) fun x11 m =>
  bp (unt (aStore 1 x11 x10 m)) fun _ m =>
  s_lex_check_8 G k0 p13 p12 p4 p2 p0 m)
noncomputable def s_lex_check_11 (G : Gt) (k0 : Value → Value → Value → Value → Value → Mem → Option Rs) (p21 p4 p13 p12 p2 p0 p5 : Value) (m : Mem) : Option Rs :=
  brb p21
    (bp (pur (aFieldAddr 0 p4) m) fun x3 m =>
  bp (pur (aLoad false 1 x3 m) m) fun x4 m =>
  bp (pur (bin .add true true .int x4 (.int .i64 1)) m) fun x5 m =>
  bp (pur (aBuild z_api_Pos [(0, 1), (1, 1)] [(0, x5), (1, (.int .i64 1))]) m) fun x6 m =>
  bp (unt (aStore 2 p4 x6 m)) fun _ m =>
  s_lex_check_8 G k0 p13 p12 p4 p2 p0 m)
    (bp (pur (aIndexStr p0 p5) m) fun x12 m =>
  bp (pur (bin .lss true true .int x12 (.int .u8 32)) m) fun x13 m =>
  brb x13
    (s_lex_check_12 G k0 (.bool true) p4 p2 p13 p12 p0 m)
    (bp (pur (aIndexStr p0 p5) m) fun x14 m =>
  bp (pur (bin .gtr true true .int x14 (.int .u8 126)) m) fun x15 m =>
  s_lex_check_12 G k0 x15 p4 p2 p13 p12 p0 m))
noncomputable def s_lex_check_10 (G : Gt) (k0 : Value → Value → Value → Value → Value → Mem → Option Rs) (p16 p4 p2 p0 p5 p13 p12 : Value) (m : Mem) : Option Rs :=
  brb p16
    (bp (pur (aLoad true 2 p4 m) m) fun x2 m =>
  bp (unt (aStore 2 p2 x2 m)) fun _ m =>
  ob (ob (aLoad true 2 p2 m) fun v => ob (some [(.int .i64 3)]) fun l => some (v :: l)) fun l => some (resVal l, m))
    (bp (pur (aIndexStr p0 p5) m) fun x16 m =>
  bp (pur (bin .eql true true .int x16 (.int .u8 10)) m) fun x17 m =>
  s_lex_check_11 G k0 x17 p4 p13 p12 p2 p0 p5 m)
noncomputable def s_lex_check_9 (G : Gt) (k0 : Value → Value → Value → Value → Value → Mem → Option Rs) (p4 p2 p0 p5 p13 p12 : Value) (m : Mem) : Option Rs :=
  bp (pur (aFieldAddr 0 p4) m) fun x18 m =>
  bp (pur (aLoad false 1 x18 m) m) fun x19 m =>
  bp (pur (bin .gtr true true .int x19 (.int .i64 4096)) m) fun x20 m =>
  s_lex_check_10 G k0 x20 p4 p2 p0 p5 p13 p12 m
noncomputable def s_lex_check_7 (G : Gt) (k0 : Value → Value → Value → Value → Value → Mem → Option Rs) (p13 p4 p2 p0 p12 : Value) (m : Mem) : Option Rs :=
  s_lex_check_9 G k0 p4 p2 p0 p13 p13 p12 m
noncomputable def s_lex_check_6 (G : Gt) (k0 : Value → Value → Value → Value → Value → Mem → Option Rs) (p14 p13 p4 p2 p0 p12 : Value) (m : Mem) : Option Rs :=
  brb p14
    (s_lex_check_7 G k0 p13 p4 p2 p0 p12 m)
    (s_lex_check_3 G p2 m)
noncomputable def s_lex_check_5 (G : Gt) : Nat → Value → Value → Value → Value → Value → Mem → Option Rs
  | 0, _, _, _, _, _, _ => none
  | i + 1, p13, p12, p4, p2, p0, m =>
  bp (pur (bin .lss false true .int p13 p12) m) fun x21 m =>
  s_lex_check_6 G (s_lex_check_5 G i) x21 p13 p4 p2 p0 p12 m
noncomputable def s_lex_check_4 (G : Gt) (p13 p12 p4 p2 p0 : Value) (m : Mem) : Option Rs :=
  s_lex_check_5 G G.rds p13 p12 p4 p2 p0 m
noncomputable def s_lex_check_2 (G : Gt) (p0 p4 p2 : Value) (m : Mem) : Option Rs :=
  bp (pur (lenK 0 p0 m) m) fun x22 m =>
  s_lex_check_4 G (.int .i64 0) x22 p4 p2 p0 m
noncomputable def s_lex_check_1 (G : Gt) (p0 p2 : Value) (m : Mem) : Option Rs :=
  bp (pur (aBuild z_api_Pos [(0, 1), (1, 1)] [(0, (.int .i64 1)), (1, (.int .i64 1))]) m) fun x23 m =>
  bp (some (aNew T_api_Pos z_api_Pos m)) fun x24 m =>
  bp (unt (aStore 2 x24 x23 m)) fun _ m =>
  s_lex_check_2 G p0 x24 p2 m
noncomputable def s_lex_check_0 (G : Gt) (p0 p2 : Value) (m : Mem) : Option Rs :=
  bp (pur (lenK 0 p0 m) m) fun x25 m =>
  bp (pur (bin .gtr true true .int x25 (.int .i64 65536)) m) fun x26 m =>
  brb x26
    (bp (pur (aBuild z_api_Pos [(0, 1), (1, 1)] []) m) fun x27 m =>
  bp (unt (aStore 2 p2 x27 m)) fun _ m =>
  ob (ob (aLoad true 2 p2 m) fun v => ob (some [(.int .i64 3)]) fun l => some (v :: l)) fun l => some (resVal l, m))
    (s_lex_check_1 G p0 p2 m)
noncomputable def s_lex_check (G : Gt) (p0 : Value) (m : Mem) : Option Rs :=
  bp (some (aNew T_api_Pos z_api_Pos m)) fun x28 m =>
  s_lex_check_0 G p0 x28 m
theorem e_lex_check (G : Gt) (a0 : Value) (m : Mem) : evFn Go.Proofs.Tryz.prog G.tab G.rds (drOf Go.Proofs.Tryz.prog G.tab) Go.Proofs.Tryz.f35 [a0] m = s_lex_check G a0 m :=
  evFn_of (r := fun ρ m => s_lex_check G (ρ 0) m) rfl rfl (tr (seqQ (f := fun ρ m => s_lex_check_0 G (ρ 0) (ρ 2) m) (tr (seqQ (f := fun ρ m => s_lex_check_1 G (ρ 0) (ρ 2) m) (tr (seqQ (f := fun ρ m => s_lex_check_2 G (ρ 0) (ρ 4) (ρ 2) m) (tr (tr (seqQ (f := fun ρ m => s_lex_check_3 G (ρ 2) m) (fun ρ m => by kernel_rfl)) (seqQ (f := fun ρ m => s_lex_check_4 G (ρ 13) (ρ 12) (ρ 4) (ρ 2) (ρ 0) m) (tr (blockQ (loopQ (fun i ρ m => s_lex_check_5 G i (ρ 13) (ρ 12) (ρ 4) (ρ 2) (ρ 0) m) (fun _ _ => rfl) (fun i0 => tr (seqQ (f := fun ρ m => s_lex_check_6 G (s_lex_check_5 G i0) (ρ 14) (ρ 13) (ρ 4) (ρ 2) (ρ 0) (ρ 12) m) (tr (seqQ (f := fun ρ m => s_lex_check_7 G (s_lex_check_5 G i0) (ρ 13) (ρ 4) (ρ 2) (ρ 0) (ρ 12) m) (tr (tr (seqQ (f := fun ρ m => s_lex_check_8 G (s_lex_check_5 G i0) (ρ 13) (ρ 12) (ρ 4) (ρ 2) (ρ 0) m) (fun ρ m => by kernel_rfl)) (blockQ (seqQ (f := fun ρ m => s_lex_check_9 G (s_lex_check_5 G i0) (ρ 4) (ρ 2) (ρ 0) (ρ 5) (ρ 13) (ρ 12) m) (tr (tr seqD (blockQ (seqQ (f := fun ρ m => s_lex_check_10 G (s_lex_check_5 G i0) (ρ 16) (ρ 4) (ρ 2) (ρ 0) (ρ 5) (ρ 13) (ρ 12) m) (tr (condQ (refQ) (seqQ (f := fun ρ m => s_lex_check_11 G (s_lex_check_5 G i0) (ρ 21) (ρ 4) (ρ 13) (ρ 12) (ρ 2) (ρ 0) (ρ 5) m) (tr (condQ (refQ) (seqQ (f := fun ρ m => s_lex_check_12 G (s_lex_check_5 G i0) (ρ 30) (ρ 4) (ρ 2) (ρ 13) (ρ 12) (ρ 0) m) (fun ρ m => by kernel_rfl))) (fun ρ m => by kernel_rfl)))) (fun ρ m => by kernel_rfl))))) (fun ρ m => by kernel_rfl))))) (fun ρ m => by kernel_rfl))) (fun ρ m => by kernel_rfl))) (fun ρ m => by kernel_rfl)))) (fun ρ m => by kernel_rfl)))) (fun ρ m => by kernel_rfl))) (fun ρ m => by kernel_rfl))) (fun ρ m => by kernel_rfl))) (fun ρ m => by kernel_rfl)) m
noncomputable def E_lex_check : Entry Go.Proofs.Tryz.prog := ⟨F_lex_check, Go.Proofs.Tryz.f35, Go.Proofs.Tryz.func35, by kernel_rfl, arg1 (fun G a0 m => s_lex_check G a0 m), okarg1 e_lex_check⟩
/-! 36 strings.Split -/
noncomputable def s_strings_Split (G : Gt) (p0 p1 : Value) (m : Mem) : Option Rs :=
  bp (G.tab F_strings_genSplit [p0, p1, (.int .i64 0), (.int .i64 (-1))] m) fun x0 m =>
  some (x0, m)
theorem e_strings_Split (G : Gt) (a0 a1 : Value) (m : Mem) : evFn Go.Proofs.Tryz.prog G.tab G.rds (drOf Go.Proofs.Tryz.prog G.tab) Go.Proofs.Tryz.f36 [a0, a1] m = s_strings_Split G a0 a1 m :=
  evFn_of (r := fun ρ m => s_strings_Split G (ρ 0) (ρ 1) m) rfl rfl (fun ρ m => by kernel_rfl) m
noncomputable def E_strings_Split : Entry Go.Proofs.Tryz.prog := ⟨F_strings_Split, Go.Proofs.Tryz.f36, Go.Proofs.Tryz.func36, by kernel_rfl, arg2 (fun G a0 a1 m => s_strings_Split G a0 a1 m), okarg2 e_strings_Split⟩
/-! 37 strings.TrimLeft -/
noncomputable def s_strings_TrimLeft_2 (G : Gt) (p21 p0 p1 : Value) (m : Mem) : Option Rs :=
  brb p21
    (bp (pur (aIndexStr p1 (.int .i64 0)) m) fun x0 m =>
  bp (G.tab F_strings_trimLeftByte [p0, x0] m) fun x1 m =>
  some (x1, m))
    (bp (G.tab F_strings_makeASCIISet [p1] m) fun x2 m =>
  bp (pur (aExtract x2 0) m) fun x3 m =>
  bp (pur (aExtract x2 1) m) fun x4 m =>
  bp (some (aNew T_strings_asciiSet z_strings_asciiSet m)) fun x5 m =>
  bp (unt (aStore 256 x5 x3 m)) fun _ m =>
  brb x4
    (bp (G.tab F_strings_trimLeftASCII [p0, x5] m) fun x6 m =>
  some (x6, m))
    (bp (G.tab F_strings_trimLeftUnicode [p0, p1] m) fun x7 m =>
  some (x7, m)))
noncomputable def s_strings_TrimLeft_1 (G : Gt) (p1 p0 : Value) (m : Mem) : Option Rs :=
  bp (pur (lenK 0 p1 m) m) fun x8 m =>
  bp (pur (bin .eql true true .int x8 (.int .i64 1)) m) fun x9 m =>
  brb x9
    (bp (pur (aIndexStr p1 (.int .i64 0)) m) fun x10 m =>
  bp (pur (bin .lss true true .int x10 (.int .u8 128)) m) fun x11 m =>
  s_strings_TrimLeft_2 G x11 p0 p1 m)
    (s_strings_TrimLeft_2 G (.bool false) p0 p1 m)
noncomputable def s_strings_TrimLeft_3 (G : Gt) (p12 p0 p1 : Value) (m : Mem) : Option Rs :=
  brb p12
    (some (p0, m))
    (s_strings_TrimLeft_1 G p1 p0 m)
noncomputable def s_strings_TrimLeft_0 (G : Gt) (p0 p1 : Value) (m : Mem) : Option Rs :=
  bp (pur (bin .eql true true .str p0 (.string ⟨#[]⟩)) m) fun x12 m =>
  brb x12
    (s_strings_TrimLeft_3 G (.bool true) p0 p1 m)
    (bp (pur (bin .eql true true .str p1 (.string ⟨#[]⟩)) m) fun x13 m =>
  s_strings_TrimLeft_3 G x13 p0 p1 m)
noncomputable def s_strings_TrimLeft (G : Gt) (p0 p1 : Value) (m : Mem) : Option Rs :=
  s_strings_TrimLeft_0 G p0 p1 m
theorem e_strings_TrimLeft (G : Gt) (a0 a1 : Value) (m : Mem) : evFn Go.Proofs.Tryz.prog G.tab G.rds (drOf Go.Proofs.Tryz.prog G.tab) Go.Proofs.Tryz.f37 [a0, a1] m = s_strings_TrimLeft G a0 a1 m :=
  evFn_of (r := fun ρ m => s_strings_TrimLeft G (ρ 0) (ρ 1) m) rfl rfl (tr (seqQ (f := fun ρ m => s_strings_TrimLeft_0 G (ρ 0) (ρ 1) m) (tr (tr (seqQ (f := fun ρ m => s_strings_TrimLeft_1 G (ρ 1) (ρ 0) m) (tr (tr seqD (seqQ (f := fun ρ m => s_strings_TrimLeft_2 G (ρ 21) (ρ 0) (ρ 1) m) (fun ρ m => by kernel_rfl))) (fun ρ m => by kernel_rfl))) (seqQ (f := fun ρ m => s_strings_TrimLeft_3 G (ρ 12) (ρ 0) (ρ 1) m) (fun ρ m => by kernel_rfl))) (fun ρ m => by kernel_rfl))) (fun ρ m => by kernel_rfl)) m
noncomputable def E_strings_TrimLeft : Entry Go.Proofs.Tryz.prog := ⟨F_strings_TrimLeft, Go.Proofs.Tryz.f37, Go.Proofs.Tryz.func37, by kernel_rfl, arg2 (fun G a0 a1 m => s_strings_TrimLeft G a0 a1 m), okarg2 e_strings_TrimLeft⟩
/-! 38 strings.Cut -/
noncomputable def s_strings_Cut (G : Gt) (p0 p1 : Value) (m : Mem) : Option Rs :=
  bp (G.tab F_internal_stringslite_Cut [p0, p1] m) fun x0 m =>
  bp (pur (aExtract x0 0) m) fun x1 m =>
  bp (pur (aExtract x0 1) m) fun x2 m =>
  bp (pur (aExtract x0 2) m) fun x3 m =>
  some (.tuple ⟨[x1, x2, x3]⟩, m)
theorem e_strings_Cut (G : Gt) (a0 a1 : Value) (m : Mem) : evFn Go.Proofs.Tryz.prog G.tab G.rds (drOf Go.Proofs.Tryz.prog G.tab) Go.Proofs.Tryz.f38 [a0, a1] m = s_strings_Cut G a0 a1 m :=
  evFn_of (r := fun ρ m => s_strings_Cut G (ρ 0) (ρ 1) m) rfl rfl (fun ρ m => by kernel_rfl) m
noncomputable def E_strings_Cut : Entry Go.Proofs.Tryz.prog := ⟨F_strings_Cut, Go.Proofs.Tryz.f38, Go.Proofs.Tryz.func38, by kernel_rfl, arg2 (fun G a0 a1 m => s_strings_Cut G a0 a1 m), okarg2 e_strings_Cut⟩
/-! 39 (*waymark/flat.cursor).word -/
noncomputable def s_Pflat_cursor_word (G : Gt) (p0 : Value) (m : Mem) : Option Rs :=
  bp (G.tab F_Pflat_cursor_more [p0] m) fun x0 m =>
  bp (pur (un .not x0) m) fun x1 m =>
  brb x1
    (bp (pur (aNilCheck p0) m) fun x2 m =>
  bp (pur (aFieldAddr 0 x2) m) fun x3 m =>
  bp (pur (aLoad false 1 x3 m) m) fun x4 m =>
  bp (pur (aNilCheck p0) m) fun x5 m =>
  bp (pur (aFieldAddr 0 x5) m) fun x6 m =>
  bp (pur (aLoad false 1 x6 m) m) fun x7 m =>
  bp (pur (lenK 1 x7 m) m) fun x8 m =>
  bp (pur (bin .sub true true .int x8 (.int .i64 1)) m) fun x9 m =>
  bp (pur (aIndexAddrSl 3 x4 x9) m) fun x10 m =>
  bp (pur (aLoad true 3 x10 m) m) fun x11 m =>
  bp (some (aNew T_lex_Word z_lex_Word m)) fun x12 m =>
  bp (unt (aStore 3 x12 x11 m)) fun _ m =>
  bp (pur (aFieldAddr 1 x12) m) fun x13 m =>
  bp (pur (aFieldAddr 0 x13) m) fun x14 m =>
  bp (pur (aLoad false 1 x14 m) m) fun x15 m =>
  bp (pur (aFieldAddr 1 x12) m) fun x16 m =>
  bp (pur (aFieldAddr 1 x16) m) fun x17 m =>
  bp (pur (aLoad false 1 x17 m) m) fun x18 m =>
  bp (pur (aFieldAddr 0 x12) m) fun x19 m =>
  bp (pur (aLoad false 1 x19 m) m) fun x20 m =>
  bp (pur (lenK 0 x20 m) m) fun x21 m =>
  bp (pur (bin .add false true .int x18 x21) m) fun x22 m =>
  bp (pur (aBuild z_api_Pos [(0, 1), (1, 1)] [(0, x15), (1, x22)]) m) fun x23 m =>
  bp (G.tab F_Pflat_cursor_fail [p0, x23, (.int .i64 130)] m) fun x24 m =>
  some ((.string ⟨#[]⟩), m))
    (bp (pur (aNilCheck p0) m) fun x25 m =>
  bp (pur (aFieldAddr 1 x25) m) fun x26 m =>
  bp (pur (aLoad false 1 x26 m) m) fun x27 m =>
  bp (pur (bin .add true true .int x27 (.int .i64 1)) m) fun x28 m =>
  bp (pur (aNilCheck p0) m) fun x29 m =>
  bp (pur (aFieldAddr 1 x29) m) fun x30 m =>
  bp (unt (aStore 1 x30 x28 m)) fun _ m =>
  bp (pur (aNilCheck p0) m) fun x31 m =>
  bp (pur (aFieldAddr 0 x31) m) fun x32 m =>
  bp (pur (aLoad false 1 x32 m) m) fun x33 m =>
  bp (pur (aNilCheck p0) m) fun x34 m =>
  bp (pur (aFieldAddr 1 x34) m) fun x35 m =>
  bp (pur (aLoad false 1 x35 m) m) fun x36 m =>
  bp (pur (bin .sub true true .int x36 (.int .i64 1)) m) fun x37 m =>
  bp (pur (aIndexAddrSl 3 x33 x37) m) fun x38 m =>
  bp (pur (aFieldAddr 0 x38) m) fun x39 m =>
  bp (pur (aLoad false 1 x39 m) m) fun x40 m =>
  some (x40, m))
theorem e_Pflat_cursor_word (G : Gt) (a0 : Value) (m : Mem) : evFn Go.Proofs.Tryz.prog G.tab G.rds (drOf Go.Proofs.Tryz.prog G.tab) Go.Proofs.Tryz.f39 [a0] m = s_Pflat_cursor_word G a0 m :=
  evFn_of (r := fun ρ m => s_Pflat_cursor_word G (ρ 0) m) rfl rfl (fun ρ m => by kernel_rfl) m
noncomputable def E_Pflat_cursor_word : Entry Go.Proofs.Tryz.prog := ⟨F_Pflat_cursor_word, Go.Proofs.Tryz.f39, Go.Proofs.Tryz.func39, by kernel_rfl, arg1 (fun G a0 m => s_Pflat_cursor_word G a0 m), okarg1 e_Pflat_cursor_word⟩
/-! 40 (*waymark/flat.cursor).name -/
noncomputable def s_Pflat_cursor_name_2 (G : Gt) (p3 : Value) (m : Mem) : Option Rs :=
  some (p3, m)
noncomputable def s_Pflat_cursor_name_1 (G : Gt) (p3 p0 : Value) (m : Mem) : Option Rs :=
  bp (G.tab F_lex_Name [p3] m) fun x0 m =>
  bp (pur (un .not x0) m) fun x1 m =>
  brb x1
    (bp (G.tab F_Pflat_cursor_bad [p0, (.int .i64 130)] m) fun x2 m =>
  s_Pflat_cursor_name_2 G p3 m)
    (s_Pflat_cursor_name_2 G p3 m)
noncomputable def s_Pflat_cursor_name_0 (G : Gt) (p0 : Value) (m : Mem) : Option Rs :=
  bp (G.tab F_Pflat_cursor_word [p0] m) fun x3 m =>
  s_Pflat_cursor_name_1 G x3 p0 m
noncomputable def s_Pflat_cursor_name (G : Gt) (p0 : Value) (m : Mem) : Option Rs :=
  s_Pflat_cursor_name_0 G p0 m
theorem e_Pflat_cursor_name (G : Gt) (a0 : Value) (m : Mem) : evFn Go.Proofs.Tryz.prog G.tab G.rds (drOf Go.Proofs.Tryz.prog G.tab) Go.Proofs.Tryz.f40 [a0] m = s_Pflat_cursor_name G a0 m :=
  evFn_of (r := fun ρ m => s_Pflat_cursor_name G (ρ 0) m) rfl rfl (tr (seqQ (f := fun ρ m => s_Pflat_cursor_name_0 G (ρ 0) m) (tr (seqQ (f := fun ρ m => s_Pflat_cursor_name_1 G (ρ 3) (ρ 0) m) (tr (seqQ (f := fun ρ m => s_Pflat_cursor_name_2 G (ρ 3) m) (fun ρ m => by kernel_rfl)) (fun ρ m => by kernel_rfl))) (fun ρ m => by kernel_rfl))) (fun ρ m => by kernel_rfl)) m
noncomputable def E_Pflat_cursor_name : Entry Go.Proofs.Tryz.prog := ⟨F_Pflat_cursor_name, Go.Proofs.Tryz.f40, Go.Proofs.Tryz.func40, by kernel_rfl, arg1 (fun G a0 m => s_Pflat_cursor_name G a0 m), okarg1 e_Pflat_cursor_name⟩
/-! 41 (*waymark/flat.parser).single -/
noncomputable def s_Pflat_parser_single_1 (G : Gt) (p0 p4 : Value) (m : Mem) : Option Rs :=
  bp (pur (aNilCheck p0) m) fun x0 m =>
  bp (pur (aFieldAddr 14 x0) m) fun x1 m =>
  bp (pur (aLoad false 1 x1 m) m) fun x2 m =>
  bp (unt (aMapUpdate .str x2 p4 (.bool true) m)) fun _ m =>
  some (.tuple ⟨[]⟩, m)
noncomputable def s_Pflat_parser_single_0 (G : Gt) (p0 p4 : Value) (m : Mem) : Option Rs :=
  bp (pur (aNilCheck p0) m) fun x3 m =>
  bp (pur (aFieldAddr 15 x3) m) fun x4 m =>
  bp (pur (aLoad false 1 x4 m) m) fun x5 m =>
  brb x5
    (bp (pur (aNilCheck p0) m) fun x6 m =>
  bp (pur (aFieldAddr 15 x6) m) fun x7 m =>
  bp (unt (aStore 1 x7 (.bool true) m)) fun _ m =>
  s_Pflat_parser_single_1 G p0 p4 m)
    (bp (pur (aNilCheck p0) m) fun x8 m =>
  bp (pur (aFieldAddr 14 x8) m) fun x9 m =>
  bp (pur (aLoad false 1 x9 m) m) fun x10 m =>
  bp (pur (aLookup .str (.bool false) false x10 p4 m) m) fun x11 m =>
  bp (pur (aNilCheck p0) m) fun x12 m =>
  bp (pur (aFieldAddr 15 x12) m) fun x13 m =>
  bp (unt (aStore 1 x13 x11 m)) fun _ m =>
  s_Pflat_parser_single_1 G p0 p4 m)
noncomputable def s_Pflat_parser_single (G : Gt) (p1 p0 : Value) (m : Mem) : Option Rs :=
  bp (G.tab F_strings_Join [p1, (.string ⟨#[32]⟩)] m) fun x14 m =>
  s_Pflat_parser_single_0 G p0 x14 m
theorem e_Pflat_parser_single (G : Gt) (a0 a1 : Value) (m : Mem) : evFn Go.Proofs.Tryz.prog G.tab G.rds (drOf Go.Proofs.Tryz.prog G.tab) Go.Proofs.Tryz.f41 [a0, a1] m = s_Pflat_parser_single G a1 a0 m :=
  evFn_of (r := fun ρ m => s_Pflat_parser_single G (ρ 1) (ρ 0) m) rfl rfl (tr (seqQ (f := fun ρ m => s_Pflat_parser_single_0 G (ρ 0) (ρ 4) m) (tr (seqQ (f := fun ρ m => s_Pflat_parser_single_1 G (ρ 0) (ρ 4) m) (fun ρ m => by kernel_rfl)) (fun ρ m => by kernel_rfl))) (fun ρ m => by kernel_rfl)) m
noncomputable def E_Pflat_parser_single : Entry Go.Proofs.Tryz.prog := ⟨F_Pflat_parser_single, Go.Proofs.Tryz.f41, Go.Proofs.Tryz.func41, by kernel_rfl, arg2 (fun G a0 a1 m => s_Pflat_parser_single G a1 a0 m), okarg2 e_Pflat_parser_single⟩
/-! 42 (*waymark/flat.parser).open -/
noncomputable def s_Pflat_parser_open (G : Gt) (p0 p2 p1 : Value) (m : Mem) : Option Rs :=
  bp (G.tab F_Pflat_parser_single [p0, p2] m) fun x0 m =>
  bp (G.tab F_strings_Join [p2, (.string ⟨#[32]⟩)] m) fun x1 m =>
  bp (pur (aNilCheck p0) m) fun x2 m =>
  bp (pur (aFieldAddr 12 x2) m) fun x3 m =>
  bp (unt (aStore 1 x3 p1 m)) fun _ m =>
  bp (pur (aNilCheck p0) m) fun x4 m =>
  bp (pur (aFieldAddr 13 x4) m) fun x5 m =>
  bp (unt (aStore 1 x5 x1 m)) fun _ m =>
  some (.tuple ⟨[]⟩, m)
theorem e_Pflat_parser_open (G : Gt) (a0 a1 a2 : Value) (m : Mem) : evFn Go.Proofs.Tryz.prog G.tab G.rds (drOf Go.Proofs.Tryz.prog G.tab) Go.Proofs.Tryz.f42 [a0, a1, a2] m = s_Pflat_parser_open G a0 a2 a1 m :=
  evFn_of (r := fun ρ m => s_Pflat_parser_open G (ρ 0) (ρ 2) (ρ 1) m) rfl rfl (fun ρ m => by kernel_rfl) m
noncomputable def E_Pflat_parser_open : Entry Go.Proofs.Tryz.prog := ⟨F_Pflat_parser_open, Go.Proofs.Tryz.f42, Go.Proofs.Tryz.func42, by kernel_rfl, arg3 (fun G a0 a1 a2 m => s_Pflat_parser_open G a0 a2 a1 m), okarg3 e_Pflat_parser_open⟩
end Go.Ab.Sh
