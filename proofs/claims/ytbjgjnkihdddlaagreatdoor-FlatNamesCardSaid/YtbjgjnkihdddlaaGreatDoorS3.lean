/-
  Functions of the program as plain definitions, each with the theorem that it is what the evaluator makes of the code. No conditions.
-/
import Derived.Test.YtbjgjnkihdddlaaGreatDoorAb4
import Derived.Test.YtbjgjnkihdddlaaGreatDoorZ
import Derived.KernelRfl
import Derived.Test.YtbjgjnkihdddlaaGreatDoorProg
set_option linter.unusedVariables false
set_option maxRecDepth 100000
namespace Go.Ab.Sh
open Go Go.Ab
/-! 16 (*waymark/flat.writer).line -/
noncomputable def s_Pflat_writer_line_2 (G : Gt) (p0 : Value) (m : Mem) : Option Rs :=
  bp (pur (aNilCheck p0) m) fun x0 m =>
  bp (pur (aFieldAddr 0 x0) m) fun x1 m =>
  bp (G.tab F_Pstrings_Builder_WriteByte [x1, (.int .u8 10)] m) fun x2 m =>
  some (.tuple ⟨[]⟩, m)
noncomputable def s_Pflat_writer_line_7 (G : Gt) (k0 : Value → Value → Value → Value → Value → Mem → Option Rs) (p16 p15 p14 p6 p0 : Value) (m : Mem) : Option Rs :=
  bp (pur (bin .add true true .int p16 (.int .i64 1)) m) fun x3 m =>
  k0 x3 p15 p14 p6 p0 m
noncomputable def s_Pflat_writer_line_10 (G : Gt) (k0 : Value → Value → Value → Value → Value → Mem → Option Rs) (p0 p8 p16 p15 p14 : Value) (m : Mem) : Option Rs :=
  bp (pur (aNilCheck p0) m) fun x4 m =>
  bp (pur (aFieldAddr 0 x4) m) fun x5 m =>
  bp (G.tab F_Pstrings_Builder_WriteString [x5, p8] m) fun x6 m =>
  s_Pflat_writer_line_7 G k0 p16 p15 p14 (.bool false) p0 m
noncomputable def s_Pflat_writer_line_9 (G : Gt) (k0 : Value → Value → Value → Value → Value → Mem → Option Rs) (p6 p0 p8 p16 p15 p14 : Value) (m : Mem) : Option Rs :=
  bp (pur (un .not p6) m) fun x7 m =>
  brb x7
    (bp (pur (aNilCheck p0) m) fun x8 m =>
  bp (pur (aFieldAddr 0 x8) m) fun x9 m =>
  bp (G.tab F_Pstrings_Builder_WriteByte [x9, (.int .u8 32)] m) fun x10 m =>
  s_Pflat_writer_line_10 G k0 p0 p8 p16 p15 p14 m)
    (s_Pflat_writer_line_10 G k0 p0 p8 p16 p15 p14 m)
noncomputable def s_Pflat_writer_line_8 (G : Gt) (k0 : Value → Value → Value → Value → Value → Mem → Option Rs) (p8 p16 p15 p14 p6 p0 : Value) (m : Mem) : Option Rs :=
  bp (pur (bin .eql true true .str p8 (.string ⟨#[]⟩)) m) fun x11 m =>
  brb x11
    (s_Pflat_writer_line_7 G k0 p16 p15 p14 p6 p0 m)
    (s_Pflat_writer_line_9 G k0 p6 p0 p8 p16 p15 p14 m)
noncomputable def s_Pflat_writer_line_6 (G : Gt) (k0 : Value → Value → Value → Value → Value → Mem → Option Rs) (p14 p16 p15 p6 p0 : Value) (m : Mem) : Option Rs :=
  bp (pur (aIndexAddrSl 1 p14 p16) m) fun x12 m =>
  bp (pur (aLoad false 1 x12 m) m) fun x13 m =>
  s_Pflat_writer_line_8 G k0 x13 p16 p15 p14 p6 p0 m
noncomputable def s_Pflat_writer_line_5 (G : Gt) (k0 : Value → Value → Value → Value → Value → Mem → Option Rs) (p17 p14 p16 p15 p6 p0 : Value) (m : Mem) : Option Rs :=
  brb p17
    (s_Pflat_writer_line_6 G k0 p14 p16 p15 p6 p0 m)
    (s_Pflat_writer_line_2 G p0 m)
noncomputable def s_Pflat_writer_line_4 (G : Gt) : Nat → Value → Value → Value → Value → Value → Mem → Option Rs
  | 0, _, _, _, _, _, _ => none
  | i + 1, p16, p15, p14, p6, p0, m =>
  bp (pur (bin .lss false true .int p16 p15) m) fun x14 m =>
  s_Pflat_writer_line_5 G (s_Pflat_writer_line_4 G i) x14 p14 p16 p15 p6 p0 m
noncomputable def s_Pflat_writer_line_3 (G : Gt) (p16 p15 p14 p6 p0 : Value) (m : Mem) : Option Rs :=
  s_Pflat_writer_line_4 G G.rds p16 p15 p14 p6 p0 m
noncomputable def s_Pflat_writer_line_1 (G : Gt) (p2 p6 p0 : Value) (m : Mem) : Option Rs :=
  bp (pur (lenK 1 p2 m) m) fun x15 m =>
  s_Pflat_writer_line_3 G (.int .i64 0) x15 p2 p6 p0 m
noncomputable def s_Pflat_writer_line_0 (G : Gt) (p2 p0 : Value) (m : Mem) : Option Rs :=
  s_Pflat_writer_line_1 G p2 (.bool true) p0 m
noncomputable def s_Pflat_writer_line (G : Gt) (p0 p1 p2 : Value) (m : Mem) : Option Rs :=
  bp (pur (aNilCheck p0) m) fun x16 m =>
  bp (pur (aFieldAddr 0 x16) m) fun x17 m =>
  bp (G.tab F_Pstrings_Builder_WriteString [x17, p1] m) fun x18 m =>
  s_Pflat_writer_line_0 G p2 p0 m
theorem e_Pflat_writer_line (G : Gt) (a0 a1 a2 : Value) (m : Mem) : evFn Go.Proofs.Tryz.prog G.tab G.rds (drOf Go.Proofs.Tryz.prog G.tab) Go.Proofs.Tryz.f16 [a0, a1, a2] m = s_Pflat_writer_line G a0 a1 a2 m :=
  evFn_of (r := fun ρ m => s_Pflat_writer_line G (ρ 0) (ρ 1) (ρ 2) m) rfl rfl (tr (seqQ (f := fun ρ m => s_Pflat_writer_line_0 G (ρ 2) (ρ 0) m) (tr (seqQ (f := fun ρ m => s_Pflat_writer_line_1 G (ρ 2) (ρ 6) (ρ 0) m) (tr (tr (seqQ (f := fun ρ m => s_Pflat_writer_line_2 G (ρ 0) m) (fun ρ m => by kernel_rfl)) (seqQ (f := fun ρ m => s_Pflat_writer_line_3 G (ρ 16) (ρ 15) (ρ 14) (ρ 6) (ρ 0) m) (tr (blockQ (loopQ (fun i ρ m => s_Pflat_writer_line_4 G i (ρ 16) (ρ 15) (ρ 14) (ρ 6) (ρ 0) m) (fun _ _ => rfl) (fun i0 => tr (seqQ (f := fun ρ m => s_Pflat_writer_line_5 G (s_Pflat_writer_line_4 G i0) (ρ 17) (ρ 14) (ρ 16) (ρ 15) (ρ 6) (ρ 0) m) (tr (seqQ (f := fun ρ m => s_Pflat_writer_line_6 G (s_Pflat_writer_line_4 G i0) (ρ 14) (ρ 16) (ρ 15) (ρ 6) (ρ 0) m) (tr (tr (seqQ (f := fun ρ m => s_Pflat_writer_line_7 G (s_Pflat_writer_line_4 G i0) (ρ 16) (ρ 15) (ρ 14) (ρ 6) (ρ 0) m) (fun ρ m => by kernel_rfl)) (blockQ (seqQ (f := fun ρ m => s_Pflat_writer_line_8 G (s_Pflat_writer_line_4 G i0) (ρ 8) (ρ 16) (ρ 15) (ρ 14) (ρ 6) (ρ 0) m) (tr (seqQ (f := fun ρ m => s_Pflat_writer_line_9 G (s_Pflat_writer_line_4 G i0) (ρ 6) (ρ 0) (ρ 8) (ρ 16) (ρ 15) (ρ 14) m) (tr (seqQ (f := fun ρ m => s_Pflat_writer_line_10 G (s_Pflat_writer_line_4 G i0) (ρ 0) (ρ 8) (ρ 16) (ρ 15) (ρ 14) m) (fun ρ m => by kernel_rfl)) (fun ρ m => by kernel_rfl))) (fun ρ m => by kernel_rfl))))) (fun ρ m => by kernel_rfl))) (fun ρ m => by kernel_rfl))) (fun ρ m => by kernel_rfl)))) (fun ρ m => by kernel_rfl)))) (fun ρ m => by kernel_rfl))) (fun ρ m => by kernel_rfl))) (fun ρ m => by kernel_rfl)) m
noncomputable def E_Pflat_writer_line : Entry Go.Proofs.Tryz.prog := ⟨F_Pflat_writer_line, Go.Proofs.Tryz.f16, Go.Proofs.Tryz.func16, by kernel_rfl, arg3 (fun G a0 a1 a2 m => s_Pflat_writer_line G a0 a1 a2 m), okarg3 e_Pflat_writer_line⟩
/-! 17 (*waymark/flat.writer).iface -/
noncomputable def s_Pflat_writer_iface_6 (G : Gt) (k0 : Value → Value → Value → Value → Mem → Option Rs) (p77 p76 p75 p0 : Value) (m : Mem) : Option Rs :=
  bp (pur (bin .add true true .int p77 (.int .i64 1)) m) fun x0 m =>
  k0 x0 p76 p75 p0 m
noncomputable def s_Pflat_writer_iface_5 (G : Gt) (k0 : Value → Value → Value → Value → Mem → Option Rs) (p75 p77 p0 p76 : Value) (m : Mem) : Option Rs :=
  bp (pur (aIndexAddrSl 2 p75 p77) m) fun x1 m =>
  bp (pur (aLoad true 2 x1 m) m) fun x2 m =>
  bp (some (aNew T_struct_K_is_bool__words_string_K z_struct_K_is_bool__words_string_K m)) fun x3 m =>
  bp (unt (aStore 2 x3 x2 m)) fun _ m =>
  bp (pur (aFieldAddr 0 x3) m) fun x4 m =>
  bp (pur (aLoad false 1 x4 m) m) fun x5 m =>
  brb x5
    (bp (pur (aFieldAddr 1 x3) m) fun x6 m =>
  bp (pur (aLoad false 1 x6 m) m) fun x7 m =>
  bp (aBuildSlice T_string [(.string ⟨#[]⟩)] 1 1 [(0, x7)] m) fun x8 m =>
  bp (G.tab F_Pflat_writer_line [p0, (.string ⟨#[32]⟩), x8] m) fun x9 m =>
  s_Pflat_writer_iface_6 G k0 p77 p76 p75 p0 m)
    (s_Pflat_writer_iface_6 G k0 p77 p76 p75 p0 m)
noncomputable def s_Pflat_writer_iface_4 (G : Gt) (k0 : Value → Value → Value → Value → Mem → Option Rs) (p78 p75 p77 p0 p76 : Value) (m : Mem) : Option Rs :=
  brb p78
    (s_Pflat_writer_iface_5 G k0 p75 p77 p0 p76 m)
    (some (.tuple ⟨[]⟩, m))
noncomputable def s_Pflat_writer_iface_3 (G : Gt) : Nat → Value → Value → Value → Value → Mem → Option Rs
  | 0, _, _, _, _, _ => none
  | i + 1, p77, p76, p75, p0, m =>
  bp (pur (bin .lss false true .int p77 p76) m) fun x10 m =>
  s_Pflat_writer_iface_4 G (s_Pflat_writer_iface_3 G i) x10 p75 p77 p0 p76 m
noncomputable def s_Pflat_writer_iface_2 (G : Gt) (p77 p76 p75 p0 : Value) (m : Mem) : Option Rs :=
  s_Pflat_writer_iface_3 G G.rds p77 p76 p75 p0 m
noncomputable def s_Pflat_writer_iface_1 (G : Gt) (p3 p0 : Value) (m : Mem) : Option Rs :=
  bp (pur (aFieldAddr 1 p3) m) fun x11 m =>
  bp (pur (aLoad false 1 x11 m) m) fun x12 m =>
  bp (pur (bin .neq true true .str x12 (.string ⟨#[]⟩)) m) fun x13 m =>
  bp (pur (aFieldAddr 1 p3) m) fun x14 m =>
  bp (pur (aLoad false 1 x14 m) m) fun x15 m =>
  bp (pur (bin .add true true .str (.string ⟨#[118, 114, 102, 32]⟩) x15) m) fun x16 m =>
  bp (pur (aBuild z_struct_K_is_bool__words_string_K [(0, 1), (1, 1)] [(0, x13), (1, x16)]) m) fun x17 m =>
  bp (pur (aFieldAddr 3 p3) m) fun x18 m =>
  bp (pur (aLoad false 1 x18 m) m) fun x19 m =>
  bp (pur (bin .gtr true true .int x19 (.int .i64 0)) m) fun x20 m =>
  bp (pur (aFieldAddr 2 p3) m) fun x21 m =>
  bp (pur (aLoad false 1 x21 m) m) fun x22 m =>
  bp (pur (aFieldAddr 3 p3) m) fun x23 m =>
  bp (pur (aLoad false 1 x23 m) m) fun x24 m =>
  bp (pur (aFieldAddr 5 p3) m) fun x25 m =>
  bp (pur (aLoad false 1 x25 m) m) fun x26 m =>
  bp (pur (bin .neq true true .str x26 (.string ⟨#[]⟩)) m) fun x27 m =>
  bp (pur (aFieldAddr 5 p3) m) fun x28 m =>
  bp (pur (aLoad false 1 x28 m) m) fun x29 m =>
  bp (pur (bin .add true true .str (.string ⟨#[102, 105, 108, 116, 101, 114, 32]⟩) x29) m) fun x30 m =>
  bp (pur (bin .add true true .str x30 (.string ⟨#[32, 105, 110]⟩)) m) fun x31 m =>
  bp (pur (aBuild z_struct_K_is_bool__words_string_K [(0, 1), (1, 1)] [(0, x27), (1, x31)]) m) fun x32 m =>
  bp (pur (aFieldAddr 6 p3) m) fun x33 m =>
  bp (pur (aLoad false 1 x33 m) m) fun x34 m =>
  bp (pur (bin .neq true true .str x34 (.string ⟨#[]⟩)) m) fun x35 m =>
  bp (pur (aFieldAddr 6 p3) m) fun x36 m =>
  bp (pur (aLoad false 1 x36 m) m) fun x37 m =>
  bp (pur (bin .add true true .str (.string ⟨#[102, 105, 108, 116, 101, 114, 32]⟩) x37) m) fun x38 m =>
  bp (pur (bin .add true true .str x38 (.string ⟨#[32, 111, 117, 116]⟩)) m) fun x39 m =>
  bp (pur (aBuild z_struct_K_is_bool__words_string_K [(0, 1), (1, 1)] [(0, x35), (1, x39)]) m) fun x40 m =>
  bp (pur (aFieldAddr 7 p3) m) fun x41 m =>
  bp (pur (aLoad false 1 x41 m) m) fun x42 m =>
  bp (pur (bin .neq true true .int x42 (.int .u8 0)) m) fun x43 m =>
  bp (pur (aFieldAddr 7 p3) m) fun x44 m =>
  bp (pur (aLoad false 1 x44 m) m) fun x45 m =>
  bp (pur (bin .eql true true .int x45 (.int .u8 1)) m) fun x46 m =>
  bp (pur (aFieldAddr 8 p3) m) fun x47 m =>
  bp (pur (aLoad false 1 x47 m) m) fun x48 m =>
  bp (pur (bin .geq true true .int x48 (.int .i64 0)) m) fun x49 m =>
  bp (pur (aFieldAddr 8 p3) m) fun x50 m =>
  bp (pur (aLoad false 1 x50 m) m) fun x51 m =>
  bp (pur (aFieldAddr 9 p3) m) fun x52 m =>
  bp (pur (aLoad false 1 x52 m) m) fun x53 m =>
  bp (pur (aFieldAddr 10 p3) m) fun x54 m =>
  bp (pur (aLoad false 1 x54 m) m) fun x55 m =>
  bp (pur (aBuild z_struct_K_is_bool__words_string_K [(0, 1), (1, 1)] [(0, x55), (1, (.string ⟨#[111, 115, 112, 102, 32, 112, 97, 115, 115, 105, 118, 101]⟩))]) m) fun x56 m =>
  bp (pur (aFieldAddr 4 p3) m) fun x57 m =>
  bp (pur (aLoad false 1 x57 m) m) fun x58 m =>
  bp (pur (aBuild z_struct_K_is_bool__words_string_K [(0, 1), (1, 1)] [(0, x58), (1, (.string ⟨#[115, 104, 117, 116, 100, 111, 119, 110]⟩))]) m) fun x59 m =>
  bp (G.tab F_addr_Text [x22] m) fun x60 m =>
  ckB (again (pur (aLoad false 1 x11 m) m) x12 && (again (pur (aLoad false 1 x14 m) m) x15 && (again (pur (aLoad false 1 x18 m) m) x19 && (again (pur (aLoad false 1 x23 m) m) x24 && (again (pur (aLoad false 1 x25 m) m) x26 && (again (pur (aLoad false 1 x28 m) m) x29 && (again (pur (aLoad false 1 x33 m) m) x34 && (again (pur (aLoad false 1 x36 m) m) x37 && (again (pur (aLoad false 1 x41 m) m) x42 && (again (pur (aLoad false 1 x44 m) m) x45 && (again (pur (aLoad false 1 x47 m) m) x48 && (again (pur (aLoad false 1 x50 m) m) x51 && (again (pur (aLoad false 1 x52 m) m) x53 && (again (pur (aLoad false 1 x54 m) m) x55 && (again (pur (aLoad false 1 x57 m) m) x58 && true)))))))))))))))
    (bp (pur (bin .add true true .str (.string ⟨#[97, 100, 100, 114, 101, 115, 115, 32]⟩) x60) m) fun x61 m =>
  bp (pur (bin .add true true .str x61 (.string ⟨#[32]⟩)) m) fun x62 m =>
  bp (G.tab F_flat_mask [x24, (.bool false)] m) fun x63 m =>
  ckB (again (pur (aLoad false 1 x11 m) m) x12 && (again (pur (aLoad false 1 x14 m) m) x15 && (again (pur (aLoad false 1 x18 m) m) x19 && (again (pur (aLoad false 1 x25 m) m) x26 && (again (pur (aLoad false 1 x28 m) m) x29 && (again (pur (aLoad false 1 x33 m) m) x34 && (again (pur (aLoad false 1 x36 m) m) x37 && (again (pur (aLoad false 1 x41 m) m) x42 && (again (pur (aLoad false 1 x44 m) m) x45 && (again (pur (aLoad false 1 x47 m) m) x48 && (again (pur (aLoad false 1 x50 m) m) x51 && (again (pur (aLoad false 1 x52 m) m) x53 && (again (pur (aLoad false 1 x54 m) m) x55 && (again (pur (aLoad false 1 x57 m) m) x58 && true))))))))))))))
    (bp (pur (bin .add false true .str x62 x63) m) fun x64 m =>
  bp (pur (aBuild z_struct_K_is_bool__words_string_K [(0, 1), (1, 1)] [(0, x20), (1, x64)]) m) fun x65 m =>
  bp (G.tab F_flat_yes [x46, (.string ⟨#[105, 110, 115, 105, 100, 101]⟩), (.string ⟨#[111, 117, 116, 115, 105, 100, 101]⟩)] m) fun x66 m =>
  ckB (again (pur (aLoad false 1 x11 m) m) x12 && (again (pur (aLoad false 1 x14 m) m) x15 && (again (pur (aLoad false 1 x18 m) m) x19 && (again (pur (aLoad false 1 x25 m) m) x26 && (again (pur (aLoad false 1 x28 m) m) x29 && (again (pur (aLoad false 1 x33 m) m) x34 && (again (pur (aLoad false 1 x36 m) m) x37 && (again (pur (aLoad false 1 x41 m) m) x42 && (again (pur (aLoad false 1 x47 m) m) x48 && (again (pur (aLoad false 1 x50 m) m) x51 && (again (pur (aLoad false 1 x52 m) m) x53 && (again (pur (aLoad false 1 x54 m) m) x55 && (again (pur (aLoad false 1 x57 m) m) x58 && true)))))))))))))
    (bp (pur (bin .add true true .str (.string ⟨#[110, 97, 116, 32]⟩) x66) m) fun x67 m =>
  bp (pur (aBuild z_struct_K_is_bool__words_string_K [(0, 1), (1, 1)] [(0, x43), (1, x67)]) m) fun x68 m =>
  bp (G.tab F_flat_number [x51] m) fun x69 m =>
  ckB (again (pur (aLoad false 1 x11 m) m) x12 && (again (pur (aLoad false 1 x14 m) m) x15 && (again (pur (aLoad false 1 x18 m) m) x19 && (again (pur (aLoad false 1 x25 m) m) x26 && (again (pur (aLoad false 1 x28 m) m) x29 && (again (pur (aLoad false 1 x33 m) m) x34 && (again (pur (aLoad false 1 x36 m) m) x37 && (again (pur (aLoad false 1 x41 m) m) x42 && (again (pur (aLoad false 1 x47 m) m) x48 && (again (pur (aLoad false 1 x52 m) m) x53 && (again (pur (aLoad false 1 x54 m) m) x55 && (again (pur (aLoad false 1 x57 m) m) x58 && true))))))))))))
    (bp (pur (bin .add true true .str (.string ⟨#[111, 115, 112, 102, 32, 97, 114, 101, 97, 32]⟩) x69) m) fun x70 m =>
  bp (pur (aBuild z_struct_K_is_bool__words_string_K [(0, 1), (1, 1)] [(0, x49), (1, x70)]) m) fun x71 m =>
  bp (G.tab F_flat_number [x53] m) fun x72 m =>
  ckB (again (pur (aLoad false 1 x11 m) m) x12 && (again (pur (aLoad false 1 x14 m) m) x15 && (again (pur (aLoad false 1 x18 m) m) x19 && (again (pur (aLoad false 1 x25 m) m) x26 && (again (pur (aLoad false 1 x28 m) m) x29 && (again (pur (aLoad false 1 x33 m) m) x34 && (again (pur (aLoad false 1 x36 m) m) x37 && (again (pur (aLoad false 1 x41 m) m) x42 && (again (pur (aLoad false 1 x47 m) m) x48 && (again (pur (aLoad false 1 x54 m) m) x55 && (again (pur (aLoad false 1 x57 m) m) x58 && true)))))))))))
    (bp (pur (bin .add true true .str (.string ⟨#[111, 115, 112, 102, 32, 99, 111, 115, 116, 32]⟩) x72) m) fun x73 m =>
  bp (pur (aBuild z_struct_K_is_bool__words_string_K [(0, 1), (1, 1)] [(0, (.bool true)), (1, x73)]) m) fun x74 m =>
  bp (aBuildSlice T_struct_K_is_bool__words_string_K z_struct_K_is_bool__words_string_K 2 9 [(0, x17), (1, x65), (2, x32), (3, x40), (4, x68), (5, x71), (6, x74), (7, x56), (8, x59)] m) fun x75 m =>
  bp (pur (lenK 1 x75 m) m) fun x76 m =>
  s_Pflat_writer_iface_2 G (.int .i64 0) x76 x75 p0 m)))))
noncomputable def s_Pflat_writer_iface_0 (G : Gt) (p0 p3 : Value) (m : Mem) : Option Rs :=
  bp (pur (aFieldAddr 0 p3) m) fun x77 m =>
  bp (pur (aLoad false 1 x77 m) m) fun x78 m =>
  bp (aBuildSlice T_string [(.string ⟨#[]⟩)] 1 2 [(0, (.string ⟨#[105, 110, 116, 101, 114, 102, 97, 99, 101]⟩)), (1, x78)] m) fun x79 m =>
  bp (G.tab F_Pflat_writer_line [p0, (.string ⟨#[]⟩), x79] m) fun x80 m =>
  s_Pflat_writer_iface_1 G p3 p0 m
noncomputable def s_Pflat_writer_iface (G : Gt) (p1 p0 : Value) (m : Mem) : Option Rs :=
  bp (some (aNew T_api_Iface (Value.cells p1).toList m)) fun x81 m =>
  s_Pflat_writer_iface_0 G p0 x81 m
theorem e_Pflat_writer_iface (G : Gt) (a0 a1 : Value) (m : Mem) : evFn Go.Proofs.Tryz.prog G.tab G.rds (drOf Go.Proofs.Tryz.prog G.tab) Go.Proofs.Tryz.f17 [a0, a1] m = s_Pflat_writer_iface G a1 a0 m :=
  evFn_of (r := fun ρ m => s_Pflat_writer_iface G (ρ 1) (ρ 0) m) rfl rfl (tr (seqQ (f := fun ρ m => s_Pflat_writer_iface_0 G (ρ 0) (ρ 3) m) (tr (seqQ (f := fun ρ m => s_Pflat_writer_iface_1 G (ρ 3) (ρ 0) m) (tr (seqQ (f := fun ρ m => s_Pflat_writer_iface_2 G (ρ 77) (ρ 76) (ρ 75) (ρ 0) m) (tr (blockQ (loopQ (fun i ρ m => s_Pflat_writer_iface_3 G i (ρ 77) (ρ 76) (ρ 75) (ρ 0) m) (fun _ _ => rfl) (fun i0 => tr (seqQ (f := fun ρ m => s_Pflat_writer_iface_4 G (s_Pflat_writer_iface_3 G i0) (ρ 78) (ρ 75) (ρ 77) (ρ 0) (ρ 76) m) (tr (seqQ (f := fun ρ m => s_Pflat_writer_iface_5 G (s_Pflat_writer_iface_3 G i0) (ρ 75) (ρ 77) (ρ 0) (ρ 76) m) (tr (seqQ (f := fun ρ m => s_Pflat_writer_iface_6 G (s_Pflat_writer_iface_3 G i0) (ρ 77) (ρ 76) (ρ 75) (ρ 0) m) (fun ρ m => by kernel_rfl)) (fun ρ m => by kernel_rfl))) (fun ρ m => by kernel_rfl))) (fun ρ m => by kernel_rfl)))) (fun ρ m => by kernel_rfl))) (fun ρ m => by kernel_rfl))) (fun ρ m => by kernel_rfl))) (fun ρ m => by kernel_rfl)) m
noncomputable def E_Pflat_writer_iface : Entry Go.Proofs.Tryz.prog := ⟨F_Pflat_writer_iface, Go.Proofs.Tryz.f17, Go.Proofs.Tryz.func17, by kernel_rfl, arg2 (fun G a0 a1 m => s_Pflat_writer_iface G a1 a0 m), okarg2 e_Pflat_writer_iface⟩
/-! 18 (*waymark/flat.writer).rule -/
noncomputable def s_Pflat_writer_rule (G : Gt) (p1 p0 : Value) (m : Mem) : Option Rs :=
  bp (some (aNew T_api_Rule (Value.cells p1).toList m)) fun x0 m =>
  bp (pur (aFieldAddr 0 x0) m) fun x1 m =>
  bp (pur (aLoad false 1 x1 m) m) fun x2 m =>
  bp (pur (aFieldAddr 1 x0) m) fun x3 m =>
  bp (pur (aLoad false 1 x3 m) m) fun x4 m =>
  bp (pur (bin .lss true true .int x4 (.int .i64 0)) m) fun x5 m =>
  bp (pur (aFieldAddr 1 x0) m) fun x6 m =>
  bp (pur (aLoad false 1 x6 m) m) fun x7 m =>
  bp (pur (aFieldAddr 2 x0) m) fun x8 m =>
  bp (pur (aLoad true 2 x8 m) m) fun x9 m =>
  bp (pur (aFieldAddr 6 x0) m) fun x10 m =>
  bp (pur (aLoad true 2 x10 m) m) fun x11 m =>
  bp (pur (aFieldAddr 4 x0) m) fun x12 m =>
  bp (pur (aLoad true 2 x12 m) m) fun x13 m =>
  bp (pur (aFieldAddr 8 x0) m) fun x14 m =>
  bp (pur (aLoad true 2 x14 m) m) fun x15 m =>
  bp (G.tab F_flat_yes [x2, (.string ⟨#[112, 101, 114, 109, 105, 116]⟩), (.string ⟨#[100, 101, 110, 121]⟩)] m) fun x16 m =>
  ckB (again (pur (aLoad false 1 x3 m) m) x4 && (again (pur (aLoad false 1 x6 m) m) x7 && (again (pur (aLoad true 2 x8 m) m) x9 && (again (pur (aLoad true 2 x10 m) m) x11 && (again (pur (aLoad true 2 x12 m) m) x13 && (again (pur (aLoad true 2 x14 m) m) x15 && true))))))
    (bp (G.tab F_flat_number [x7] m) fun x17 m =>
  ckB (again (pur (aLoad false 1 x3 m) m) x4 && (again (pur (aLoad true 2 x8 m) m) x9 && (again (pur (aLoad true 2 x10 m) m) x11 && (again (pur (aLoad true 2 x12 m) m) x13 && (again (pur (aLoad true 2 x14 m) m) x15 && true)))))
    (bp (G.tab F_flat_yes [x5, (.string ⟨#[97, 110, 121]⟩), x17] m) fun x18 m =>
  ckB (again (pur (aLoad true 2 x8 m) m) x9 && (again (pur (aLoad true 2 x10 m) m) x11 && (again (pur (aLoad true 2 x12 m) m) x13 && (again (pur (aLoad true 2 x14 m) m) x15 && true))))
    (bp (G.tab F_flat_ends [x9] m) fun x19 m =>
  ckB (again (pur (aLoad true 2 x10 m) m) x11 && (again (pur (aLoad true 2 x12 m) m) x13 && (again (pur (aLoad true 2 x14 m) m) x15 && true)))
    (bp (G.tab F_flat_ports [x11] m) fun x20 m =>
  ckB (again (pur (aLoad true 2 x12 m) m) x13 && (again (pur (aLoad true 2 x14 m) m) x15 && true))
    (bp (G.tab F_flat_ends [x13] m) fun x21 m =>
  ckB (again (pur (aLoad true 2 x14 m) m) x15 && true)
    (bp (G.tab F_flat_ports [x15] m) fun x22 m =>
  bp (aBuildSlice T_string [(.string ⟨#[]⟩)] 1 6 [(0, x16), (1, x18), (2, x19), (3, x20), (4, x21), (5, x22)] m) fun x23 m =>
  bp (G.tab F_Pflat_writer_line [p0, (.string ⟨#[32]⟩), x23] m) fun x24 m =>
  some (.tuple ⟨[]⟩, m)))))))
theorem e_Pflat_writer_rule (G : Gt) (a0 a1 : Value) (m : Mem) : evFn Go.Proofs.Tryz.prog G.tab G.rds (drOf Go.Proofs.Tryz.prog G.tab) Go.Proofs.Tryz.f18 [a0, a1] m = s_Pflat_writer_rule G a1 a0 m :=
  evFn_of (r := fun ρ m => s_Pflat_writer_rule G (ρ 1) (ρ 0) m) rfl rfl (fun ρ m => by kernel_rfl) m
noncomputable def E_Pflat_writer_rule : Entry Go.Proofs.Tryz.prog := ⟨F_Pflat_writer_rule, Go.Proofs.Tryz.f18, Go.Proofs.Tryz.func18, by kernel_rfl, arg2 (fun G a0 a1 m => s_Pflat_writer_rule G a1 a0 m), okarg2 e_Pflat_writer_rule⟩
/-! 19 waymark/flat.yes -/
noncomputable def s_flat_yes (G : Gt) (p0 p1 p2 : Value) (m : Mem) : Option Rs :=
  brb p0
    (some (p1, m))
    (some (p2, m))
theorem e_flat_yes (G : Gt) (a0 a1 a2 : Value) (m : Mem) : evFn Go.Proofs.Tryz.prog G.tab G.rds (drOf Go.Proofs.Tryz.prog G.tab) Go.Proofs.Tryz.f19 [a0, a1, a2] m = s_flat_yes G a0 a1 a2 m :=
  evFn_of (r := fun ρ m => s_flat_yes G (ρ 0) (ρ 1) (ρ 2) m) rfl rfl (fun ρ m => by kernel_rfl) m
noncomputable def E_flat_yes : Entry Go.Proofs.Tryz.prog := ⟨F_flat_yes, Go.Proofs.Tryz.f19, Go.Proofs.Tryz.func19, by kernel_rfl, arg3 (fun G a0 a1 a2 m => s_flat_yes G a0 a1 a2 m), okarg3 e_flat_yes⟩
/-! 20 waymark/addr.Text -/
noncomputable def s_addr_Text_2 (G : Gt) (p3 : Value) (m : Mem) : Option Rs :=
  bp (pur (aSliceArr 4 1 p3 none none m) m) fun x0 m =>
  bp (G.tab F_strings_Join [x0, (.string ⟨#[46]⟩)] m) fun x1 m =>
  some (x1, m)
noncomputable def s_addr_Text_4 (G : Gt) : Nat → Value → Value → Value → Mem → Option Rs
  | 0, _, _, _, _ => none
  | i + 1, p5, p0, p3, m =>
  bp (pur (bin .lss true true .int p5 (.int .i64 4)) m) fun x2 m =>
  brb x2
    (bp (pur (bin .mul true true .int (.int .i64 8) p5) m) fun x3 m =>
  bp (pur (bin .sub true true .int (.int .i64 24) x3) m) fun x4 m =>
  bp (pur (bin .shr false true .int p0 x4) m) fun x5 m =>
  bp (pur (bin .and true true .int x5 (.int .u32 255)) m) fun x6 m =>
  bp (conv (.int .i64) x6 m) fun x7 m =>
  bp (G.tab F_strconv_Itoa [x7] m) fun x8 m =>
  bp (pur (aIndexAddrArr 4 1 p3 p5) m) fun x9 m =>
  bp (unt (aStore 1 x9 x8 m)) fun _ m =>
  bp (pur (bin .add true true .int p5 (.int .i64 1)) m) fun x10 m =>
  (s_addr_Text_4 G i) x10 p0 p3 m)
    (s_addr_Text_2 G p3 m)
noncomputable def s_addr_Text_3 (G : Gt) (p5 p0 p3 : Value) (m : Mem) : Option Rs :=
  s_addr_Text_4 G G.rds p5 p0 p3 m
noncomputable def s_addr_Text_1 (G : Gt) (p0 p3 : Value) (m : Mem) : Option Rs :=
  s_addr_Text_3 G (.int .i64 0) p0 p3 m
noncomputable def s_addr_Text_0 (G : Gt) (p0 : Value) (m : Mem) : Option Rs :=
  bp (some (aNew T_L4Jstring z_L4Jstring m)) fun x11 m =>
  s_addr_Text_1 G p0 x11 m
noncomputable def s_addr_Text (G : Gt) (p0 : Value) (m : Mem) : Option Rs :=
  s_addr_Text_0 G p0 m
theorem e_addr_Text (G : Gt) (a0 : Value) (m : Mem) : evFn Go.Proofs.Tryz.prog G.tab G.rds (drOf Go.Proofs.Tryz.prog G.tab) Go.Proofs.Tryz.f20 [a0] m = s_addr_Text G a0 m :=
  evFn_of (r := fun ρ m => s_addr_Text G (ρ 0) m) rfl rfl (tr (seqQ (f := fun ρ m => s_addr_Text_0 G (ρ 0) m) (tr (seqQ (f := fun ρ m => s_addr_Text_1 G (ρ 0) (ρ 3) m) (tr (tr (seqQ (f := fun ρ m => s_addr_Text_2 G (ρ 3) m) (fun ρ m => by kernel_rfl)) (seqQ (f := fun ρ m => s_addr_Text_3 G (ρ 5) (ρ 0) (ρ 3) m) (tr (blockQ (loopQ (fun i ρ m => s_addr_Text_4 G i (ρ 5) (ρ 0) (ρ 3) m) (fun _ _ => rfl) (fun i0 => fun ρ m => by kernel_rfl))) (fun ρ m => by kernel_rfl)))) (fun ρ m => by kernel_rfl))) (fun ρ m => by kernel_rfl))) (fun ρ m => by kernel_rfl)) m
noncomputable def E_addr_Text : Entry Go.Proofs.Tryz.prog := ⟨F_addr_Text, Go.Proofs.Tryz.f20, Go.Proofs.Tryz.func20, by kernel_rfl, arg1 (fun G a0 m => s_addr_Text G a0 m), okarg1 e_addr_Text⟩
/-! 21 waymark/flat.opt -/
noncomputable def s_flat_opt (G : Gt) (p0 p1 : Value) (m : Mem) : Option Rs :=
  bp (pur (un .not p0) m) fun x0 m =>
  brb x0
    (some ((.string ⟨#[]⟩), m))
    (bp (G.tab F_strings_Join [p1, (.string ⟨#[32]⟩)] m) fun x1 m =>
  some (x1, m))
theorem e_flat_opt (G : Gt) (a0 a1 : Value) (m : Mem) : evFn Go.Proofs.Tryz.prog G.tab G.rds (drOf Go.Proofs.Tryz.prog G.tab) Go.Proofs.Tryz.f21 [a0, a1] m = s_flat_opt G a0 a1 m :=
  evFn_of (r := fun ρ m => s_flat_opt G (ρ 0) (ρ 1) m) rfl rfl (fun ρ m => by kernel_rfl) m
noncomputable def E_flat_opt : Entry Go.Proofs.Tryz.prog := ⟨F_flat_opt, Go.Proofs.Tryz.f21, Go.Proofs.Tryz.func21, by kernel_rfl, arg2 (fun G a0 a1 m => s_flat_opt G a0 a1 m), okarg2 e_flat_opt⟩
/-! 22 waymark/flat.mask -/
noncomputable def s_flat_mask_2 (G : Gt) (p5 : Value) (m : Mem) : Option Rs :=
  bp (G.tab F_addr_Text [p5] m) fun x0 m =>
  some (x0, m)
noncomputable def s_flat_mask_1 (G : Gt) (p1 p5 : Value) (m : Mem) : Option Rs :=
  brb p1
    (bp (pur (un .xor p5) m) fun x1 m =>
  s_flat_mask_2 G x1 m)
    (s_flat_mask_2 G p5 m)
noncomputable def s_flat_mask_0 (G : Gt) (p0 p1 : Value) (m : Mem) : Option Rs :=
  bp (G.tab F_addr_Mask [p0] m) fun x2 m =>
  bp (pur (aExtract x2 0) m) fun x3 m =>
  bp (pur (aExtract x2 1) m) fun x4 m =>
  s_flat_mask_1 G p1 x3 m
noncomputable def s_flat_mask (G : Gt) (p0 p1 : Value) (m : Mem) : Option Rs :=
  s_flat_mask_0 G p0 p1 m
theorem e_flat_mask (G : Gt) (a0 a1 : Value) (m : Mem) : evFn Go.Proofs.Tryz.prog G.tab G.rds (drOf Go.Proofs.Tryz.prog G.tab) Go.Proofs.Tryz.f22 [a0, a1] m = s_flat_mask G a0 a1 m :=
  evFn_of (r := fun ρ m => s_flat_mask G (ρ 0) (ρ 1) m) rfl rfl (tr (seqQ (f := fun ρ m => s_flat_mask_0 G (ρ 0) (ρ 1) m) (tr (seqQ (f := fun ρ m => s_flat_mask_1 G (ρ 1) (ρ 5) m) (tr (seqQ (f := fun ρ m => s_flat_mask_2 G (ρ 5) m) (fun ρ m => by kernel_rfl)) (fun ρ m => by kernel_rfl))) (fun ρ m => by kernel_rfl))) (fun ρ m => by kernel_rfl)) m
noncomputable def E_flat_mask : Entry Go.Proofs.Tryz.prog := ⟨F_flat_mask, Go.Proofs.Tryz.f22, Go.Proofs.Tryz.func22, by kernel_rfl, arg2 (fun G a0 a1 m => s_flat_mask G a0 a1 m), okarg2 e_flat_mask⟩
/-! 23 waymark/flat.number -/
noncomputable def s_flat_number (G : Gt) (p0 : Value) (m : Mem) : Option Rs :=
  bp (G.tab F_strconv_Itoa [p0] m) fun x0 m =>
  some (x0, m)
theorem e_flat_number (G : Gt) (a0 : Value) (m : Mem) : evFn Go.Proofs.Tryz.prog G.tab G.rds (drOf Go.Proofs.Tryz.prog G.tab) Go.Proofs.Tryz.f23 [a0] m = s_flat_number G a0 m :=
  evFn_of (r := fun ρ m => s_flat_number G (ρ 0) m) rfl rfl (fun ρ m => by kernel_rfl) m
noncomputable def E_flat_number : Entry Go.Proofs.Tryz.prog := ⟨F_flat_number, Go.Proofs.Tryz.f23, Go.Proofs.Tryz.func23, by kernel_rfl, arg1 (fun G a0 m => s_flat_number G a0 m), okarg1 e_flat_number⟩
end Go.Ab.Sh

set_option linter.unusedVariables false
set_option maxRecDepth 100000
namespace Go.Ab.Sh
open Go Go.Ab
/-! 24 (*waymark/flat.writer).lists -/
noncomputable def s_Pflat_writer_lists_6 (G : Gt) (k0 : Value → Value → Value → Value → Mem → Option Rs) (p48 p47 p46 p0 : Value) (m : Mem) : Option Rs :=
  bp (pur (bin .add true true .int p48 (.int .i64 1)) m) fun x0 m =>
  k0 x0 p47 p46 p0 m
noncomputable def s_Pflat_writer_lists_9 (G : Gt) (k0 : Value → Value → Value → Value → Mem → Option Rs) : Nat → Value → Value → Value → Value → Value → Value → Value → Value → Mem → Option Rs
  | 0, _, _, _, _, _, _, _, _, _ => none
  | i + 1, p55, p54, p53, p0, p9, p48, p47, p46, m =>
  bp (pur (bin .lss false true .int p55 p54) m) fun x1 m =>
  brb x1
    (bp (pur (aIndexAddrSl 2 p53 p55) m) fun x2 m =>
  bp (pur (aLoad true 2 x2 m) m) fun x3 m =>
  bp (some (aNew T_api_Member z_api_Member m)) fun x4 m =>
  bp (unt (aStore 2 x4 x3 m)) fun _ m =>
  bp (pur (aFieldAddr 0 p9) m) fun x5 m =>
  bp (pur (aLoad false 1 x5 m) m) fun x6 m =>
  bp (pur (aFieldAddr 0 x4) m) fun x7 m =>
  bp (pur (aLoad false 1 x7 m) m) fun x8 m =>
  bp (pur (aFieldAddr 1 x4) m) fun x9 m =>
  bp (pur (aLoad false 1 x9 m) m) fun x10 m =>
  bp (G.tab F_flat_yes [x8, (.string ⟨#[112, 101, 114, 109, 105, 116]⟩), (.string ⟨#[100, 101, 110, 121]⟩)] m) fun x11 m =>
  ckB (again (pur (aLoad false 1 x5 m) m) x6 && (again (pur (aLoad false 1 x9 m) m) x10 && true))
    (bp (G.tab F_flat_comms [x10] m) fun x12 m =>
  ckB (again (pur (aLoad false 1 x5 m) m) x6 && true)
    (bp (aBuildSlice T_string [(.string ⟨#[]⟩)] 1 4 [(0, (.string ⟨#[105, 112, 32, 99, 111, 109, 109, 117, 110, 105, 116, 121, 45, 108, 105, 115, 116]⟩)), (1, x6), (2, x11), (3, x12)] m) fun x13 m =>
  bp (G.tab F_Pflat_writer_line [p0, (.string ⟨#[]⟩), x13] m) fun x14 m =>
  bp (pur (bin .add true true .int p55 (.int .i64 1)) m) fun x15 m =>
  (s_Pflat_writer_lists_9 G k0 i) x15 p54 p53 p0 p9 p48 p47 p46 m)))
    (s_Pflat_writer_lists_6 G k0 p48 p47 p46 p0 m)
noncomputable def s_Pflat_writer_lists_8 (G : Gt) (k0 : Value → Value → Value → Value → Mem → Option Rs) (p55 p54 p53 p0 p9 p48 p47 p46 : Value) (m : Mem) : Option Rs :=
  s_Pflat_writer_lists_9 G k0 G.rds p55 p54 p53 p0 p9 p48 p47 p46 m
noncomputable def s_Pflat_writer_lists_7 (G : Gt) (k0 : Value → Value → Value → Value → Mem → Option Rs) (p9 p0 p48 p47 p46 : Value) (m : Mem) : Option Rs :=
  bp (pur (aFieldAddr 1 p9) m) fun x16 m =>
  bp (pur (aLoad false 1 x16 m) m) fun x17 m =>
  bp (pur (lenK 1 x17 m) m) fun x18 m =>
  s_Pflat_writer_lists_8 G k0 (.int .i64 0) x18 x17 p0 p9 p48 p47 p46 m
noncomputable def s_Pflat_writer_lists_5 (G : Gt) (k0 : Value → Value → Value → Value → Mem → Option Rs) (p46 p48 p0 p47 : Value) (m : Mem) : Option Rs :=
  bp (pur (aIndexAddrSl 2 p46 p48) m) fun x19 m =>
  bp (pur (aLoad true 2 x19 m) m) fun x20 m =>
  bp (some (aNew T_api_CommunityList z_api_CommunityList m)) fun x21 m =>
  bp (unt (aStore 2 x21 x20 m)) fun _ m =>
  s_Pflat_writer_lists_7 G k0 x21 p0 p48 p47 p46 m
noncomputable def s_Pflat_writer_lists_4 (G : Gt) (k0 : Value → Value → Value → Value → Mem → Option Rs) (p49 p46 p48 p0 p47 : Value) (m : Mem) : Option Rs :=
  brb p49
    (s_Pflat_writer_lists_5 G k0 p46 p48 p0 p47 m)
    (some (.tuple ⟨[]⟩, m))
noncomputable def s_Pflat_writer_lists_3 (G : Gt) : Nat → Value → Value → Value → Value → Mem → Option Rs
  | 0, _, _, _, _, _ => none
  | i + 1, p48, p47, p46, p0, m =>
  bp (pur (bin .lss false true .int p48 p47) m) fun x22 m =>
  s_Pflat_writer_lists_4 G (s_Pflat_writer_lists_3 G i) x22 p46 p48 p0 p47 m
noncomputable def s_Pflat_writer_lists_2 (G : Gt) (p48 p47 p46 p0 : Value) (m : Mem) : Option Rs :=
  s_Pflat_writer_lists_3 G G.rds p48 p47 p46 p0 m
noncomputable def s_Pflat_writer_lists_1 (G : Gt) (p3 p0 : Value) (m : Mem) : Option Rs :=
  bp (pur (aFieldAddr 8 p3) m) fun x23 m =>
  bp (pur (aLoad false 1 x23 m) m) fun x24 m =>
  bp (pur (lenK 1 x24 m) m) fun x25 m =>
  s_Pflat_writer_lists_2 G (.int .i64 0) x25 x24 p0 m
noncomputable def s_Pflat_writer_lists_14 (G : Gt) (k0 : Value → Value → Value → Value → Value → Mem → Option Rs) (p15 p14 p13 p0 p3 : Value) (m : Mem) : Option Rs :=
  bp (pur (bin .add true true .int p15 (.int .i64 1)) m) fun x26 m =>
  k0 x26 p14 p13 p0 p3 m
noncomputable def s_Pflat_writer_lists_17 (G : Gt) (k0 : Value → Value → Value → Value → Value → Mem → Option Rs) : Nat → Value → Value → Value → Value → Value → Value → Value → Value → Value → Mem → Option Rs
  | 0, _, _, _, _, _, _, _, _, _, _ => none
  | i + 1, p22, p21, p20, p0, p5, p15, p14, p13, p3, m =>
  bp (pur (bin .lss false true .int p22 p21) m) fun x27 m =>
  brb x27
    (bp (pur (aIndexAddrSl 5 p20 p22) m) fun x28 m =>
  bp (pur (aLoad true 5 x28 m) m) fun x29 m =>
  bp (some (aNew T_api_Entry z_api_Entry m)) fun x30 m =>
  bp (unt (aStore 5 x30 x29 m)) fun _ m =>
  bp (pur (aFieldAddr 0 p5) m) fun x31 m =>
  bp (pur (aLoad false 1 x31 m) m) fun x32 m =>
  bp (pur (aFieldAddr 0 x30) m) fun x33 m =>
  bp (pur (aLoad false 1 x33 m) m) fun x34 m =>
  bp (pur (aFieldAddr 1 x30) m) fun x35 m =>
  bp (pur (aLoad true 2 x35 m) m) fun x36 m =>
  bp (pur (aFieldAddr 3 x30) m) fun x37 m =>
  bp (pur (aLoad false 1 x37 m) m) fun x38 m =>
  bp (pur (aFieldAddr 4 x30) m) fun x39 m =>
  bp (pur (aLoad false 1 x39 m) m) fun x40 m =>
  bp (G.tab F_flat_yes [x34, (.string ⟨#[112, 101, 114, 109, 105, 116]⟩), (.string ⟨#[100, 101, 110, 121]⟩)] m) fun x41 m =>
  ckB (again (pur (aLoad false 1 x31 m) m) x32 && (again (pur (aLoad true 2 x35 m) m) x36 && (again (pur (aLoad false 1 x37 m) m) x38 && (again (pur (aLoad false 1 x39 m) m) x40 && true))))
    (bp (G.tab F_addr_PrefixText [x36] m) fun x42 m =>
  ckB (again (pur (aLoad false 1 x31 m) m) x32 && (again (pur (aLoad false 1 x37 m) m) x38 && (again (pur (aLoad false 1 x39 m) m) x40 && true)))
    (bp (G.tab F_flat_number [x38] m) fun x43 m =>
  ckB (again (pur (aLoad false 1 x31 m) m) x32 && (again (pur (aLoad false 1 x39 m) m) x40 && true))
    (bp (G.tab F_flat_number [x40] m) fun x44 m =>
  ckB (again (pur (aLoad false 1 x31 m) m) x32 && true)
    (bp (aBuildSlice T_string [(.string ⟨#[]⟩)] 1 8 [(0, (.string ⟨#[105, 112, 32, 112, 114, 101, 102, 105, 120, 45, 108, 105, 115, 116]⟩)), (1, x32), (2, x41), (3, x42), (4, (.string ⟨#[103, 101]⟩)), (5, x43), (6, (.string ⟨#[108, 101]⟩)), (7, x44)] m) fun x45 m =>
  bp (G.tab F_Pflat_writer_line [p0, (.string ⟨#[]⟩), x45] m) fun x46 m =>
  bp (pur (bin .add true true .int p22 (.int .i64 1)) m) fun x47 m =>
  (s_Pflat_writer_lists_17 G k0 i) x47 p21 p20 p0 p5 p15 p14 p13 p3 m)))))
    (s_Pflat_writer_lists_14 G k0 p15 p14 p13 p0 p3 m)
noncomputable def s_Pflat_writer_lists_16 (G : Gt) (k0 : Value → Value → Value → Value → Value → Mem → Option Rs) (p22 p21 p20 p0 p5 p15 p14 p13 p3 : Value) (m : Mem) : Option Rs :=
  s_Pflat_writer_lists_17 G k0 G.rds p22 p21 p20 p0 p5 p15 p14 p13 p3 m
noncomputable def s_Pflat_writer_lists_15 (G : Gt) (k0 : Value → Value → Value → Value → Value → Mem → Option Rs) (p5 p0 p15 p14 p13 p3 : Value) (m : Mem) : Option Rs :=
  bp (pur (aFieldAddr 1 p5) m) fun x48 m =>
  bp (pur (aLoad false 1 x48 m) m) fun x49 m =>
  bp (pur (lenK 1 x49 m) m) fun x50 m =>
  s_Pflat_writer_lists_16 G k0 (.int .i64 0) x50 x49 p0 p5 p15 p14 p13 p3 m
noncomputable def s_Pflat_writer_lists_13 (G : Gt) (k0 : Value → Value → Value → Value → Value → Mem → Option Rs) (p13 p15 p0 p14 p3 : Value) (m : Mem) : Option Rs :=
  bp (pur (aIndexAddrSl 2 p13 p15) m) fun x51 m =>
  bp (pur (aLoad true 2 x51 m) m) fun x52 m =>
  bp (some (aNew T_api_PrefixList z_api_PrefixList m)) fun x53 m =>
  bp (unt (aStore 2 x53 x52 m)) fun _ m =>
  s_Pflat_writer_lists_15 G k0 x53 p0 p15 p14 p13 p3 m
noncomputable def s_Pflat_writer_lists_12 (G : Gt) (k0 : Value → Value → Value → Value → Value → Mem → Option Rs) (p16 p13 p15 p0 p14 p3 : Value) (m : Mem) : Option Rs :=
  brb p16
    (s_Pflat_writer_lists_13 G k0 p13 p15 p0 p14 p3 m)
    (s_Pflat_writer_lists_1 G p3 p0 m)
noncomputable def s_Pflat_writer_lists_11 (G : Gt) : Nat → Value → Value → Value → Value → Value → Mem → Option Rs
  | 0, _, _, _, _, _, _ => none
  | i + 1, p15, p14, p13, p0, p3, m =>
  bp (pur (bin .lss false true .int p15 p14) m) fun x54 m =>
  s_Pflat_writer_lists_12 G (s_Pflat_writer_lists_11 G i) x54 p13 p15 p0 p14 p3 m
noncomputable def s_Pflat_writer_lists_10 (G : Gt) (p15 p14 p13 p0 p3 : Value) (m : Mem) : Option Rs :=
  s_Pflat_writer_lists_11 G G.rds p15 p14 p13 p0 p3 m
noncomputable def s_Pflat_writer_lists_0 (G : Gt) (p3 p0 : Value) (m : Mem) : Option Rs :=
  bp (pur (aFieldAddr 7 p3) m) fun x55 m =>
  bp (pur (aLoad false 1 x55 m) m) fun x56 m =>
  bp (pur (lenK 1 x56 m) m) fun x57 m =>
  s_Pflat_writer_lists_10 G (.int .i64 0) x57 x56 p0 p3 m
noncomputable def s_Pflat_writer_lists (G : Gt) (p1 p0 : Value) (m : Mem) : Option Rs :=
  bp (some (aNew T_api_Device (Value.cells p1).toList m)) fun x58 m =>
  s_Pflat_writer_lists_0 G x58 p0 m
theorem e_Pflat_writer_lists (G : Gt) (a0 a1 : Value) (m : Mem) : evFn Go.Proofs.Tryz.prog G.tab G.rds (drOf Go.Proofs.Tryz.prog G.tab) Go.Proofs.Tryz.f24 [a0, a1] m = s_Pflat_writer_lists G a1 a0 m :=
  evFn_of (r := fun ρ m => s_Pflat_writer_lists G (ρ 1) (ρ 0) m) rfl rfl (tr (seqQ (f := fun ρ m => s_Pflat_writer_lists_0 G (ρ 3) (ρ 0) m) (tr (tr (seqQ (f := fun ρ m => s_Pflat_writer_lists_1 G (ρ 3) (ρ 0) m) (tr (seqQ (f := fun ρ m => s_Pflat_writer_lists_2 G (ρ 48) (ρ 47) (ρ 46) (ρ 0) m) (tr (blockQ (loopQ (fun i ρ m => s_Pflat_writer_lists_3 G i (ρ 48) (ρ 47) (ρ 46) (ρ 0) m) (fun _ _ => rfl) (fun i0 => tr (seqQ (f := fun ρ m => s_Pflat_writer_lists_4 G (s_Pflat_writer_lists_3 G i0) (ρ 49) (ρ 46) (ρ 48) (ρ 0) (ρ 47) m) (tr (seqQ (f := fun ρ m => s_Pflat_writer_lists_5 G (s_Pflat_writer_lists_3 G i0) (ρ 46) (ρ 48) (ρ 0) (ρ 47) m) (tr (tr (seqQ (f := fun ρ m => s_Pflat_writer_lists_6 G (s_Pflat_writer_lists_3 G i0) (ρ 48) (ρ 47) (ρ 46) (ρ 0) m) (fun ρ m => by kernel_rfl)) (blockQ (seqQ (f := fun ρ m => s_Pflat_writer_lists_7 G (s_Pflat_writer_lists_3 G i0) (ρ 9) (ρ 0) (ρ 48) (ρ 47) (ρ 46) m) (tr (seqQ (f := fun ρ m => s_Pflat_writer_lists_8 G (s_Pflat_writer_lists_3 G i0) (ρ 55) (ρ 54) (ρ 53) (ρ 0) (ρ 9) (ρ 48) (ρ 47) (ρ 46) m) (tr (blockQ (loopQ (fun i ρ m => s_Pflat_writer_lists_9 G (s_Pflat_writer_lists_3 G i0) i (ρ 55) (ρ 54) (ρ 53) (ρ 0) (ρ 9) (ρ 48) (ρ 47) (ρ 46) m) (fun _ _ => rfl) (fun i1 => fun ρ m => by kernel_rfl))) (fun ρ m => by kernel_rfl))) (fun ρ m => by kernel_rfl))))) (fun ρ m => by kernel_rfl))) (fun ρ m => by kernel_rfl))) (fun ρ m => by kernel_rfl)))) (fun ρ m => by kernel_rfl))) (fun ρ m => by kernel_rfl))) (seqQ (f := fun ρ m => s_Pflat_writer_lists_10 G (ρ 15) (ρ 14) (ρ 13) (ρ 0) (ρ 3) m) (tr (blockQ (loopQ (fun i ρ m => s_Pflat_writer_lists_11 G i (ρ 15) (ρ 14) (ρ 13) (ρ 0) (ρ 3) m) (fun _ _ => rfl) (fun i0 => tr (seqQ (f := fun ρ m => s_Pflat_writer_lists_12 G (s_Pflat_writer_lists_11 G i0) (ρ 16) (ρ 13) (ρ 15) (ρ 0) (ρ 14) (ρ 3) m) (tr (seqQ (f := fun ρ m => s_Pflat_writer_lists_13 G (s_Pflat_writer_lists_11 G i0) (ρ 13) (ρ 15) (ρ 0) (ρ 14) (ρ 3) m) (tr (tr (seqQ (f := fun ρ m => s_Pflat_writer_lists_14 G (s_Pflat_writer_lists_11 G i0) (ρ 15) (ρ 14) (ρ 13) (ρ 0) (ρ 3) m) (fun ρ m => by kernel_rfl)) (blockQ (seqQ (f := fun ρ m => s_Pflat_writer_lists_15 G (s_Pflat_writer_lists_11 G i0) (ρ 5) (ρ 0) (ρ 15) (ρ 14) (ρ 13) (ρ 3) m) (tr (seqQ (f := fun ρ m => s_Pflat_writer_lists_16 G (s_Pflat_writer_lists_11 G i0) (ρ 22) (ρ 21) (ρ 20) (ρ 0) (ρ 5) (ρ 15) (ρ 14) (ρ 13) (ρ 3) m) (tr (blockQ (loopQ (fun i ρ m => s_Pflat_writer_lists_17 G (s_Pflat_writer_lists_11 G i0) i (ρ 22) (ρ 21) (ρ 20) (ρ 0) (ρ 5) (ρ 15) (ρ 14) (ρ 13) (ρ 3) m) (fun _ _ => rfl) (fun i1 => fun ρ m => by kernel_rfl))) (fun ρ m => by kernel_rfl))) (fun ρ m => by kernel_rfl))))) (fun ρ m => by kernel_rfl))) (fun ρ m => by kernel_rfl))) (fun ρ m => by kernel_rfl)))) (fun ρ m => by kernel_rfl)))) (fun ρ m => by kernel_rfl))) (fun ρ m => by kernel_rfl)) m
noncomputable def E_Pflat_writer_lists : Entry Go.Proofs.Tryz.prog := ⟨F_Pflat_writer_lists, Go.Proofs.Tryz.f24, Go.Proofs.Tryz.func24, by kernel_rfl, arg2 (fun G a0 a1 m => s_Pflat_writer_lists G a1 a0 m), okarg2 e_Pflat_writer_lists⟩
end Go.Ab.Sh
