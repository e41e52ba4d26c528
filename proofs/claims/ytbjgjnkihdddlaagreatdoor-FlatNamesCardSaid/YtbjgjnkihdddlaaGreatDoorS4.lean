/-
  Functions of the program as plain definitions, each with the theorem that it is what the evaluator makes of the code. No conditions.
-/
import Derived.Test.YtbjgjnkihdddlaaGreatDoorAb4
import Derived.Test.YtbjgjnkihdddlaaGreatDoorZ
import Derived.KernelRfl
import Derived.Test.YtbjgjnkihdddlaaGreatDoorProg
set_option linter.unusedVariables false
set_option maxRecDepth 100000
namespace Go.Ab.Sh
open Go Go.Ab
/-! 25 (*waymark/flat.writer).clause -/
noncomputable def s_Pflat_writer_clause_8 (G : Gt) (k0 : Value → Value → Value → Value → Mem → Option Rs) (p137 p136 p135 p0 : Value) (m : Mem) : Option Rs :=
  bp (pur (bin .add true true .int p137 (.int .i64 1)) m) fun x0 m =>
  k0 x0 p136 p135 p0 m
noncomputable def s_Pflat_writer_clause_7 (G : Gt) (k0 : Value → Value → Value → Value → Mem → Option Rs) (p135 p137 p0 p136 : Value) (m : Mem) : Option Rs :=
  bp (pur (aIndexAddrSl 2 p135 p137) m) fun x1 m =>
  bp (pur (aLoad true 2 x1 m) m) fun x2 m =>
  bp (some (aNew T_struct_K_is_bool__words_string_K z_struct_K_is_bool__words_string_K m)) fun x3 m =>
  bp (unt (aStore 2 x3 x2 m)) fun _ m =>
  bp (pur (aFieldAddr 0 x3) m) fun x4 m =>
  bp (pur (aLoad false 1 x4 m) m) fun x5 m =>
  brb x5
    (bp (pur (aFieldAddr 1 x3) m) fun x6 m =>
  bp (pur (aLoad false 1 x6 m) m) fun x7 m =>
  bp (aBuildSlice T_string [(.string ⟨#[]⟩)] 1 1 [(0, x7)] m) fun x8 m =>
  bp (G.tab F_Pflat_writer_line [p0, (.string ⟨#[32]⟩), x8] m) fun x9 m =>
  s_Pflat_writer_clause_8 G k0 p137 p136 p135 p0 m)
    (s_Pflat_writer_clause_8 G k0 p137 p136 p135 p0 m)
noncomputable def s_Pflat_writer_clause_6 (G : Gt) (k0 : Value → Value → Value → Value → Mem → Option Rs) (p138 p135 p137 p0 p136 : Value) (m : Mem) : Option Rs :=
  brb p138
    (s_Pflat_writer_clause_7 G k0 p135 p137 p0 p136 m)
    (some (.tuple ⟨[]⟩, m))
noncomputable def s_Pflat_writer_clause_5 (G : Gt) : Nat → Value → Value → Value → Value → Mem → Option Rs
  | 0, _, _, _, _, _ => none
  | i + 1, p137, p136, p135, p0, m =>
  bp (pur (bin .lss false true .int p137 p136) m) fun x10 m =>
  s_Pflat_writer_clause_6 G (s_Pflat_writer_clause_5 G i) x10 p135 p137 p0 p136 m
noncomputable def s_Pflat_writer_clause_4 (G : Gt) (p137 p136 p135 p0 : Value) (m : Mem) : Option Rs :=
  s_Pflat_writer_clause_5 G G.rds p137 p136 p135 p0 m
noncomputable def s_Pflat_writer_clause_3 (G : Gt) (p5 p6 p0 : Value) (m : Mem) : Option Rs :=
  bp (pur (aFieldAddr 2 p5) m) fun x11 m =>
  bp (pur (aLoad false 1 x11 m) m) fun x12 m =>
  bp (pur (bin .neq true true .str x12 (.string ⟨#[]⟩)) m) fun x13 m =>
  bp (pur (aFieldAddr 2 p5) m) fun x14 m =>
  bp (pur (aLoad false 1 x14 m) m) fun x15 m =>
  bp (pur (bin .add true true .str (.string ⟨#[109, 97, 116, 99, 104, 32, 112, 114, 101, 102, 105, 120, 45, 108, 105, 115, 116, 32]⟩) x15) m) fun x16 m =>
  bp (pur (aBuild z_struct_K_is_bool__words_string_K [(0, 1), (1, 1)] [(0, x13), (1, x16)]) m) fun x17 m =>
  bp (pur (aFieldAddr 3 p5) m) fun x18 m =>
  bp (pur (aLoad false 1 x18 m) m) fun x19 m =>
  bp (pur (bin .neq true true .str x19 (.string ⟨#[]⟩)) m) fun x20 m =>
  bp (pur (aFieldAddr 3 p5) m) fun x21 m =>
  bp (pur (aLoad false 1 x21 m) m) fun x22 m =>
  bp (pur (bin .add true true .str (.string ⟨#[109, 97, 116, 99, 104, 32, 99, 111, 109, 109, 117, 110, 105, 116, 121, 45, 108, 105, 115, 116, 32]⟩) x22) m) fun x23 m =>
  bp (pur (aBuild z_struct_K_is_bool__words_string_K [(0, 1), (1, 1)] [(0, x20), (1, x23)]) m) fun x24 m =>
  bp (pur (aFieldAddr 4 p5) m) fun x25 m =>
  bp (pur (aLoad false 1 x25 m) m) fun x26 m =>
  bp (pur (bin .geq true true .int x26 (.int .i64 0)) m) fun x27 m =>
  bp (pur (aFieldAddr 4 p5) m) fun x28 m =>
  bp (pur (aLoad false 1 x28 m) m) fun x29 m =>
  bp (pur (aFieldAddr 5 p5) m) fun x30 m =>
  bp (pur (aLoad false 1 x30 m) m) fun x31 m =>
  bp (pur (bin .geq true true .int x31 (.int .i64 0)) m) fun x32 m =>
  bp (pur (aFieldAddr 5 p5) m) fun x33 m =>
  bp (pur (aLoad false 1 x33 m) m) fun x34 m =>
  bp (pur (aFieldAddr 6 p5) m) fun x35 m =>
  bp (pur (aLoad false 1 x35 m) m) fun x36 m =>
  bp (pur (bin .geq true true .int x36 (.int .i64 0)) m) fun x37 m =>
  bp (pur (aFieldAddr 6 p5) m) fun x38 m =>
  bp (pur (aLoad false 1 x38 m) m) fun x39 m =>
  bp (pur (aFieldAddr 7 p5) m) fun x40 m =>
  bp (pur (aLoad false 1 x40 m) m) fun x41 m =>
  bp (pur (bin .geq true true .int x41 (.int .i64 0)) m) fun x42 m =>
  bp (pur (aFieldAddr 7 p5) m) fun x43 m =>
  bp (pur (aLoad false 1 x43 m) m) fun x44 m =>
  bp (pur (aFieldAddr 8 p5) m) fun x45 m =>
  bp (pur (aLoad false 1 x45 m) m) fun x46 m =>
  bp (pur (bin .geq true true .int x46 (.int .i64 0)) m) fun x47 m =>
  bp (pur (aFieldAddr 8 p5) m) fun x48 m =>
  bp (pur (aLoad false 1 x48 m) m) fun x49 m =>
  bp (pur (aFieldAddr 9 p5) m) fun x50 m =>
  bp (pur (aLoad false 1 x50 m) m) fun x51 m =>
  bp (pur (bin .geq true true .int x51 (.int .i64 0)) m) fun x52 m =>
  bp (pur (aFieldAddr 9 p5) m) fun x53 m =>
  bp (pur (aLoad false 1 x53 m) m) fun x54 m =>
  bp (pur (aFieldAddr 10 p5) m) fun x55 m =>
  bp (pur (aLoad false 1 x55 m) m) fun x56 m =>
  bp (pur (lenK 1 x56 m) m) fun x57 m =>
  bp (pur (bin .gtr true true .int x57 (.int .i64 0)) m) fun x58 m =>
  bp (pur (aFieldAddr 11 p5) m) fun x59 m =>
  bp (pur (aLoad false 1 x59 m) m) fun x60 m =>
  bp (aBuildSlice T_string [(.string ⟨#[]⟩)] 1 1 [(0, (.string ⟨#[97, 100, 100, 32]⟩))] m) fun x61 m =>
  bp (pur (aFieldAddr 10 p5) m) fun x62 m =>
  bp (pur (aLoad false 1 x62 m) m) fun x63 m =>
  bp (pur (lenK 1 p6 m) m) fun x64 m =>
  bp (pur (bin .gtr true true .int x64 (.int .i64 0)) m) fun x65 m =>
  bp (pur (aFieldAddr 13 p5) m) fun x66 m =>
  bp (pur (aLoad false 1 x66 m) m) fun x67 m =>
  bp (pur (bin .neq true true .int x67 (.int .u32 0)) m) fun x68 m =>
  bp (pur (aFieldAddr 13 p5) m) fun x69 m =>
  bp (pur (aLoad false 1 x69 m) m) fun x70 m =>
  bp (pur (aFieldAddr 14 p5) m) fun x71 m =>
  bp (pur (aLoad false 1 x71 m) m) fun x72 m =>
  bp (pur (bin .neq true true .int x72 (.int .i64 0)) m) fun x73 m =>
  bp (pur (aFieldAddr 14 p5) m) fun x74 m =>
  bp (pur (aLoad false 1 x74 m) m) fun x75 m =>
  bp (G.tab F_flat_number [x29] m) fun x76 m =>
  ckB (again (pur (aLoad false 1 x11 m) m) x12 && (again (pur (aLoad false 1 x14 m) m) x15 && (again (pur (aLoad false 1 x18 m) m) x19 && (again (pur (aLoad false 1 x21 m) m) x22 && (again (pur (aLoad false 1 x25 m) m) x26 && (again (pur (aLoad false 1 x30 m) m) x31 && (again (pur (aLoad false 1 x33 m) m) x34 && (again (pur (aLoad false 1 x35 m) m) x36 && (again (pur (aLoad false 1 x38 m) m) x39 && (again (pur (aLoad false 1 x40 m) m) x41 && (again (pur (aLoad false 1 x43 m) m) x44 && (again (pur (aLoad false 1 x45 m) m) x46 && (again (pur (aLoad false 1 x48 m) m) x49 && (again (pur (aLoad false 1 x50 m) m) x51 && (again (pur (aLoad false 1 x53 m) m) x54 && (again (pur (aLoad false 1 x55 m) m) x56 && (again (pur (aLoad false 1 x59 m) m) x60 && (again (pur (aLoad false 1 x62 m) m) x63 && (again (pur (aLoad false 1 x66 m) m) x67 && (again (pur (aLoad false 1 x69 m) m) x70 && (again (pur (aLoad false 1 x71 m) m) x72 && (again (pur (aLoad false 1 x74 m) m) x75 && true))))))))))))))))))))))
    (bp (pur (bin .add true true .str (.string ⟨#[109, 97, 116, 99, 104, 32, 116, 97, 103, 32]⟩) x76) m) fun x77 m =>
  bp (pur (aBuild z_struct_K_is_bool__words_string_K [(0, 1), (1, 1)] [(0, x27), (1, x77)]) m) fun x78 m =>
  bp (G.tab F_flat_number [x34] m) fun x79 m =>
  ckB (again (pur (aLoad false 1 x11 m) m) x12 && (again (pur (aLoad false 1 x14 m) m) x15 && (again (pur (aLoad false 1 x18 m) m) x19 && (again (pur (aLoad false 1 x21 m) m) x22 && (again (pur (aLoad false 1 x25 m) m) x26 && (again (pur (aLoad false 1 x30 m) m) x31 && (again (pur (aLoad false 1 x35 m) m) x36 && (again (pur (aLoad false 1 x38 m) m) x39 && (again (pur (aLoad false 1 x40 m) m) x41 && (again (pur (aLoad false 1 x43 m) m) x44 && (again (pur (aLoad false 1 x45 m) m) x46 && (again (pur (aLoad false 1 x48 m) m) x49 && (again (pur (aLoad false 1 x50 m) m) x51 && (again (pur (aLoad false 1 x53 m) m) x54 && (again (pur (aLoad false 1 x55 m) m) x56 && (again (pur (aLoad false 1 x59 m) m) x60 && (again (pur (aLoad false 1 x62 m) m) x63 && (again (pur (aLoad false 1 x66 m) m) x67 && (again (pur (aLoad false 1 x69 m) m) x70 && (again (pur (aLoad false 1 x71 m) m) x72 && (again (pur (aLoad false 1 x74 m) m) x75 && true)))))))))))))))))))))
    (bp (pur (bin .add true true .str (.string ⟨#[109, 97, 116, 99, 104, 32, 109, 101, 116, 114, 105, 99, 32]⟩) x79) m) fun x80 m =>
  bp (pur (aBuild z_struct_K_is_bool__words_string_K [(0, 1), (1, 1)] [(0, x32), (1, x80)]) m) fun x81 m =>
  bp (G.tab F_flat_number [x39] m) fun x82 m =>
  ckB (again (pur (aLoad false 1 x11 m) m) x12 && (again (pur (aLoad false 1 x14 m) m) x15 && (again (pur (aLoad false 1 x18 m) m) x19 && (again (pur (aLoad false 1 x21 m) m) x22 && (again (pur (aLoad false 1 x25 m) m) x26 && (again (pur (aLoad false 1 x30 m) m) x31 && (again (pur (aLoad false 1 x35 m) m) x36 && (again (pur (aLoad false 1 x40 m) m) x41 && (again (pur (aLoad false 1 x43 m) m) x44 && (again (pur (aLoad false 1 x45 m) m) x46 && (again (pur (aLoad false 1 x48 m) m) x49 && (again (pur (aLoad false 1 x50 m) m) x51 && (again (pur (aLoad false 1 x53 m) m) x54 && (again (pur (aLoad false 1 x55 m) m) x56 && (again (pur (aLoad false 1 x59 m) m) x60 && (again (pur (aLoad false 1 x62 m) m) x63 && (again (pur (aLoad false 1 x66 m) m) x67 && (again (pur (aLoad false 1 x69 m) m) x70 && (again (pur (aLoad false 1 x71 m) m) x72 && (again (pur (aLoad false 1 x74 m) m) x75 && true))))))))))))))))))))
    (bp (pur (bin .add true true .str (.string ⟨#[109, 97, 116, 99, 104, 32, 97, 115, 32]⟩) x82) m) fun x83 m =>
  bp (pur (aBuild z_struct_K_is_bool__words_string_K [(0, 1), (1, 1)] [(0, x37), (1, x83)]) m) fun x84 m =>
  bp (G.tab F_flat_number [x44] m) fun x85 m =>
  ckB (again (pur (aLoad false 1 x11 m) m) x12 && (again (pur (aLoad false 1 x14 m) m) x15 && (again (pur (aLoad false 1 x18 m) m) x19 && (again (pur (aLoad false 1 x21 m) m) x22 && (again (pur (aLoad false 1 x25 m) m) x26 && (again (pur (aLoad false 1 x30 m) m) x31 && (again (pur (aLoad false 1 x35 m) m) x36 && (again (pur (aLoad false 1 x40 m) m) x41 && (again (pur (aLoad false 1 x45 m) m) x46 && (again (pur (aLoad false 1 x48 m) m) x49 && (again (pur (aLoad false 1 x50 m) m) x51 && (again (pur (aLoad false 1 x53 m) m) x54 && (again (pur (aLoad false 1 x55 m) m) x56 && (again (pur (aLoad false 1 x59 m) m) x60 && (again (pur (aLoad false 1 x62 m) m) x63 && (again (pur (aLoad false 1 x66 m) m) x67 && (again (pur (aLoad false 1 x69 m) m) x70 && (again (pur (aLoad false 1 x71 m) m) x72 && (again (pur (aLoad false 1 x74 m) m) x75 && true)))))))))))))))))))
    (bp (pur (bin .add true true .str (.string ⟨#[115, 101, 116, 32, 109, 101, 116, 114, 105, 99, 32]⟩) x85) m) fun x86 m =>
  bp (pur (aBuild z_struct_K_is_bool__words_string_K [(0, 1), (1, 1)] [(0, x42), (1, x86)]) m) fun x87 m =>
  bp (G.tab F_flat_number [x49] m) fun x88 m =>
  ckB (again (pur (aLoad false 1 x11 m) m) x12 && (again (pur (aLoad false 1 x14 m) m) x15 && (again (pur (aLoad false 1 x18 m) m) x19 && (again (pur (aLoad false 1 x21 m) m) x22 && (again (pur (aLoad false 1 x25 m) m) x26 && (again (pur (aLoad false 1 x30 m) m) x31 && (again (pur (aLoad false 1 x35 m) m) x36 && (again (pur (aLoad false 1 x40 m) m) x41 && (again (pur (aLoad false 1 x45 m) m) x46 && (again (pur (aLoad false 1 x50 m) m) x51 && (again (pur (aLoad false 1 x53 m) m) x54 && (again (pur (aLoad false 1 x55 m) m) x56 && (again (pur (aLoad false 1 x59 m) m) x60 && (again (pur (aLoad false 1 x62 m) m) x63 && (again (pur (aLoad false 1 x66 m) m) x67 && (again (pur (aLoad false 1 x69 m) m) x70 && (again (pur (aLoad false 1 x71 m) m) x72 && (again (pur (aLoad false 1 x74 m) m) x75 && true))))))))))))))))))
    (bp (pur (bin .add true true .str (.string ⟨#[115, 101, 116, 32, 112, 114, 101, 102, 101, 114, 101, 110, 99, 101, 32]⟩) x88) m) fun x89 m =>
  bp (pur (aBuild z_struct_K_is_bool__words_string_K [(0, 1), (1, 1)] [(0, x47), (1, x89)]) m) fun x90 m =>
  bp (G.tab F_flat_number [x54] m) fun x91 m =>
  ckB (again (pur (aLoad false 1 x11 m) m) x12 && (again (pur (aLoad false 1 x14 m) m) x15 && (again (pur (aLoad false 1 x18 m) m) x19 && (again (pur (aLoad false 1 x21 m) m) x22 && (again (pur (aLoad false 1 x25 m) m) x26 && (again (pur (aLoad false 1 x30 m) m) x31 && (again (pur (aLoad false 1 x35 m) m) x36 && (again (pur (aLoad false 1 x40 m) m) x41 && (again (pur (aLoad false 1 x45 m) m) x46 && (again (pur (aLoad false 1 x50 m) m) x51 && (again (pur (aLoad false 1 x55 m) m) x56 && (again (pur (aLoad false 1 x59 m) m) x60 && (again (pur (aLoad false 1 x62 m) m) x63 && (again (pur (aLoad false 1 x66 m) m) x67 && (again (pur (aLoad false 1 x69 m) m) x70 && (again (pur (aLoad false 1 x71 m) m) x72 && (again (pur (aLoad false 1 x74 m) m) x75 && true)))))))))))))))))
    (bp (pur (bin .add true true .str (.string ⟨#[115, 101, 116, 32, 116, 97, 103, 32]⟩) x91) m) fun x92 m =>
  bp (pur (aBuild z_struct_K_is_bool__words_string_K [(0, 1), (1, 1)] [(0, x52), (1, x92)]) m) fun x93 m =>
  bp (G.tab F_flat_opt [x60, x61] m) fun x94 m =>
  ckB (again (pur (aLoad false 1 x11 m) m) x12 && (again (pur (aLoad false 1 x14 m) m) x15 && (again (pur (aLoad false 1 x18 m) m) x19 && (again (pur (aLoad false 1 x21 m) m) x22 && (again (pur (aLoad false 1 x25 m) m) x26 && (again (pur (aLoad false 1 x30 m) m) x31 && (again (pur (aLoad false 1 x35 m) m) x36 && (again (pur (aLoad false 1 x40 m) m) x41 && (again (pur (aLoad false 1 x45 m) m) x46 && (again (pur (aLoad false 1 x50 m) m) x51 && (again (pur (aLoad false 1 x55 m) m) x56 && (again (pur (aLoad false 1 x62 m) m) x63 && (again (pur (aLoad false 1 x66 m) m) x67 && (again (pur (aLoad false 1 x69 m) m) x70 && (again (pur (aLoad false 1 x71 m) m) x72 && (again (pur (aLoad false 1 x74 m) m) x75 && true))))))))))))))))
    (bp (pur (bin .add true true .str (.string ⟨#[115, 101, 116, 32, 99, 111, 109, 109, 117, 110, 105, 116, 121, 32]⟩) x94) m) fun x95 m =>
  bp (G.tab F_flat_comms [x63] m) fun x96 m =>
  ckB (again (pur (aLoad false 1 x11 m) m) x12 && (again (pur (aLoad false 1 x14 m) m) x15 && (again (pur (aLoad false 1 x18 m) m) x19 && (again (pur (aLoad false 1 x21 m) m) x22 && (again (pur (aLoad false 1 x25 m) m) x26 && (again (pur (aLoad false 1 x30 m) m) x31 && (again (pur (aLoad false 1 x35 m) m) x36 && (again (pur (aLoad false 1 x40 m) m) x41 && (again (pur (aLoad false 1 x45 m) m) x46 && (again (pur (aLoad false 1 x50 m) m) x51 && (again (pur (aLoad false 1 x55 m) m) x56 && (again (pur (aLoad false 1 x66 m) m) x67 && (again (pur (aLoad false 1 x69 m) m) x70 && (again (pur (aLoad false 1 x71 m) m) x72 && (again (pur (aLoad false 1 x74 m) m) x75 && true)))))))))))))))
    (bp (pur (bin .add false true .str x95 x96) m) fun x97 m =>
  bp (pur (aBuild z_struct_K_is_bool__words_string_K [(0, 1), (1, 1)] [(0, x58), (1, x97)]) m) fun x98 m =>
  bp (G.tab F_strings_Join [p6, (.string ⟨#[32]⟩)] m) fun x99 m =>
  ckB (again (pur (aLoad false 1 x11 m) m) x12 && (again (pur (aLoad false 1 x14 m) m) x15 && (again (pur (aLoad false 1 x18 m) m) x19 && (again (pur (aLoad false 1 x21 m) m) x22 && (again (pur (aLoad false 1 x25 m) m) x26 && (again (pur (aLoad false 1 x30 m) m) x31 && (again (pur (aLoad false 1 x35 m) m) x36 && (again (pur (aLoad false 1 x40 m) m) x41 && (again (pur (aLoad false 1 x45 m) m) x46 && (again (pur (aLoad false 1 x50 m) m) x51 && (again (pur (aLoad false 1 x55 m) m) x56 && (again (pur (aLoad false 1 x66 m) m) x67 && (again (pur (aLoad false 1 x69 m) m) x70 && (again (pur (aLoad false 1 x71 m) m) x72 && (again (pur (aLoad false 1 x74 m) m) x75 && true)))))))))))))))
    (bp (pur (bin .add true true .str (.string ⟨#[115, 101, 116, 32, 112, 114, 101, 112, 101, 110, 100, 32]⟩) x99) m) fun x100 m =>
  bp (pur (aBuild z_struct_K_is_bool__words_string_K [(0, 1), (1, 1)] [(0, x65), (1, x100)]) m) fun x101 m =>
  bp (G.tab F_addr_Text [x70] m) fun x102 m =>
  ckB (again (pur (aLoad false 1 x11 m) m) x12 && (again (pur (aLoad false 1 x14 m) m) x15 && (again (pur (aLoad false 1 x18 m) m) x19 && (again (pur (aLoad false 1 x21 m) m) x22 && (again (pur (aLoad false 1 x25 m) m) x26 && (again (pur (aLoad false 1 x30 m) m) x31 && (again (pur (aLoad false 1 x35 m) m) x36 && (again (pur (aLoad false 1 x40 m) m) x41 && (again (pur (aLoad false 1 x45 m) m) x46 && (again (pur (aLoad false 1 x50 m) m) x51 && (again (pur (aLoad false 1 x55 m) m) x56 && (again (pur (aLoad false 1 x66 m) m) x67 && (again (pur (aLoad false 1 x71 m) m) x72 && (again (pur (aLoad false 1 x74 m) m) x75 && true))))))))))))))
    (bp (pur (bin .add true true .str (.string ⟨#[115, 101, 116, 32, 110, 101, 120, 116, 45, 104, 111, 112, 32]⟩) x102) m) fun x103 m =>
  bp (pur (aBuild z_struct_K_is_bool__words_string_K [(0, 1), (1, 1)] [(0, x68), (1, x103)]) m) fun x104 m =>
  bp (G.tab F_flat_number [x75] m) fun x105 m =>
  ckB (again (pur (aLoad false 1 x11 m) m) x12 && (again (pur (aLoad false 1 x14 m) m) x15 && (again (pur (aLoad false 1 x18 m) m) x19 && (again (pur (aLoad false 1 x21 m) m) x22 && (again (pur (aLoad false 1 x25 m) m) x26 && (again (pur (aLoad false 1 x30 m) m) x31 && (again (pur (aLoad false 1 x35 m) m) x36 && (again (pur (aLoad false 1 x40 m) m) x41 && (again (pur (aLoad false 1 x45 m) m) x46 && (again (pur (aLoad false 1 x50 m) m) x51 && (again (pur (aLoad false 1 x55 m) m) x56 && (again (pur (aLoad false 1 x66 m) m) x67 && (again (pur (aLoad false 1 x71 m) m) x72 && true)))))))))))))
    (bp (pur (bin .add true true .str (.string ⟨#[99, 111, 110, 116, 105, 110, 117, 101, 32]⟩) x105) m) fun x106 m =>
  bp (pur (aBuild z_struct_K_is_bool__words_string_K [(0, 1), (1, 1)] [(0, x73), (1, x106)]) m) fun x107 m =>
  bp (aBuildSlice T_struct_K_is_bool__words_string_K z_struct_K_is_bool__words_string_K 2 12 [(0, x17), (1, x24), (2, x78), (3, x81), (4, x84), (5, x87), (6, x90), (7, x93), (8, x98), (9, x101), (10, x104), (11, x107)] m) fun x108 m =>
  bp (pur (lenK 1 x108 m) m) fun x109 m =>
  s_Pflat_writer_clause_4 G (.int .i64 0) x109 x108 p0 m)))))))))))
noncomputable def s_Pflat_writer_clause_10 (G : Gt) : Nat → Value → Value → Value → Value → Value → Value → Mem → Option Rs
  | 0, _, _, _, _, _, _, _ => none
  | i + 1, p25, p24, p23, p6, p5, p0, m =>
  bp (pur (bin .lss false true .int p25 p24) m) fun x110 m =>
  brb x110
    (bp (pur (aIndexAddrSl 1 p23 p25) m) fun x111 m =>
  bp (pur (aLoad false 1 x111 m) m) fun x112 m =>
  bp (conv (.int .i64) x112 m) fun x113 m =>
  bp (G.tab F_flat_number [x113] m) fun x114 m =>
  bp (aBuildSlice T_string [(.string ⟨#[]⟩)] 1 1 [(0, x114)] m) fun x115 m =>
  bp (apS T_string 1 16 p6 x115 m) fun x116 m =>
  bp (pur (bin .add true true .int p25 (.int .i64 1)) m) fun x117 m =>
  (s_Pflat_writer_clause_10 G i) x117 p24 p23 x116 p5 p0 m)
    (s_Pflat_writer_clause_3 G p5 p6 p0 m)
noncomputable def s_Pflat_writer_clause_9 (G : Gt) (p25 p24 p23 p6 p5 p0 : Value) (m : Mem) : Option Rs :=
  s_Pflat_writer_clause_10 G G.rds p25 p24 p23 p6 p5 p0 m
noncomputable def s_Pflat_writer_clause_2 (G : Gt) (p5 p6 p0 : Value) (m : Mem) : Option Rs :=
  bp (pur (aFieldAddr 12 p5) m) fun x118 m =>
  bp (pur (aLoad false 1 x118 m) m) fun x119 m =>
  bp (pur (lenK 1 x119 m) m) fun x120 m =>
  s_Pflat_writer_clause_9 G (.int .i64 0) x120 x119 p6 p5 p0 m
noncomputable def s_Pflat_writer_clause_1 (G : Gt) (p5 p0 : Value) (m : Mem) : Option Rs :=
  s_Pflat_writer_clause_2 G p5 (.slice none 0 0) p0 m
noncomputable def s_Pflat_writer_clause_0 (G : Gt) (p0 p1 p5 : Value) (m : Mem) : Option Rs :=
  bp (pur (aBuildArr z_L3Jstring 1 [(0, (.string ⟨#[100, 101, 110, 121]⟩)), (1, (.string ⟨#[112, 101, 114, 109, 105, 116]⟩)), (2, (.string ⟨#[110, 101, 120, 116]⟩))]) m) fun x121 m =>
  bp (pur (aFieldAddr 1 p5) m) fun x122 m =>
  bp (pur (aLoad false 1 x122 m) m) fun x123 m =>
  bp (pur (aIndexArr 3 1 false x121 x123) m) fun x124 m =>
  bp (pur (aFieldAddr 0 p5) m) fun x125 m =>
  bp (pur (aLoad false 1 x125 m) m) fun x126 m =>
  bp (G.tab F_flat_number [x126] m) fun x127 m =>
  ckB (again (pur (aLoad false 1 x122 m) m) x123 && true)
    (bp (aBuildSlice T_string [(.string ⟨#[]⟩)] 1 4 [(0, (.string ⟨#[114, 111, 117, 116, 101, 45, 109, 97, 112]⟩)), (1, p1), (2, x124), (3, x127)] m) fun x128 m =>
  bp (G.tab F_Pflat_writer_line [p0, (.string ⟨#[]⟩), x128] m) fun x129 m =>
  s_Pflat_writer_clause_1 G p5 p0 m)
noncomputable def s_Pflat_writer_clause (G : Gt) (p2 p0 p1 : Value) (m : Mem) : Option Rs :=
  bp (some (aNew T_api_Clause (Value.cells p2).toList m)) fun x130 m =>
  s_Pflat_writer_clause_0 G p0 p1 x130 m
theorem e_Pflat_writer_clause (G : Gt) (a0 a1 a2 : Value) (m : Mem) : evFn Go.Proofs.Tryz.prog G.tab G.rds (drOf Go.Proofs.Tryz.prog G.tab) Go.Proofs.Tryz.f25 [a0, a1, a2] m = s_Pflat_writer_clause G a2 a0 a1 m :=
  evFn_of (r := fun ρ m => s_Pflat_writer_clause G (ρ 2) (ρ 0) (ρ 1) m) rfl rfl (tr (seqQ (f := fun ρ m => s_Pflat_writer_clause_0 G (ρ 0) (ρ 1) (ρ 5) m) (tr (seqQ (f := fun ρ m => s_Pflat_writer_clause_1 G (ρ 5) (ρ 0) m) (tr (seqQ (f := fun ρ m => s_Pflat_writer_clause_2 G (ρ 5) (ρ 6) (ρ 0) m) (tr (tr (seqQ (f := fun ρ m => s_Pflat_writer_clause_3 G (ρ 5) (ρ 6) (ρ 0) m) (tr (seqQ (f := fun ρ m => s_Pflat_writer_clause_4 G (ρ 137) (ρ 136) (ρ 135) (ρ 0) m) (tr (blockQ (loopQ (fun i ρ m => s_Pflat_writer_clause_5 G i (ρ 137) (ρ 136) (ρ 135) (ρ 0) m) (fun _ _ => rfl) (fun i0 => tr (seqQ (f := fun ρ m => s_Pflat_writer_clause_6 G (s_Pflat_writer_clause_5 G i0) (ρ 138) (ρ 135) (ρ 137) (ρ 0) (ρ 136) m) (tr (seqQ (f := fun ρ m => s_Pflat_writer_clause_7 G (s_Pflat_writer_clause_5 G i0) (ρ 135) (ρ 137) (ρ 0) (ρ 136) m) (tr (seqQ (f := fun ρ m => s_Pflat_writer_clause_8 G (s_Pflat_writer_clause_5 G i0) (ρ 137) (ρ 136) (ρ 135) (ρ 0) m) (fun ρ m => by kernel_rfl)) (fun ρ m => by kernel_rfl))) (fun ρ m => by kernel_rfl))) (fun ρ m => by kernel_rfl)))) (fun ρ m => by kernel_rfl))) (fun ρ m => by kernel_rfl))) (seqQ (f := fun ρ m => s_Pflat_writer_clause_9 G (ρ 25) (ρ 24) (ρ 23) (ρ 6) (ρ 5) (ρ 0) m) (tr (blockQ (loopQ (fun i ρ m => s_Pflat_writer_clause_10 G i (ρ 25) (ρ 24) (ρ 23) (ρ 6) (ρ 5) (ρ 0) m) (fun _ _ => rfl) (fun i0 => fun ρ m => by kernel_rfl))) (fun ρ m => by kernel_rfl)))) (fun ρ m => by kernel_rfl))) (fun ρ m => by kernel_rfl))) (fun ρ m => by kernel_rfl))) (fun ρ m => by kernel_rfl)) m
noncomputable def E_Pflat_writer_clause : Entry Go.Proofs.Tryz.prog := ⟨F_Pflat_writer_clause, Go.Proofs.Tryz.f25, Go.Proofs.Tryz.func25, by kernel_rfl, arg3 (fun G a0 a1 a2 m => s_Pflat_writer_clause G a2 a0 a1 m), okarg3 e_Pflat_writer_clause⟩
/-! 26 (*waymark/flat.writer).redists -/
noncomputable def s_Pflat_writer_redists_6 (G : Gt) (k0 : Value → Value → Value → Value → Value → Value → Mem → Option Rs) (p0 p10 p9 p3 p13 p12 p11 p2 : Value) (m : Mem) : Option Rs :=
  bp (pur (aFieldAddr 1 p9) m) fun x0 m =>
  bp (pur (aLoad false 1 x0 m) m) fun x1 m =>
  bp (pur (bin .geq true true .int x1 (.int .i64 0)) m) fun x2 m =>
  bp (pur (aFieldAddr 1 p9) m) fun x3 m =>
  bp (pur (aLoad false 1 x3 m) m) fun x4 m =>
  bp (pur (aFieldAddr 2 p9) m) fun x5 m =>
  bp (pur (aLoad false 1 x5 m) m) fun x6 m =>
  bp (conv (.int .i64) x6 m) fun x7 m =>
  bp (pur (aFieldAddr 3 p9) m) fun x8 m =>
  bp (pur (aLoad false 1 x8 m) m) fun x9 m =>
  bp (pur (bin .neq true true .str x9 (.string ⟨#[]⟩)) m) fun x10 m =>
  bp (pur (aFieldAddr 3 p9) m) fun x11 m =>
  bp (pur (aLoad false 1 x11 m) m) fun x12 m =>
  bp (aBuildSlice T_string [(.string ⟨#[]⟩)] 1 2 [(0, (.string ⟨#[114, 111, 117, 116, 101, 45, 109, 97, 112]⟩)), (1, x12)] m) fun x13 m =>
  bp (G.tab F_flat_number [x4] m) fun x14 m =>
  ckB (again (pur (aLoad false 1 x0 m) m) x1 && (again (pur (aLoad false 1 x5 m) m) x6 && (again (pur (aLoad false 1 x8 m) m) x9 && (again (pur (aLoad false 1 x11 m) m) x12 && true))))
    (bp (aBuildSlice T_string [(.string ⟨#[]⟩)] 1 2 [(0, (.string ⟨#[109, 101, 116, 114, 105, 99]⟩)), (1, x14)] m) fun x15 m =>
  bp (G.tab F_flat_opt [x2, x15] m) fun x16 m =>
  ckB (again (pur (aLoad false 1 x5 m) m) x6 && (again (pur (aLoad false 1 x8 m) m) x9 && (again (pur (aLoad false 1 x11 m) m) x12 && true)))
    (bp (G.tab F_flat_number [x7] m) fun x17 m =>
  ckB (again (pur (aLoad false 1 x8 m) m) x9 && (again (pur (aLoad false 1 x11 m) m) x12 && true))
    (bp (aBuildSlice T_string [(.string ⟨#[]⟩)] 1 2 [(0, (.string ⟨#[116, 121, 112, 101]⟩)), (1, x17)] m) fun x18 m =>
  bp (G.tab F_flat_opt [p3, x18] m) fun x19 m =>
  ckB (again (pur (aLoad false 1 x8 m) m) x9 && (again (pur (aLoad false 1 x11 m) m) x12 && true))
    (bp (G.tab F_flat_opt [x10, x13] m) fun x20 m =>
  bp (aBuildSlice T_string [(.string ⟨#[]⟩)] 1 5 [(0, (.string ⟨#[114, 101, 100, 105, 115, 116, 114, 105, 98, 117, 116, 101]⟩)), (1, p10), (2, x16), (3, x19), (4, x20)] m) fun x21 m =>
  bp (G.tab F_Pflat_writer_line [p0, (.string ⟨#[32]⟩), x21] m) fun x22 m =>
  bp (pur (bin .add true true .int p13 (.int .i64 1)) m) fun x23 m =>
  k0 x23 p12 p11 p2 p0 p3 m))))
noncomputable def s_Pflat_writer_redists_5 (G : Gt) (k0 : Value → Value → Value → Value → Value → Value → Mem → Option Rs) (p9 p0 p3 p13 p12 p11 p2 p10 : Value) (m : Mem) : Option Rs :=
  bp (pur (aFieldAddr 0 p9) m) fun x24 m =>
  bp (pur (aLoad false 1 x24 m) m) fun x25 m =>
  bp (pur (bin .eql true true .int x25 (.int .u8 1)) m) fun x26 m =>
  brb x26
    (s_Pflat_writer_redists_6 G k0 p0 (.string ⟨#[99, 111, 110, 110, 101, 99, 116, 101, 100]⟩) p9 p3 p13 p12 p11 p2 m)
    (bp (pur (bin .eql true true .int x25 (.int .u8 2)) m) fun x27 m =>
  brb x27
    (s_Pflat_writer_redists_6 G k0 p0 (.string ⟨#[115, 116, 97, 116, 105, 99]⟩) p9 p3 p13 p12 p11 p2 m)
    (s_Pflat_writer_redists_6 G k0 p0 p10 p9 p3 p13 p12 p11 p2 m))
noncomputable def s_Pflat_writer_redists_4 (G : Gt) (k0 : Value → Value → Value → Value → Value → Value → Mem → Option Rs) (p2 p9 p0 p3 p13 p12 p11 : Value) (m : Mem) : Option Rs :=
  s_Pflat_writer_redists_5 G k0 p9 p0 p3 p13 p12 p11 p2 p2 m
noncomputable def s_Pflat_writer_redists_3 (G : Gt) (k0 : Value → Value → Value → Value → Value → Value → Mem → Option Rs) (p11 p13 p2 p0 p3 p12 : Value) (m : Mem) : Option Rs :=
  bp (pur (aIndexAddrSl 4 p11 p13) m) fun x28 m =>
  bp (pur (aLoad true 4 x28 m) m) fun x29 m =>
  bp (some (aNew T_api_Redist z_api_Redist m)) fun x30 m =>
  bp (unt (aStore 4 x30 x29 m)) fun _ m =>
  s_Pflat_writer_redists_4 G k0 p2 x30 p0 p3 p13 p12 p11 m
noncomputable def s_Pflat_writer_redists_2 (G : Gt) (k0 : Value → Value → Value → Value → Value → Value → Mem → Option Rs) (p14 p11 p13 p2 p0 p3 p12 : Value) (m : Mem) : Option Rs :=
  brb p14
    (s_Pflat_writer_redists_3 G k0 p11 p13 p2 p0 p3 p12 m)
    (some (.tuple ⟨[]⟩, m))
noncomputable def s_Pflat_writer_redists_1 (G : Gt) : Nat → Value → Value → Value → Value → Value → Value → Mem → Option Rs
  | 0, _, _, _, _, _, _, _ => none
  | i + 1, p13, p12, p11, p2, p0, p3, m =>
  bp (pur (bin .lss false true .int p13 p12) m) fun x31 m =>
  s_Pflat_writer_redists_2 G (s_Pflat_writer_redists_1 G i) x31 p11 p13 p2 p0 p3 p12 m
noncomputable def s_Pflat_writer_redists_0 (G : Gt) (p13 p12 p11 p2 p0 p3 : Value) (m : Mem) : Option Rs :=
  s_Pflat_writer_redists_1 G G.rds p13 p12 p11 p2 p0 p3 m
noncomputable def s_Pflat_writer_redists (G : Gt) (p1 p2 p0 p3 : Value) (m : Mem) : Option Rs :=
  bp (pur (lenK 1 p1 m) m) fun x32 m =>
  s_Pflat_writer_redists_0 G (.int .i64 0) x32 p1 p2 p0 p3 m
theorem e_Pflat_writer_redists (G : Gt) (a0 a1 a2 a3 : Value) (m : Mem) : evFn Go.Proofs.Tryz.prog G.tab G.rds (drOf Go.Proofs.Tryz.prog G.tab) Go.Proofs.Tryz.f26 [a0, a1, a2, a3] m = s_Pflat_writer_redists G a1 a2 a0 a3 m :=
  evFn_of (r := fun ρ m => s_Pflat_writer_redists G (ρ 1) (ρ 2) (ρ 0) (ρ 3) m) rfl rfl (tr (seqQ (f := fun ρ m => s_Pflat_writer_redists_0 G (ρ 13) (ρ 12) (ρ 11) (ρ 2) (ρ 0) (ρ 3) m) (tr (blockQ (loopQ (fun i ρ m => s_Pflat_writer_redists_1 G i (ρ 13) (ρ 12) (ρ 11) (ρ 2) (ρ 0) (ρ 3) m) (fun _ _ => rfl) (fun i0 => tr (seqQ (f := fun ρ m => s_Pflat_writer_redists_2 G (s_Pflat_writer_redists_1 G i0) (ρ 14) (ρ 11) (ρ 13) (ρ 2) (ρ 0) (ρ 3) (ρ 12) m) (tr (seqQ (f := fun ρ m => s_Pflat_writer_redists_3 G (s_Pflat_writer_redists_1 G i0) (ρ 11) (ρ 13) (ρ 2) (ρ 0) (ρ 3) (ρ 12) m) (tr (tr seqD (blockQ (seqQ (f := fun ρ m => s_Pflat_writer_redists_4 G (s_Pflat_writer_redists_1 G i0) (ρ 2) (ρ 9) (ρ 0) (ρ 3) (ρ 13) (ρ 12) (ρ 11) m) (tr (seqQ (f := fun ρ m => s_Pflat_writer_redists_5 G (s_Pflat_writer_redists_1 G i0) (ρ 9) (ρ 0) (ρ 3) (ρ 13) (ρ 12) (ρ 11) (ρ 2) (ρ 10) m) (tr (seqQ (f := fun ρ m => s_Pflat_writer_redists_6 G (s_Pflat_writer_redists_1 G i0) (ρ 0) (ρ 10) (ρ 9) (ρ 3) (ρ 13) (ρ 12) (ρ 11) (ρ 2) m) (fun ρ m => by kernel_rfl)) (fun ρ m => by kernel_rfl))) (fun ρ m => by kernel_rfl))))) (fun ρ m => by kernel_rfl))) (fun ρ m => by kernel_rfl))) (fun ρ m => by kernel_rfl)))) (fun ρ m => by kernel_rfl))) (fun ρ m => by kernel_rfl)) m
noncomputable def E_Pflat_writer_redists : Entry Go.Proofs.Tryz.prog := ⟨F_Pflat_writer_redists, Go.Proofs.Tryz.f26, Go.Proofs.Tryz.func26, by kernel_rfl, arg4 (fun G a0 a1 a2 a3 m => s_Pflat_writer_redists G a1 a2 a0 a3 m), okarg4 e_Pflat_writer_redists⟩
end Go.Ab.Sh

set_option linter.unusedVariables false
set_option maxRecDepth 100000
namespace Go.Ab.Sh
open Go Go.Ab
/-! 27 (*waymark/flat.writer).bgp -/
noncomputable def s_Pflat_writer_bgp_4 (G : Gt) (p0 p3 : Value) (m : Mem) : Option Rs :=
  bp (pur (aFieldAddr 5 p3) m) fun x0 m =>
  bp (pur (aLoad false 1 x0 m) m) fun x1 m =>
  bp (G.tab F_Pflat_writer_redists [p0, x1, (.string ⟨#[111, 115, 112, 102]⟩), (.bool false)] m) fun x2 m =>
  some (.tuple ⟨[]⟩, m)
noncomputable def s_Pflat_writer_bgp_9 (G : Gt) (k0 : Value → Value → Value → Value → Value → Mem → Option Rs) (p51 p50 p49 p0 p3 : Value) (m : Mem) : Option Rs :=
  bp (pur (bin .add true true .int p51 (.int .i64 1)) m) fun x3 m =>
  k0 x3 p50 p49 p0 p3 m
noncomputable def s_Pflat_writer_bgp_17 (G : Gt) (k1 : Value → Value → Value → Value → Value → Value → Value → Value → Value → Mem → Option Rs) (p91 p90 p89 p0 p8 p51 p50 p49 p3 : Value) (m : Mem) : Option Rs :=
  bp (pur (bin .add true true .int p91 (.int .i64 1)) m) fun x4 m =>
  k1 x4 p90 p89 p0 p8 p51 p50 p49 p3 m
noncomputable def s_Pflat_writer_bgp_16 (G : Gt) (k1 : Value → Value → Value → Value → Value → Value → Value → Value → Value → Mem → Option Rs) (p89 p91 p0 p8 p90 p51 p50 p49 p3 : Value) (m : Mem) : Option Rs :=
  bp (pur (aIndexAddrSl 2 p89 p91) m) fun x5 m =>
  bp (pur (aLoad true 2 x5 m) m) fun x6 m =>
  bp (some (aNew T_struct_K_is_bool__words_string_K z_struct_K_is_bool__words_string_K m)) fun x7 m =>
  bp (unt (aStore 2 x7 x6 m)) fun _ m =>
  bp (pur (aFieldAddr 0 x7) m) fun x8 m =>
  bp (pur (aLoad false 1 x8 m) m) fun x9 m =>
  brb x9
    (bp (pur (aFieldAddr 1 x7) m) fun x10 m =>
  bp (pur (aLoad false 1 x10 m) m) fun x11 m =>
  bp (aBuildSlice T_string [(.string ⟨#[]⟩)] 1 2 [(0, p8), (1, x11)] m) fun x12 m =>
  bp (G.tab F_Pflat_writer_line [p0, (.string ⟨#[32]⟩), x12] m) fun x13 m =>
  s_Pflat_writer_bgp_17 G k1 p91 p90 p89 p0 p8 p51 p50 p49 p3 m)
    (s_Pflat_writer_bgp_17 G k1 p91 p90 p89 p0 p8 p51 p50 p49 p3 m)
noncomputable def s_Pflat_writer_bgp_15 (G : Gt) (k1 : Value → Value → Value → Value → Value → Value → Value → Value → Value → Mem → Option Rs) (k0 : Value → Value → Value → Value → Value → Mem → Option Rs) (p92 p89 p91 p0 p8 p90 p51 p50 p49 p3 : Value) (m : Mem) : Option Rs :=
  brb p92
    (s_Pflat_writer_bgp_16 G k1 p89 p91 p0 p8 p90 p51 p50 p49 p3 m)
    (s_Pflat_writer_bgp_9 G k0 p51 p50 p49 p0 p3 m)
noncomputable def s_Pflat_writer_bgp_14 (G : Gt) (k0 : Value → Value → Value → Value → Value → Mem → Option Rs) : Nat → Value → Value → Value → Value → Value → Value → Value → Value → Value → Mem → Option Rs
  | 0, _, _, _, _, _, _, _, _, _, _ => none
  | i + 1, p91, p90, p89, p0, p8, p51, p50, p49, p3, m =>
  bp (pur (bin .lss false true .int p91 p90) m) fun x14 m =>
  s_Pflat_writer_bgp_15 G (s_Pflat_writer_bgp_14 G k0 i) k0 x14 p89 p91 p0 p8 p90 p51 p50 p49 p3 m
noncomputable def s_Pflat_writer_bgp_13 (G : Gt) (k0 : Value → Value → Value → Value → Value → Mem → Option Rs) (p91 p90 p89 p0 p8 p51 p50 p49 p3 : Value) (m : Mem) : Option Rs :=
  s_Pflat_writer_bgp_14 G k0 G.rds p91 p90 p89 p0 p8 p51 p50 p49 p3 m
noncomputable def s_Pflat_writer_bgp_12 (G : Gt) (k0 : Value → Value → Value → Value → Value → Mem → Option Rs) (p7 p0 p8 p51 p50 p49 p3 : Value) (m : Mem) : Option Rs :=
  bp (pur (aFieldAddr 2 p7) m) fun x15 m =>
  bp (pur (aLoad false 1 x15 m) m) fun x16 m =>
  bp (pur (bin .neq true true .str x16 (.string ⟨#[]⟩)) m) fun x17 m =>
  bp (pur (aFieldAddr 2 p7) m) fun x18 m =>
  bp (pur (aLoad false 1 x18 m) m) fun x19 m =>
  bp (pur (bin .add true true .str (.string ⟨#[114, 111, 117, 116, 101, 45, 109, 97, 112, 32]⟩) x19) m) fun x20 m =>
  bp (pur (bin .add true true .str x20 (.string ⟨#[32, 105, 110]⟩)) m) fun x21 m =>
  bp (pur (aBuild z_struct_K_is_bool__words_string_K [(0, 1), (1, 1)] [(0, x17), (1, x21)]) m) fun x22 m =>
  bp (pur (aFieldAddr 3 p7) m) fun x23 m =>
  bp (pur (aLoad false 1 x23 m) m) fun x24 m =>
  bp (pur (bin .neq true true .str x24 (.string ⟨#[]⟩)) m) fun x25 m =>
  bp (pur (aFieldAddr 3 p7) m) fun x26 m =>
  bp (pur (aLoad false 1 x26 m) m) fun x27 m =>
  bp (pur (bin .add true true .str (.string ⟨#[114, 111, 117, 116, 101, 45, 109, 97, 112, 32]⟩) x27) m) fun x28 m =>
  bp (pur (bin .add true true .str x28 (.string ⟨#[32, 111, 117, 116]⟩)) m) fun x29 m =>
  bp (pur (aBuild z_struct_K_is_bool__words_string_K [(0, 1), (1, 1)] [(0, x25), (1, x29)]) m) fun x30 m =>
  bp (pur (aFieldAddr 4 p7) m) fun x31 m =>
  bp (pur (aLoad false 1 x31 m) m) fun x32 m =>
  bp (pur (aBuild z_struct_K_is_bool__words_string_K [(0, 1), (1, 1)] [(0, x32), (1, (.string ⟨#[99, 108, 105, 101, 110, 116]⟩))]) m) fun x33 m =>
  bp (pur (aFieldAddr 5 p7) m) fun x34 m =>
  bp (pur (aLoad false 1 x34 m) m) fun x35 m =>
  bp (pur (aBuild z_struct_K_is_bool__words_string_K [(0, 1), (1, 1)] [(0, x35), (1, (.string ⟨#[110, 101, 120, 116, 45, 104, 111, 112, 45, 115, 101, 108, 102]⟩))]) m) fun x36 m =>
  bp (aBuildSlice T_struct_K_is_bool__words_string_K z_struct_K_is_bool__words_string_K 2 4 [(0, x22), (1, x30), (2, x33), (3, x36)] m) fun x37 m =>
  bp (pur (lenK 1 x37 m) m) fun x38 m =>
  s_Pflat_writer_bgp_13 G k0 (.int .i64 0) x38 x37 p0 p8 p51 p50 p49 p3 m
noncomputable def s_Pflat_writer_bgp_11 (G : Gt) (k0 : Value → Value → Value → Value → Value → Mem → Option Rs) (p0 p8 p7 p51 p50 p49 p3 : Value) (m : Mem) : Option Rs :=
  bp (pur (aFieldAddr 1 p7) m) fun x39 m =>
  bp (pur (aLoad false 1 x39 m) m) fun x40 m =>
  bp (conv (.int .i64) x40 m) fun x41 m =>
  bp (G.tab F_flat_number [x41] m) fun x42 m =>
  bp (aBuildSlice T_string [(.string ⟨#[]⟩)] 1 3 [(0, p8), (1, (.string ⟨#[97, 115]⟩)), (2, x42)] m) fun x43 m =>
  bp (G.tab F_Pflat_writer_line [p0, (.string ⟨#[32]⟩), x43] m) fun x44 m =>
  s_Pflat_writer_bgp_12 G k0 p7 p0 p8 p51 p50 p49 p3 m
noncomputable def s_Pflat_writer_bgp_10 (G : Gt) (k0 : Value → Value → Value → Value → Value → Mem → Option Rs) (p7 p0 p51 p50 p49 p3 : Value) (m : Mem) : Option Rs :=
  bp (pur (aFieldAddr 0 p7) m) fun x45 m =>
  bp (pur (aLoad false 1 x45 m) m) fun x46 m =>
  bp (G.tab F_addr_Text [x46] m) fun x47 m =>
  bp (pur (bin .add true true .str (.string ⟨#[110, 101, 105, 103, 104, 98, 111, 114, 32]⟩) x47) m) fun x48 m =>
  s_Pflat_writer_bgp_11 G k0 p0 x48 p7 p51 p50 p49 p3 m
noncomputable def s_Pflat_writer_bgp_8 (G : Gt) (k0 : Value → Value → Value → Value → Value → Mem → Option Rs) (p49 p51 p0 p50 p3 : Value) (m : Mem) : Option Rs :=
  bp (pur (aIndexAddrSl 6 p49 p51) m) fun x49 m =>
  bp (pur (aLoad true 6 x49 m) m) fun x50 m =>
  bp (some (aNew T_api_Peer z_api_Peer m)) fun x51 m =>
  bp (unt (aStore 6 x51 x50 m)) fun _ m =>
  s_Pflat_writer_bgp_10 G k0 x51 p0 p51 p50 p49 p3 m
noncomputable def s_Pflat_writer_bgp_7 (G : Gt) (k0 : Value → Value → Value → Value → Value → Mem → Option Rs) (p52 p49 p51 p0 p50 p3 : Value) (m : Mem) : Option Rs :=
  brb p52
    (s_Pflat_writer_bgp_8 G k0 p49 p51 p0 p50 p3 m)
    (s_Pflat_writer_bgp_4 G p0 p3 m)
noncomputable def s_Pflat_writer_bgp_6 (G : Gt) : Nat → Value → Value → Value → Value → Value → Mem → Option Rs
  | 0, _, _, _, _, _, _ => none
  | i + 1, p51, p50, p49, p0, p3, m =>
  bp (pur (bin .lss false true .int p51 p50) m) fun x52 m =>
  s_Pflat_writer_bgp_7 G (s_Pflat_writer_bgp_6 G i) x52 p49 p51 p0 p50 p3 m
noncomputable def s_Pflat_writer_bgp_5 (G : Gt) (p51 p50 p49 p0 p3 : Value) (m : Mem) : Option Rs :=
  s_Pflat_writer_bgp_6 G G.rds p51 p50 p49 p0 p3 m
noncomputable def s_Pflat_writer_bgp_3 (G : Gt) (p3 p0 : Value) (m : Mem) : Option Rs :=
  bp (pur (aFieldAddr 4 p3) m) fun x53 m =>
  bp (pur (aLoad false 1 x53 m) m) fun x54 m =>
  bp (pur (lenK 1 x54 m) m) fun x55 m =>
  s_Pflat_writer_bgp_5 G (.int .i64 0) x55 x54 p0 p3 m
noncomputable def s_Pflat_writer_bgp_19 (G : Gt) : Nat → Value → Value → Value → Value → Value → Mem → Option Rs
  | 0, _, _, _, _, _, _ => none
  | i + 1, p34, p33, p32, p0, p3, m =>
  bp (pur (bin .lss false true .int p34 p33) m) fun x56 m =>
  brb x56
    (bp (pur (aIndexAddrSl 2 p32 p34) m) fun x57 m =>
  bp (pur (aLoad true 2 x57 m) m) fun x58 m =>
  bp (some (aNew T_api_Prefix z_api_Prefix m)) fun x59 m =>
  bp (unt (aStore 2 x59 x58 m)) fun _ m =>
  bp (pur (aFieldAddr 0 x59) m) fun x60 m =>
  bp (pur (aLoad false 1 x60 m) m) fun x61 m =>
  bp (pur (aFieldAddr 1 x59) m) fun x62 m =>
  bp (pur (aLoad false 1 x62 m) m) fun x63 m =>
  bp (G.tab F_addr_Text [x61] m) fun x64 m =>
  ckB (again (pur (aLoad false 1 x62 m) m) x63 && true)
    (bp (G.tab F_flat_mask [x63, (.bool false)] m) fun x65 m =>
  bp (aBuildSlice T_string [(.string ⟨#[]⟩)] 1 3 [(0, (.string ⟨#[110, 101, 116, 119, 111, 114, 107]⟩)), (1, x64), (2, x65)] m) fun x66 m =>
  bp (G.tab F_Pflat_writer_line [p0, (.string ⟨#[32]⟩), x66] m) fun x67 m =>
  bp (pur (bin .add true true .int p34 (.int .i64 1)) m) fun x68 m =>
  (s_Pflat_writer_bgp_19 G i) x68 p33 p32 p0 p3 m))
    (s_Pflat_writer_bgp_3 G p3 p0 m)
noncomputable def s_Pflat_writer_bgp_18 (G : Gt) (p34 p33 p32 p0 p3 : Value) (m : Mem) : Option Rs :=
  s_Pflat_writer_bgp_19 G G.rds p34 p33 p32 p0 p3 m
noncomputable def s_Pflat_writer_bgp_2 (G : Gt) (p3 p0 : Value) (m : Mem) : Option Rs :=
  bp (pur (aFieldAddr 3 p3) m) fun x69 m =>
  bp (pur (aLoad false 1 x69 m) m) fun x70 m =>
  bp (pur (lenK 1 x70 m) m) fun x71 m =>
  s_Pflat_writer_bgp_18 G (.int .i64 0) x71 x70 p0 p3 m
noncomputable def s_Pflat_writer_bgp_1 (G : Gt) (p0 p3 : Value) (m : Mem) : Option Rs :=
  bp (pur (aFieldAddr 2 p3) m) fun x72 m =>
  bp (pur (aLoad false 1 x72 m) m) fun x73 m =>
  bp (G.tab F_addr_Text [x73] m) fun x74 m =>
  bp (aBuildSlice T_string [(.string ⟨#[]⟩)] 1 2 [(0, (.string ⟨#[114, 111, 117, 116, 101, 114, 45, 105, 100]⟩)), (1, x74)] m) fun x75 m =>
  bp (G.tab F_Pflat_writer_line [p0, (.string ⟨#[32]⟩), x75] m) fun x76 m =>
  s_Pflat_writer_bgp_2 G p3 p0 m
noncomputable def s_Pflat_writer_bgp_0 (G : Gt) (p0 p3 : Value) (m : Mem) : Option Rs :=
  bp (pur (aFieldAddr 1 p3) m) fun x77 m =>
  bp (pur (aLoad false 1 x77 m) m) fun x78 m =>
  bp (conv (.int .i64) x78 m) fun x79 m =>
  bp (pur (aFieldAddr 0 p3) m) fun x80 m =>
  bp (pur (aLoad false 1 x80 m) m) fun x81 m =>
  bp (pur (bin .neq true true .str x81 (.string ⟨#[]⟩)) m) fun x82 m =>
  bp (pur (aFieldAddr 0 p3) m) fun x83 m =>
  bp (pur (aLoad false 1 x83 m) m) fun x84 m =>
  bp (aBuildSlice T_string [(.string ⟨#[]⟩)] 1 2 [(0, (.string ⟨#[118, 114, 102]⟩)), (1, x84)] m) fun x85 m =>
  bp (G.tab F_flat_number [x79] m) fun x86 m =>
  ckB (again (pur (aLoad false 1 x80 m) m) x81 && (again (pur (aLoad false 1 x83 m) m) x84 && true))
    (bp (G.tab F_flat_opt [x82, x85] m) fun x87 m =>
  bp (aBuildSlice T_string [(.string ⟨#[]⟩)] 1 3 [(0, (.string ⟨#[114, 111, 117, 116, 101, 114, 32, 98, 103, 112]⟩)), (1, x86), (2, x87)] m) fun x88 m =>
  bp (G.tab F_Pflat_writer_line [p0, (.string ⟨#[]⟩), x88] m) fun x89 m =>
  s_Pflat_writer_bgp_1 G p0 p3 m)
noncomputable def s_Pflat_writer_bgp (G : Gt) (p1 p0 : Value) (m : Mem) : Option Rs :=
  bp (some (aNew T_api_BGP (Value.cells p1).toList m)) fun x90 m =>
  s_Pflat_writer_bgp_0 G p0 x90 m
theorem e_Pflat_writer_bgp (G : Gt) (a0 a1 : Value) (m : Mem) : evFn Go.Proofs.Tryz.prog G.tab G.rds (drOf Go.Proofs.Tryz.prog G.tab) Go.Proofs.Tryz.f27 [a0, a1] m = s_Pflat_writer_bgp G a1 a0 m :=
  evFn_of (r := fun ρ m => s_Pflat_writer_bgp G (ρ 1) (ρ 0) m) rfl rfl (tr (seqQ (f := fun ρ m => s_Pflat_writer_bgp_0 G (ρ 0) (ρ 3) m) (tr (seqQ (f := fun ρ m => s_Pflat_writer_bgp_1 G (ρ 0) (ρ 3) m) (tr (seqQ (f := fun ρ m => s_Pflat_writer_bgp_2 G (ρ 3) (ρ 0) m) (tr (tr (seqQ (f := fun ρ m => s_Pflat_writer_bgp_3 G (ρ 3) (ρ 0) m) (tr (tr (seqQ (f := fun ρ m => s_Pflat_writer_bgp_4 G (ρ 0) (ρ 3) m) (fun ρ m => by kernel_rfl)) (seqQ (f := fun ρ m => s_Pflat_writer_bgp_5 G (ρ 51) (ρ 50) (ρ 49) (ρ 0) (ρ 3) m) (tr (blockQ (loopQ (fun i ρ m => s_Pflat_writer_bgp_6 G i (ρ 51) (ρ 50) (ρ 49) (ρ 0) (ρ 3) m) (fun _ _ => rfl) (fun i0 => tr (seqQ (f := fun ρ m => s_Pflat_writer_bgp_7 G (s_Pflat_writer_bgp_6 G i0) (ρ 52) (ρ 49) (ρ 51) (ρ 0) (ρ 50) (ρ 3) m) (tr (seqQ (f := fun ρ m => s_Pflat_writer_bgp_8 G (s_Pflat_writer_bgp_6 G i0) (ρ 49) (ρ 51) (ρ 0) (ρ 50) (ρ 3) m) (tr (tr (seqQ (f := fun ρ m => s_Pflat_writer_bgp_9 G (s_Pflat_writer_bgp_6 G i0) (ρ 51) (ρ 50) (ρ 49) (ρ 0) (ρ 3) m) (fun ρ m => by kernel_rfl)) (blockQ (seqQ (f := fun ρ m => s_Pflat_writer_bgp_10 G (s_Pflat_writer_bgp_6 G i0) (ρ 7) (ρ 0) (ρ 51) (ρ 50) (ρ 49) (ρ 3) m) (tr (seqQ (f := fun ρ m => s_Pflat_writer_bgp_11 G (s_Pflat_writer_bgp_6 G i0) (ρ 0) (ρ 8) (ρ 7) (ρ 51) (ρ 50) (ρ 49) (ρ 3) m) (tr (seqQ (f := fun ρ m => s_Pflat_writer_bgp_12 G (s_Pflat_writer_bgp_6 G i0) (ρ 7) (ρ 0) (ρ 8) (ρ 51) (ρ 50) (ρ 49) (ρ 3) m) (tr (seqQ (f := fun ρ m => s_Pflat_writer_bgp_13 G (s_Pflat_writer_bgp_6 G i0) (ρ 91) (ρ 90) (ρ 89) (ρ 0) (ρ 8) (ρ 51) (ρ 50) (ρ 49) (ρ 3) m) (tr (blockQ (loopQ (fun i ρ m => s_Pflat_writer_bgp_14 G (s_Pflat_writer_bgp_6 G i0) i (ρ 91) (ρ 90) (ρ 89) (ρ 0) (ρ 8) (ρ 51) (ρ 50) (ρ 49) (ρ 3) m) (fun _ _ => rfl) (fun i1 => tr (seqQ (f := fun ρ m => s_Pflat_writer_bgp_15 G (s_Pflat_writer_bgp_14 G (s_Pflat_writer_bgp_6 G i0) i1) (s_Pflat_writer_bgp_6 G i0) (ρ 92) (ρ 89) (ρ 91) (ρ 0) (ρ 8) (ρ 90) (ρ 51) (ρ 50) (ρ 49) (ρ 3) m) (tr (seqQ (f := fun ρ m => s_Pflat_writer_bgp_16 G (s_Pflat_writer_bgp_14 G (s_Pflat_writer_bgp_6 G i0) i1) (ρ 89) (ρ 91) (ρ 0) (ρ 8) (ρ 90) (ρ 51) (ρ 50) (ρ 49) (ρ 3) m) (tr (seqQ (f := fun ρ m => s_Pflat_writer_bgp_17 G (s_Pflat_writer_bgp_14 G (s_Pflat_writer_bgp_6 G i0) i1) (ρ 91) (ρ 90) (ρ 89) (ρ 0) (ρ 8) (ρ 51) (ρ 50) (ρ 49) (ρ 3) m) (fun ρ m => by kernel_rfl)) (fun ρ m => by kernel_rfl))) (fun ρ m => by kernel_rfl))) (fun ρ m => by kernel_rfl)))) (fun ρ m => by kernel_rfl))) (fun ρ m => by kernel_rfl))) (fun ρ m => by kernel_rfl))) (fun ρ m => by kernel_rfl))))) (fun ρ m => by kernel_rfl))) (fun ρ m => by kernel_rfl))) (fun ρ m => by kernel_rfl)))) (fun ρ m => by kernel_rfl)))) (fun ρ m => by kernel_rfl))) (seqQ (f := fun ρ m => s_Pflat_writer_bgp_18 G (ρ 34) (ρ 33) (ρ 32) (ρ 0) (ρ 3) m) (tr (blockQ (loopQ (fun i ρ m => s_Pflat_writer_bgp_19 G i (ρ 34) (ρ 33) (ρ 32) (ρ 0) (ρ 3) m) (fun _ _ => rfl) (fun i0 => fun ρ m => by kernel_rfl))) (fun ρ m => by kernel_rfl)))) (fun ρ m => by kernel_rfl))) (fun ρ m => by kernel_rfl))) (fun ρ m => by kernel_rfl))) (fun ρ m => by kernel_rfl)) m
noncomputable def E_Pflat_writer_bgp : Entry Go.Proofs.Tryz.prog := ⟨F_Pflat_writer_bgp, Go.Proofs.Tryz.f27, Go.Proofs.Tryz.func27, by kernel_rfl, arg2 (fun G a0 a1 m => s_Pflat_writer_bgp G a1 a0 m), okarg2 e_Pflat_writer_bgp⟩
/-! 28 (*strings.Builder).String -/
noncomputable def s_Pstrings_Builder_String (G : Gt) (p0 : Value) (m : Mem) : Option Rs :=
  bp (pur (aNilCheck p0) m) fun x0 m =>
  bp (pur (aFieldAddr 1 x0) m) fun x1 m =>
  bp (pur (aLoad false 1 x1 m) m) fun x2 m =>
  bp (pur (aNilCheck p0) m) fun x3 m =>
  bp (pur (aFieldAddr 1 x3) m) fun x4 m =>
  bp (pur (aLoad false 1 x4 m) m) fun x5 m =>
  bp (pur (lenK 1 x5 m) m) fun x6 m =>
  bp (pur (aSliceData x2) m) fun x7 m =>
  ckB (again (pur (aLoad false 1 x4 m) m) x5 && true)
    (bp (aUnsafeString T_uint8 x7 x6 m) fun x8 m =>
  some (x8, m))
theorem e_Pstrings_Builder_String (G : Gt) (a0 : Value) (m : Mem) : evFn Go.Proofs.Tryz.prog G.tab G.rds (drOf Go.Proofs.Tryz.prog G.tab) Go.Proofs.Tryz.f28 [a0] m = s_Pstrings_Builder_String G a0 m :=
  evFn_of (r := fun ρ m => s_Pstrings_Builder_String G (ρ 0) m) rfl rfl (fun ρ m => by kernel_rfl) m
noncomputable def E_Pstrings_Builder_String : Entry Go.Proofs.Tryz.prog := ⟨F_Pstrings_Builder_String, Go.Proofs.Tryz.f28, Go.Proofs.Tryz.func28, by kernel_rfl, arg1 (fun G a0 m => s_Pstrings_Builder_String G a0 m), okarg1 e_Pstrings_Builder_String⟩
/-! 29 waymark/waymarkref13.dump -/
noncomputable def s_waymarkref13_dump_3 (G : Gt) (p5 : Value) (m : Mem) : Option Rs :=
  bp (pur (bin .add true true .str p5 (.string ⟨#[41]⟩)) m) fun x0 m =>
  some (x0, m)
noncomputable def s_waymarkref13_dump_5 (G : Gt) : Nat → Value → Value → Value → Mem → Option Rs
  | 0, _, _, _, _ => none
  | i + 1, p7, p1, p5, m =>
  bp (pur (lenK 1 p1 m) m) fun x1 m =>
  bp (pur (bin .lss false true .int p7 x1) m) fun x2 m =>
  brb x2
    (bp (pur (aIndexAddrSl 1 p1 p7) m) fun x3 m =>
  bp (pur (aLoad false 1 x3 m) m) fun x4 m =>
  bp (pur (lenK 0 x4 m) m) fun x5 m =>
  bp (pur (aIndexAddrSl 1 p1 p7) m) fun x6 m =>
  bp (pur (aLoad false 1 x6 m) m) fun x7 m =>
  bp (G.tab F_waymarkref01_Number [x5] m) fun x8 m =>
  ckB (again (pur (aLoad false 1 x6 m) m) x7 && true)
    (bp (pur (bin .add false true .str p5 x8) m) fun x9 m =>
  bp (pur (bin .add true true .str x9 (.string ⟨#[58]⟩)) m) fun x10 m =>
  bp (pur (bin .add false true .str x10 x7) m) fun x11 m =>
  bp (pur (bin .add true true .int p7 (.int .i64 1)) m) fun x12 m =>
  (s_waymarkref13_dump_5 G i) x12 p1 x11 m))
    (s_waymarkref13_dump_3 G p5 m)
noncomputable def s_waymarkref13_dump_4 (G : Gt) (p7 p1 p5 : Value) (m : Mem) : Option Rs :=
  s_waymarkref13_dump_5 G G.rds p7 p1 p5 m
noncomputable def s_waymarkref13_dump_2 (G : Gt) (p1 p5 : Value) (m : Mem) : Option Rs :=
  s_waymarkref13_dump_4 G (.int .i64 0) p1 p5 m
noncomputable def s_waymarkref13_dump_7 (G : Gt) : Nat → Value → Value → Value → Value → Mem → Option Rs
  | 0, _, _, _, _, _ => none
  | i + 1, p6, p0, p5, p1, m =>
  bp (pur (lenK 1 p0 m) m) fun x13 m =>
  bp (pur (bin .lss false true .int p6 x13) m) fun x14 m =>
  brb x14
    (bp (pur (aIndexAddrSl 1 p0 p6) m) fun x15 m =>
  bp (pur (aLoad false 1 x15 m) m) fun x16 m =>
  bp (G.tab F_waymarkref01_Number [x16] m) fun x17 m =>
  bp (pur (bin .add false true .str p5 x17) m) fun x18 m =>
  bp (pur (bin .add true true .str x18 (.string ⟨#[44]⟩)) m) fun x19 m =>
  bp (pur (bin .add true true .int p6 (.int .i64 1)) m) fun x20 m =>
  (s_waymarkref13_dump_7 G i) x20 p0 x19 p1 m)
    (s_waymarkref13_dump_2 G p1 p5 m)
noncomputable def s_waymarkref13_dump_6 (G : Gt) (p6 p0 p5 p1 : Value) (m : Mem) : Option Rs :=
  s_waymarkref13_dump_7 G G.rds p6 p0 p5 p1 m
noncomputable def s_waymarkref13_dump_1 (G : Gt) (p0 p5 p1 : Value) (m : Mem) : Option Rs :=
  s_waymarkref13_dump_6 G (.int .i64 0) p0 p5 p1 m
noncomputable def s_waymarkref13_dump_0 (G : Gt) (p0 p1 : Value) (m : Mem) : Option Rs :=
  s_waymarkref13_dump_1 G p0 (.string ⟨#[40]⟩) p1 m
noncomputable def s_waymarkref13_dump (G : Gt) (p0 p1 : Value) (m : Mem) : Option Rs :=
  s_waymarkref13_dump_0 G p0 p1 m
theorem e_waymarkref13_dump (G : Gt) (a0 a1 : Value) (m : Mem) : evFn Go.Proofs.Tryz.prog G.tab G.rds (drOf Go.Proofs.Tryz.prog G.tab) Go.Proofs.Tryz.f29 [a0, a1] m = s_waymarkref13_dump G a0 a1 m :=
  evFn_of (r := fun ρ m => s_waymarkref13_dump G (ρ 0) (ρ 1) m) rfl rfl (tr (seqQ (f := fun ρ m => s_waymarkref13_dump_0 G (ρ 0) (ρ 1) m) (tr (seqQ (f := fun ρ m => s_waymarkref13_dump_1 G (ρ 0) (ρ 5) (ρ 1) m) (tr (tr (seqQ (f := fun ρ m => s_waymarkref13_dump_2 G (ρ 1) (ρ 5) m) (tr (tr (seqQ (f := fun ρ m => s_waymarkref13_dump_3 G (ρ 5) m) (fun ρ m => by kernel_rfl)) (seqQ (f := fun ρ m => s_waymarkref13_dump_4 G (ρ 7) (ρ 1) (ρ 5) m) (tr (blockQ (loopQ (fun i ρ m => s_waymarkref13_dump_5 G i (ρ 7) (ρ 1) (ρ 5) m) (fun _ _ => rfl) (fun i0 => fun ρ m => by kernel_rfl))) (fun ρ m => by kernel_rfl)))) (fun ρ m => by kernel_rfl))) (seqQ (f := fun ρ m => s_waymarkref13_dump_6 G (ρ 6) (ρ 0) (ρ 5) (ρ 1) m) (tr (blockQ (loopQ (fun i ρ m => s_waymarkref13_dump_7 G i (ρ 6) (ρ 0) (ρ 5) (ρ 1) m) (fun _ _ => rfl) (fun i0 => fun ρ m => by kernel_rfl))) (fun ρ m => by kernel_rfl)))) (fun ρ m => by kernel_rfl))) (fun ρ m => by kernel_rfl))) (fun ρ m => by kernel_rfl)) m
noncomputable def E_waymarkref13_dump : Entry Go.Proofs.Tryz.prog := ⟨F_waymarkref13_dump, Go.Proofs.Tryz.f29, Go.Proofs.Tryz.func29, by kernel_rfl, arg2 (fun G a0 a1 m => s_waymarkref13_dump G a0 a1 m), okarg2 e_waymarkref13_dump⟩
/-! 30 waymark/waymarkref13.bit -/
noncomputable def s_waymarkref13_bit (G : Gt) (p0 : Value) (m : Mem) : Option Rs :=
  brb p0
    (some ((.int .i64 1), m))
    (some ((.int .i64 0), m))
theorem e_waymarkref13_bit (G : Gt) (a0 : Value) (m : Mem) : evFn Go.Proofs.Tryz.prog G.tab G.rds (drOf Go.Proofs.Tryz.prog G.tab) Go.Proofs.Tryz.f30 [a0] m = s_waymarkref13_bit G a0 m :=
  evFn_of (r := fun ρ m => s_waymarkref13_bit G (ρ 0) m) rfl rfl (fun ρ m => by kernel_rfl) m
noncomputable def E_waymarkref13_bit : Entry Go.Proofs.Tryz.prog := ⟨F_waymarkref13_bit, Go.Proofs.Tryz.f30, Go.Proofs.Tryz.func30, by kernel_rfl, arg1 (fun G a0 m => s_waymarkref13_bit G a0 m), okarg1 e_waymarkref13_bit⟩
end Go.Ab.Sh
