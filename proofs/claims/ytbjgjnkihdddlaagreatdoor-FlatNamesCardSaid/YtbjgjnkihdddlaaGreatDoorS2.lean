/-
  Functions of the program as plain definitions, each with the theorem that it is what the evaluator makes of the code. No conditions.
-/
import Derived.Test.YtbjgjnkihdddlaaGreatDoorAb4
import Derived.Test.YtbjgjnkihdddlaaGreatDoorZ
import Derived.KernelRfl
import Derived.Test.YtbjgjnkihdddlaaGreatDoorProg
set_option linter.unusedVariables false
set_option maxRecDepth 100000
namespace Go.Ab.Sh
open Go Go.Ab
/-! 8 waymark/lex.Lines -/
noncomputable def s_lex_Lines_3 (G : Gt) (p7 p3 : Value) (m : Mem) : Option Rs :=
  bp (pur (aBuild z_api_Pos [(0, 1), (1, 1)] []) m) fun x0 m =>
  bp (unt (aStore 2 p3 x0 m)) fun _ m =>
  ob (ob (ob (aLoad true 2 p3 m) fun v => ob (some [(.int .i64 0)]) fun l => some (v :: l)) fun l => some (p7 :: l)) fun l => some (resVal l, m)
noncomputable def s_lex_Lines_8 (G : Gt) (k0 : Value → Value → Value → Value → Value → Mem → Option Rs) (p28 p27 p26 p7 p3 : Value) (m : Mem) : Option Rs :=
  bp (pur (bin .add true true .int p28 (.int .i64 1)) m) fun x1 m =>
  k0 x1 p27 p26 p7 p3 m
noncomputable def s_lex_Lines_13 (G : Gt) (k0 : Value → Value → Value → Value → Value → Mem → Option Rs) (p7 p11 p28 p27 p26 p3 : Value) (m : Mem) : Option Rs :=
  bp (pur (aLoad true 2 p11 m) m) fun x2 m =>
  bp (aBuildSlice T_lex_Line z_lex_Line 2 1 [(0, x2)] m) fun x3 m =>
  bp (apS T_lex_Line 2 32 p7 x3 m) fun x4 m =>
  s_lex_Lines_8 G k0 p28 p27 p26 x4 p3 m
noncomputable def s_lex_Lines_14 (G : Gt) (k0 : Value → Value → Value → Value → Value → Mem → Option Rs) : Nat → Value → Value → Value → Value → Value → Value → Value → Value → Value → Mem → Option Rs
  | 0, _, _, _, _, _, _, _, _, _, _ => none
  | i + 1, p10, p9, p11, p8, p7, p28, p27, p26, p3, m =>
  bp (pur (bin .neq true true .str p10 (.string ⟨#[]⟩)) m) fun x5 m =>
  brb x5
    (bp (pur (lenK 0 p9 m) m) fun x6 m =>
  bp (pur (lenK 0 p10 m) m) fun x7 m =>
  bp (pur (bin .sub false true .int x6 x7) m) fun x8 m =>
  bp (pur (bin .add true true .int x8 (.int .i64 1)) m) fun x9 m =>
  bp (G.tab F_strings_Cut [p10, (.string ⟨#[32]⟩)] m) fun x10 m =>
  bp (pur (aExtract x10 0) m) fun x11 m =>
  bp (pur (aExtract x10 1) m) fun x12 m =>
  bp (pur (aExtract x10 2) m) fun x13 m =>
  bp (pur (aFieldAddr 1 p11) m) fun x14 m =>
  bp (pur (aLoad false 1 x14 m) m) fun x15 m =>
  bp (pur (bin .add true true .int p8 (.int .i64 1)) m) fun x16 m =>
  bp (pur (aBuild z_api_Pos [(0, 1), (1, 1)] [(0, x16), (1, x9)]) m) fun x17 m =>
  bp (pur (aBuild z_lex_Word [(0, 1), (1, 2)] [(0, x11), (1, x17)]) m) fun x18 m =>
  bp (aBuildSlice T_lex_Word z_lex_Word 3 1 [(0, x18)] m) fun x19 m =>
  bp (apS T_lex_Word 3 32 x15 x19 m) fun x20 m =>
  bp (pur (aFieldAddr 1 p11) m) fun x21 m =>
  bp (unt (aStore 1 x21 x20 m)) fun _ m =>
  bp (G.tab F_strings_TrimLeft [x12, (.string ⟨#[32]⟩)] m) fun x22 m =>
  (s_lex_Lines_14 G k0 i) x22 p9 p11 p8 p7 p28 p27 p26 p3 m)
    (s_lex_Lines_13 G k0 p7 p11 p28 p27 p26 p3 m)
noncomputable def s_lex_Lines_12 (G : Gt) (k0 : Value → Value → Value → Value → Value → Mem → Option Rs) (p10 p9 p11 p8 p7 p28 p27 p26 p3 : Value) (m : Mem) : Option Rs :=
  s_lex_Lines_14 G k0 G.rds p10 p9 p11 p8 p7 p28 p27 p26 p3 m
noncomputable def s_lex_Lines_11 (G : Gt) (k0 : Value → Value → Value → Value → Value → Mem → Option Rs) (p9 p10 p8 p7 p28 p27 p26 p3 : Value) (m : Mem) : Option Rs :=
  bp (pur (lenK 0 p9 m) m) fun x23 m =>
  bp (pur (lenK 0 p10 m) m) fun x24 m =>
  bp (pur (bin .sub false true .int x23 x24) m) fun x25 m =>
  bp (pur (aBuild z_lex_Line [(0, 1), (1, 1)] [(0, x25)]) m) fun x26 m =>
  bp (some (aNew T_lex_Line z_lex_Line m)) fun x27 m =>
  bp (unt (aStore 2 x27 x26 m)) fun _ m =>
  s_lex_Lines_12 G k0 p10 p9 x27 p8 p7 p28 p27 p26 p3 m
noncomputable def s_lex_Lines_15 (G : Gt) (k0 : Value → Value → Value → Value → Value → Mem → Option Rs) (p41 p28 p27 p26 p7 p3 p9 p10 p8 : Value) (m : Mem) : Option Rs :=
  brb p41
    (s_lex_Lines_8 G k0 p28 p27 p26 p7 p3 m)
    (s_lex_Lines_11 G k0 p9 p10 p8 p7 p28 p27 p26 p3 m)
noncomputable def s_lex_Lines_10 (G : Gt) (k0 : Value → Value → Value → Value → Value → Mem → Option Rs) (p10 p28 p27 p26 p7 p3 p9 p8 : Value) (m : Mem) : Option Rs :=
  bp (pur (bin .eql true true .str p10 (.string ⟨#[]⟩)) m) fun x28 m =>
  brb x28
    (s_lex_Lines_15 G k0 (.bool true) p28 p27 p26 p7 p3 p9 p10 p8 m)
    (bp (pur (aIndexStr p10 (.int .i64 0)) m) fun x29 m =>
  bp (pur (bin .eql true true .int x29 (.int .u8 33)) m) fun x30 m =>
  s_lex_Lines_15 G k0 x30 p28 p27 p26 p7 p3 p9 p10 p8 m)
noncomputable def s_lex_Lines_9 (G : Gt) (k0 : Value → Value → Value → Value → Value → Mem → Option Rs) (p9 p28 p27 p26 p7 p3 p8 : Value) (m : Mem) : Option Rs :=
  bp (G.tab F_strings_TrimLeft [p9, (.string ⟨#[32]⟩)] m) fun x31 m =>
  s_lex_Lines_10 G k0 x31 p28 p27 p26 p7 p3 p9 p8 m
noncomputable def s_lex_Lines_7 (G : Gt) (k0 : Value → Value → Value → Value → Value → Mem → Option Rs) (p28 p26 p27 p7 p3 : Value) (m : Mem) : Option Rs :=
  bp (pur (aIndexAddrSl 1 p26 p28) m) fun x32 m =>
  bp (pur (aLoad false 1 x32 m) m) fun x33 m =>
  s_lex_Lines_9 G k0 x33 p28 p27 p26 p7 p3 p28 m
noncomputable def s_lex_Lines_6 (G : Gt) (k0 : Value → Value → Value → Value → Value → Mem → Option Rs) (p29 p28 p26 p27 p7 p3 : Value) (m : Mem) : Option Rs :=
  brb p29
    (s_lex_Lines_7 G k0 p28 p26 p27 p7 p3 m)
    (s_lex_Lines_3 G p7 p3 m)
noncomputable def s_lex_Lines_5 (G : Gt) : Nat → Value → Value → Value → Value → Value → Mem → Option Rs
  | 0, _, _, _, _, _, _ => none
  | i + 1, p28, p27, p26, p7, p3, m =>
  bp (pur (bin .lss false true .int p28 p27) m) fun x34 m =>
  s_lex_Lines_6 G (s_lex_Lines_5 G i) x34 p28 p26 p27 p7 p3 m
noncomputable def s_lex_Lines_4 (G : Gt) (p28 p27 p26 p7 p3 : Value) (m : Mem) : Option Rs :=
  s_lex_Lines_5 G G.rds p28 p27 p26 p7 p3 m
noncomputable def s_lex_Lines_2 (G : Gt) (p0 p7 p3 : Value) (m : Mem) : Option Rs :=
  bp (G.tab F_strings_Split [p0, (.string ⟨#[10]⟩)] m) fun x35 m =>
  bp (pur (lenK 1 x35 m) m) fun x36 m =>
  s_lex_Lines_4 G (.int .i64 0) x36 x35 p7 p3 m
noncomputable def s_lex_Lines_1 (G : Gt) (p0 p3 : Value) (m : Mem) : Option Rs :=
  s_lex_Lines_2 G p0 (.slice none 0 0) p3 m
noncomputable def s_lex_Lines_0 (G : Gt) (p0 p3 : Value) (m : Mem) : Option Rs :=
  bp (G.tab F_lex_check [p0] m) fun x37 m =>
  bp (pur (aExtract x37 0) m) fun x38 m =>
  bp (pur (aExtract x37 1) m) fun x39 m =>
  bp (some (aNew T_api_Pos z_api_Pos m)) fun x40 m =>
  bp (unt (aStore 2 x40 x38 m)) fun _ m =>
  bp (pur (bin .neq true true .int x39 (.int .i64 0)) m) fun x41 m =>
  brb x41
    (bp (pur (aLoad true 2 x40 m) m) fun x42 m =>
  bp (unt (aStore 2 p3 x42 m)) fun _ m =>
  ob (ob (ob (aLoad true 2 p3 m) fun v => ob (some [x39]) fun l => some (v :: l)) fun l => some ((.slice none 0 0) :: l)) fun l => some (resVal l, m))
    (s_lex_Lines_1 G p0 p3 m)
noncomputable def s_lex_Lines (G : Gt) (p0 : Value) (m : Mem) : Option Rs :=
  bp (some (aNew T_api_Pos z_api_Pos m)) fun x43 m =>
  s_lex_Lines_0 G p0 x43 m
theorem e_lex_Lines (G : Gt) (a0 : Value) (m : Mem) : evFn Go.Proofs.Tryz.prog G.tab G.rds (drOf Go.Proofs.Tryz.prog G.tab) Go.Proofs.Tryz.f8 [a0] m = s_lex_Lines G a0 m :=
  evFn_of (r := fun ρ m => s_lex_Lines G (ρ 0) m) rfl rfl (tr (seqQ (f := fun ρ m => s_lex_Lines_0 G (ρ 0) (ρ 3) m) (tr (seqQ (f := fun ρ m => s_lex_Lines_1 G (ρ 0) (ρ 3) m) (tr (seqQ (f := fun ρ m => s_lex_Lines_2 G (ρ 0) (ρ 7) (ρ 3) m) (tr (tr (seqQ (f := fun ρ m => s_lex_Lines_3 G (ρ 7) (ρ 3) m) (fun ρ m => by kernel_rfl)) (seqQ (f := fun ρ m => s_lex_Lines_4 G (ρ 28) (ρ 27) (ρ 26) (ρ 7) (ρ 3) m) (tr (blockQ (loopQ (fun i ρ m => s_lex_Lines_5 G i (ρ 28) (ρ 27) (ρ 26) (ρ 7) (ρ 3) m) (fun _ _ => rfl) (fun i0 => tr (seqQ (f := fun ρ m => s_lex_Lines_6 G (s_lex_Lines_5 G i0) (ρ 29) (ρ 28) (ρ 26) (ρ 27) (ρ 7) (ρ 3) m) (tr (seqQ (f := fun ρ m => s_lex_Lines_7 G (s_lex_Lines_5 G i0) (ρ 28) (ρ 26) (ρ 27) (ρ 7) (ρ 3) m) (tr (tr (seqQ (f := fun ρ m => s_lex_Lines_8 G (s_lex_Lines_5 G i0) (ρ 28) (ρ 27) (ρ 26) (ρ 7) (ρ 3) m) (fun ρ m => by kernel_rfl)) (blockQ (seqQ (f := fun ρ m => s_lex_Lines_9 G (s_lex_Lines_5 G i0) (ρ 9) (ρ 28) (ρ 27) (ρ 26) (ρ 7) (ρ 3) (ρ 8) m) (tr (seqQ (f := fun ρ m => s_lex_Lines_10 G (s_lex_Lines_5 G i0) (ρ 10) (ρ 28) (ρ 27) (ρ 26) (ρ 7) (ρ 3) (ρ 9) (ρ 8) m) (tr (tr (seqQ (f := fun ρ m => s_lex_Lines_11 G (s_lex_Lines_5 G i0) (ρ 9) (ρ 10) (ρ 8) (ρ 7) (ρ 28) (ρ 27) (ρ 26) (ρ 3) m) (tr (seqQ (f := fun ρ m => s_lex_Lines_12 G (s_lex_Lines_5 G i0) (ρ 10) (ρ 9) (ρ 11) (ρ 8) (ρ 7) (ρ 28) (ρ 27) (ρ 26) (ρ 3) m) (tr (tr (seqQ (f := fun ρ m => s_lex_Lines_13 G (s_lex_Lines_5 G i0) (ρ 7) (ρ 11) (ρ 28) (ρ 27) (ρ 26) (ρ 3) m) (fun ρ m => by kernel_rfl)) (blockQ (loopQ (fun i ρ m => s_lex_Lines_14 G (s_lex_Lines_5 G i0) i (ρ 10) (ρ 9) (ρ 11) (ρ 8) (ρ 7) (ρ 28) (ρ 27) (ρ 26) (ρ 3) m) (fun _ _ => rfl) (fun i1 => fun ρ m => by kernel_rfl)))) (fun ρ m => by kernel_rfl))) (fun ρ m => by kernel_rfl))) (seqQ (f := fun ρ m => s_lex_Lines_15 G (s_lex_Lines_5 G i0) (ρ 41) (ρ 28) (ρ 27) (ρ 26) (ρ 7) (ρ 3) (ρ 9) (ρ 10) (ρ 8) m) (fun ρ m => by kernel_rfl))) (fun ρ m => by kernel_rfl))) (fun ρ m => by kernel_rfl))))) (fun ρ m => by kernel_rfl))) (fun ρ m => by kernel_rfl))) (fun ρ m => by kernel_rfl)))) (fun ρ m => by kernel_rfl)))) (fun ρ m => by kernel_rfl))) (fun ρ m => by kernel_rfl))) (fun ρ m => by kernel_rfl))) (fun ρ m => by kernel_rfl)) m
noncomputable def E_lex_Lines : Entry Go.Proofs.Tryz.prog := ⟨F_lex_Lines, Go.Proofs.Tryz.f8, Go.Proofs.Tryz.func8, by kernel_rfl, arg1 (fun G a0 m => s_lex_Lines G a0 m), okarg1 e_lex_Lines⟩
/-! 9 (*waymark/flat.parser).top -/
noncomputable def s_Pflat_parser_top (G : Gt) (p0 p1 : Value) (m : Mem) : Option Rs :=
  bp (pur (aNilCheck p0) m) fun x0 m =>
  bp (pur (aFieldAddr 0 x0) m) fun x1 m =>
  bp (G.tab F_Pflat_cursor_word [p1] m) fun x2 m =>
  bp (pur (bin .eql true true .str x2 (.string ⟨#[104, 111, 115, 116, 110, 97, 109, 101]⟩)) m) fun x3 m =>
  brb x3
    (bp (G.tab F_Pflat_cursor_name [p1] m) fun x4 m =>
  bp (pur (aNilCheck x1) m) fun x5 m =>
  bp (pur (aFieldAddr 0 x5) m) fun x6 m =>
  bp (unt (aStore 1 x6 x4 m)) fun _ m =>
  bp (aBuildSlice T_string [(.string ⟨#[]⟩)] 1 1 [(0, (.string ⟨#[104, 111, 115, 116, 110, 97, 109, 101]⟩))] m) fun x7 m =>
  bp (G.tab F_Pflat_parser_single [p0, x7] m) fun x8 m =>
  some (.tuple ⟨[]⟩, m))
    (bp (pur (bin .eql true true .str x2 (.string ⟨#[118, 114, 102]⟩)) m) fun x9 m =>
  brb x9
    (bp (G.tab F_Pflat_cursor_name [p1] m) fun x10 m =>
  bp (aBuildSlice T_string [(.string ⟨#[]⟩)] 1 2 [(0, (.string ⟨#[118, 114, 102]⟩)), (1, x10)] m) fun x11 m =>
  bp (G.tab F_Pflat_parser_single [p0, x11] m) fun x12 m =>
  bp (pur (aNilCheck x1) m) fun x13 m =>
  bp (pur (aFieldAddr 2 x13) m) fun x14 m =>
  bp (pur (aLoad false 1 x14 m) m) fun x15 m =>
  bp (aBuildSlice T_string [(.string ⟨#[]⟩)] 1 1 [(0, x10)] m) fun x16 m =>
  bp (apS T_string 1 16 x15 x16 m) fun x17 m =>
  bp (pur (aNilCheck x1) m) fun x18 m =>
  bp (pur (aFieldAddr 2 x18) m) fun x19 m =>
  bp (unt (aStore 1 x19 x17 m)) fun _ m =>
  some (.tuple ⟨[]⟩, m))
    (bp (pur (bin .eql true true .str x2 (.string ⟨#[105, 110, 116, 101, 114, 102, 97, 99, 101]⟩)) m) fun x20 m =>
  brb x20
    (bp (G.tab F_Pflat_cursor_name [p1] m) fun x21 m =>
  bp (aBuildSlice T_string [(.string ⟨#[]⟩)] 1 2 [(0, (.string ⟨#[105, 110, 116, 101, 114, 102, 97, 99, 101]⟩)), (1, x21)] m) fun x22 m =>
  bp (G.tab F_Pflat_parser_open [p0, (.func (.func F_Pflat_parser_iface) ⟨[p0]⟩ ⟨[]⟩), x22] m) fun x23 m =>
  bp (pur (aNilCheck x1) m) fun x24 m =>
  bp (pur (aFieldAddr 3 x24) m) fun x25 m =>
  bp (pur (aLoad false 1 x25 m) m) fun x26 m =>
  bp (pur (aBuild z_api_Iface [(0, 1), (1, 1), (2, 1), (3, 1), (4, 1), (5, 1), (6, 1), (7, 1), (8, 1), (9, 1), (10, 1)] [(0, x21), (8, (.int .i64 (-1))), (9, (.int .i64 10))]) m) fun x27 m =>
  bp (aBuildSlice T_api_Iface z_api_Iface 11 1 [(0, x27)] m) fun x28 m =>
  bp (apS T_api_Iface 11 120 x26 x28 m) fun x29 m =>
  bp (pur (aNilCheck x1) m) fun x30 m =>
  bp (pur (aFieldAddr 3 x30) m) fun x31 m =>
  bp (unt (aStore 1 x31 x29 m)) fun _ m =>
  some (.tuple ⟨[]⟩, m))
    (bp (pur (bin .eql true true .str x2 (.string ⟨#[105, 112]⟩)) m) fun x32 m =>
  brb x32
    (bp (G.tab F_Pflat_parser_ip [p0, p1] m) fun x33 m =>
  some (.tuple ⟨[]⟩, m))
    (bp (pur (bin .eql true true .str x2 (.string ⟨#[114, 111, 117, 116, 101, 45, 109, 97, 112]⟩)) m) fun x34 m =>
  brb x34
    (bp (G.tab F_Pflat_cursor_name [p1] m) fun x35 m =>
  bp (aBuildSlice T_uint8 [(.int .u8 0)] 1 3 [(0, (.int .u8 1)), (1, (.int .u8 0)), (2, (.int .u8 2))] m) fun x36 m =>
  bp (aBuildSlice T_string [(.string ⟨#[]⟩)] 1 3 [(0, (.string ⟨#[112, 101, 114, 109, 105, 116]⟩)), (1, (.string ⟨#[100, 101, 110, 121]⟩)), (2, (.string ⟨#[110, 101, 120, 116]⟩))] m) fun x37 m =>
  bp (G.tab F_Pflat_cursor_one [p1, x37] m) fun x38 m =>
  bp (pur (aIndexAddrSl 1 x36 x38) m) fun x39 m =>
  bp (pur (aLoad false 1 x39 m) m) fun x40 m =>
  bp (G.tab F_Pflat_cursor_number [p1, (.int .i64 1), (.int .i64 65535)] m) fun x41 m =>
  bp (G.tab F_Pflat_parser_clause [p0, x35, x40, x41] m) fun x42 m =>
  some (.tuple ⟨[]⟩, m))
    (bp (pur (bin .eql true true .str x2 (.string ⟨#[114, 111, 117, 116, 101, 114]⟩)) m) fun x43 m =>
  brb x43
    (bp (G.tab F_Pflat_parser_router [p0, p1] m) fun x44 m =>
  some (.tuple ⟨[]⟩, m))
    (bp (G.tab F_Pflat_cursor_bad [p1, (.int .i64 130)] m) fun x45 m =>
  some (.tuple ⟨[]⟩, m)))))))
theorem e_Pflat_parser_top (G : Gt) (a0 a1 : Value) (m : Mem) : evFn Go.Proofs.Tryz.prog G.tab G.rds (drOf Go.Proofs.Tryz.prog G.tab) Go.Proofs.Tryz.f9 [a0, a1] m = s_Pflat_parser_top G a0 a1 m :=
  evFn_of (r := fun ρ m => s_Pflat_parser_top G (ρ 0) (ρ 1) m) rfl rfl (fun ρ m => by kernel_rfl) m
noncomputable def E_Pflat_parser_top : Entry Go.Proofs.Tryz.prog := ⟨F_Pflat_parser_top, Go.Proofs.Tryz.f9, Go.Proofs.Tryz.func9, by kernel_rfl, arg2 (fun G a0 a1 m => s_Pflat_parser_top G a0 a1 m), okarg2 e_Pflat_parser_top⟩
/-! 10 (*waymark/flat.cursor).fail -/
noncomputable def s_Pflat_cursor_fail (G : Gt) (p1 p0 p2 : Value) (m : Mem) : Option Rs :=
  bp (some (aNew T_api_Pos (Value.cells p1).toList m)) fun x0 m =>
  bp (pur (aNilCheck p0) m) fun x1 m =>
  bp (pur (aFieldAddr 4 x1) m) fun x2 m =>
  bp (pur (aLoad false 1 x2 m) m) fun x3 m =>
  bp (pur (bin .eql true true .int x3 (.int .i64 0)) m) fun x4 m =>
  brb x4
    (bp (pur (aLoad true 2 x0 m) m) fun x5 m =>
  bp (pur (aNilCheck p0) m) fun x6 m =>
  bp (pur (aFieldAddr 2 x6) m) fun x7 m =>
  bp (unt (aStore 2 x7 x5 m)) fun _ m =>
  bp (pur (aNilCheck p0) m) fun x8 m =>
  bp (pur (aFieldAddr 4 x8) m) fun x9 m =>
  bp (unt (aStore 1 x9 p2 m)) fun _ m =>
  some (.tuple ⟨[]⟩, m))
    (some (.tuple ⟨[]⟩, m))
theorem e_Pflat_cursor_fail (G : Gt) (a0 a1 a2 : Value) (m : Mem) : evFn Go.Proofs.Tryz.prog G.tab G.rds (drOf Go.Proofs.Tryz.prog G.tab) Go.Proofs.Tryz.f10 [a0, a1, a2] m = s_Pflat_cursor_fail G a1 a0 a2 m :=
  evFn_of (r := fun ρ m => s_Pflat_cursor_fail G (ρ 1) (ρ 0) (ρ 2) m) rfl rfl (fun ρ m => by kernel_rfl) m
noncomputable def E_Pflat_cursor_fail : Entry Go.Proofs.Tryz.prog := ⟨F_Pflat_cursor_fail, Go.Proofs.Tryz.f10, Go.Proofs.Tryz.func10, by kernel_rfl, arg3 (fun G a0 a1 a2 m => s_Pflat_cursor_fail G a1 a0 a2 m), okarg3 e_Pflat_cursor_fail⟩
/-! 11 (*waymark/flat.cursor).more -/
noncomputable def s_Pflat_cursor_more_1 (G : Gt) (p2 : Value) (m : Mem) : Option Rs :=
  some (p2, m)
noncomputable def s_Pflat_cursor_more_0 (G : Gt) (p0 : Value) (m : Mem) : Option Rs :=
  bp (pur (aNilCheck p0) m) fun x0 m =>
  bp (pur (aFieldAddr 4 x0) m) fun x1 m =>
  bp (pur (aLoad false 1 x1 m) m) fun x2 m =>
  bp (pur (bin .eql true true .int x2 (.int .i64 0)) m) fun x3 m =>
  brt x3
    (bp (pur (aNilCheck p0) m) fun x4 m =>
  bp (pur (aFieldAddr 1 x4) m) fun x5 m =>
  bp (pur (aLoad false 1 x5 m) m) fun x6 m =>
  bp (pur (aNilCheck p0) m) fun x7 m =>
  bp (pur (aFieldAddr 0 x7) m) fun x8 m =>
  bp (pur (aLoad false 1 x8 m) m) fun x9 m =>
  bp (pur (lenK 1 x9 m) m) fun x10 m =>
  bp (pur (bin .lss false true .int x6 x10) m) fun x11 m =>
  s_Pflat_cursor_more_1 G x11 m)
    (s_Pflat_cursor_more_1 G (.bool false) m)
    (none)
noncomputable def s_Pflat_cursor_more (G : Gt) (p0 : Value) (m : Mem) : Option Rs :=
  s_Pflat_cursor_more_0 G p0 m
theorem e_Pflat_cursor_more (G : Gt) (a0 : Value) (m : Mem) : evFn Go.Proofs.Tryz.prog G.tab G.rds (drOf Go.Proofs.Tryz.prog G.tab) Go.Proofs.Tryz.f11 [a0] m = s_Pflat_cursor_more G a0 m :=
  evFn_of (r := fun ρ m => s_Pflat_cursor_more G (ρ 0) m) rfl rfl (tr (seqQ (f := fun ρ m => s_Pflat_cursor_more_0 G (ρ 0) m) (tr (seqQ (f := fun ρ m => s_Pflat_cursor_more_1 G (ρ 2) m) (fun ρ m => by kernel_rfl)) (fun ρ m => by kernel_rfl))) (fun ρ m => by kernel_rfl)) m
noncomputable def E_Pflat_cursor_more : Entry Go.Proofs.Tryz.prog := ⟨F_Pflat_cursor_more, Go.Proofs.Tryz.f11, Go.Proofs.Tryz.func11, by kernel_rfl, arg1 (fun G a0 m => s_Pflat_cursor_more G a0 m), okarg1 e_Pflat_cursor_more⟩
/-! 12 slices.SortFunc[[]waymark/api.Clause,waymark/api.Clause] -/
noncomputable def s_slices_SortFuncLLJapi_ClauseCapi_ClauseJ (G : Gt) (p0 p1 : Value) (m : Mem) : Option Rs :=
  bp (pur (lenK 1 p0 m) m) fun x0 m =>
  bp (conv (.int .u64) x0 m) fun x1 m =>
  bp (G.tab F_math_bits_Len [x1] m) fun x2 m =>
  bp (G.tab F_slices_pdqsortCmpFuncLapi_ClauseJ [p0, (.int .i64 0), x0, x2, p1] m) fun x3 m =>
  some (.tuple ⟨[]⟩, m)
theorem e_slices_SortFuncLLJapi_ClauseCapi_ClauseJ (G : Gt) (a0 a1 : Value) (m : Mem) : evFn Go.Proofs.Tryz.prog G.tab G.rds (drOf Go.Proofs.Tryz.prog G.tab) Go.Proofs.Tryz.f12 [a0, a1] m = s_slices_SortFuncLLJapi_ClauseCapi_ClauseJ G a0 a1 m :=
  evFn_of (r := fun ρ m => s_slices_SortFuncLLJapi_ClauseCapi_ClauseJ G (ρ 0) (ρ 1) m) rfl rfl (fun ρ m => by kernel_rfl) m
noncomputable def E_slices_SortFuncLLJapi_ClauseCapi_ClauseJ : Entry Go.Proofs.Tryz.prog := ⟨F_slices_SortFuncLLJapi_ClauseCapi_ClauseJ, Go.Proofs.Tryz.f12, Go.Proofs.Tryz.func12, by kernel_rfl, arg2 (fun G a0 a1 m => s_slices_SortFuncLLJapi_ClauseCapi_ClauseJ G a0 a1 m), okarg2 e_slices_SortFuncLLJapi_ClauseCapi_ClauseJ⟩
/-! 13 waymark/flat.Parse$1 -/
noncomputable def s_flat_ParseS1 (G : Gt) (p0 p1 : Value) (m : Mem) : Option Rs :=
  bp (some (aNew T_api_Clause (Value.cells p0).toList m)) fun x0 m =>
  bp (some (aNew T_api_Clause (Value.cells p1).toList m)) fun x1 m =>
  bp (pur (aFieldAddr 0 x0) m) fun x2 m =>
  bp (pur (aLoad false 1 x2 m) m) fun x3 m =>
  bp (pur (aFieldAddr 0 x1) m) fun x4 m =>
  bp (pur (aLoad false 1 x4 m) m) fun x5 m =>
  bp (G.tab F_cmp_CompareLintJ [x3, x5] m) fun x6 m =>
  some (x6, m)
theorem e_flat_ParseS1 (G : Gt) (a0 a1 : Value) (m : Mem) : evFn Go.Proofs.Tryz.prog G.tab G.rds (drOf Go.Proofs.Tryz.prog G.tab) Go.Proofs.Tryz.f13 [a0, a1] m = s_flat_ParseS1 G a0 a1 m :=
  evFn_of (r := fun ρ m => s_flat_ParseS1 G (ρ 0) (ρ 1) m) rfl rfl (fun ρ m => by kernel_rfl) m
noncomputable def E_flat_ParseS1 : Entry Go.Proofs.Tryz.prog := ⟨F_flat_ParseS1, Go.Proofs.Tryz.f13, Go.Proofs.Tryz.func13, by kernel_rfl, arg2 (fun G a0 a1 m => s_flat_ParseS1 G a0 a1 m), okarg2 e_flat_ParseS1⟩
/-! 14 cmp.Compare[int] -/
noncomputable def s_cmp_CompareLintJ (G : Gt) (p0 p1 : Value) (m : Mem) : Option Rs :=
  bp (G.tab F_cmp_isNaNLintJ [p0] m) fun x0 m =>
  bp (G.tab F_cmp_isNaNLintJ [p1] m) fun x1 m =>
  brb x0
    (brb x1
    (some ((.int .i64 0), m))
    (some ((.int .i64 (-1)), m)))
    (brb x1
    (some ((.int .i64 1), m))
    (bp (pur (bin .lss false true .int p0 p1) m) fun x2 m =>
  brb x2
    (some ((.int .i64 (-1)), m))
    (bp (pur (bin .gtr false true .int p0 p1) m) fun x3 m =>
  brb x3
    (some ((.int .i64 1), m))
    (some ((.int .i64 0), m)))))
theorem e_cmp_CompareLintJ (G : Gt) (a0 a1 : Value) (m : Mem) : evFn Go.Proofs.Tryz.prog G.tab G.rds (drOf Go.Proofs.Tryz.prog G.tab) Go.Proofs.Tryz.f14 [a0, a1] m = s_cmp_CompareLintJ G a0 a1 m :=
  evFn_of (r := fun ρ m => s_cmp_CompareLintJ G (ρ 0) (ρ 1) m) rfl rfl (fun ρ m => by kernel_rfl) m
noncomputable def E_cmp_CompareLintJ : Entry Go.Proofs.Tryz.prog := ⟨F_cmp_CompareLintJ, Go.Proofs.Tryz.f14, Go.Proofs.Tryz.func14, by kernel_rfl, arg2 (fun G a0 a1 m => s_cmp_CompareLintJ G a0 a1 m), okarg2 e_cmp_CompareLintJ⟩
end Go.Ab.Sh

set_option linter.unusedVariables false
set_option maxRecDepth 100000
namespace Go.Ab.Sh
open Go Go.Ab
/-! 15 waymark/flat.can -/
noncomputable def s_flat_can_10 (G : Gt) (p5 : Value) (m : Mem) : Option Rs :=
  bp (pur (aLoad false 1 p5 m) m) fun x0 m =>
  some (x0, m)
noncomputable def s_flat_can_12 (G : Gt) : Nat → Value → Value → Value → Value → Value → Mem → Option Rs
  | 0, _, _, _, _, _, _ => none
  | i + 1, p169, p168, p167, p20, p5, m =>
  bp (pur (bin .lss false true .int p169 p168) m) fun x1 m =>
  brb x1
    (bp (pur (aIndexAddrSl 6 p167 p169) m) fun x2 m =>
  bp (pur (aLoad true 6 x2 m) m) fun x3 m =>
  bp (some (aNew T_api_BGP z_api_BGP m)) fun x4 m =>
  bp (unt (aStore 6 x4 x3 m)) fun _ m =>
  bp (pur (aFieldAddr 5 x4) m) fun x5 m =>
  bp (pur (aLoad false 1 x5 m) m) fun x6 m =>
  bp (evCall G.tab p20 [x6] m) fun x7 m =>
  bp (pur (bin .add true true .int p169 (.int .i64 1)) m) fun x8 m =>
  (s_flat_can_12 G i) x8 p168 p167 p20 p5 m)
    (s_flat_can_10 G p5 m)
noncomputable def s_flat_can_11 (G : Gt) (p169 p168 p167 p20 p5 : Value) (m : Mem) : Option Rs :=
  s_flat_can_12 G G.rds p169 p168 p167 p20 p5 m
noncomputable def s_flat_can_9 (G : Gt) (p1 p20 p5 : Value) (m : Mem) : Option Rs :=
  bp (pur (aFieldAddr 11 p1) m) fun x9 m =>
  bp (pur (aLoad false 1 x9 m) m) fun x10 m =>
  bp (pur (lenK 1 x10 m) m) fun x11 m =>
  s_flat_can_11 G (.int .i64 0) x11 x10 p20 p5 m
noncomputable def s_flat_can_14 (G : Gt) : Nat → Value → Value → Value → Value → Value → Value → Mem → Option Rs
  | 0, _, _, _, _, _, _, _ => none
  | i + 1, p157, p156, p155, p20, p1, p5, m =>
  bp (pur (bin .lss false true .int p157 p156) m) fun x12 m =>
  brb x12
    (bp (pur (aIndexAddrSl 3 p155 p157) m) fun x13 m =>
  bp (pur (aLoad true 3 x13 m) m) fun x14 m =>
  bp (some (aNew T_api_OSPF z_api_OSPF m)) fun x15 m =>
  bp (unt (aStore 3 x15 x14 m)) fun _ m =>
  bp (pur (aFieldAddr 2 x15) m) fun x16 m =>
  bp (pur (aLoad false 1 x16 m) m) fun x17 m =>
  bp (evCall G.tab p20 [x17] m) fun x18 m =>
  bp (pur (bin .add true true .int p157 (.int .i64 1)) m) fun x19 m =>
  (s_flat_can_14 G i) x19 p156 p155 p20 p1 p5 m)
    (s_flat_can_9 G p1 p20 p5 m)
noncomputable def s_flat_can_13 (G : Gt) (p157 p156 p155 p20 p1 p5 : Value) (m : Mem) : Option Rs :=
  s_flat_can_14 G G.rds p157 p156 p155 p20 p1 p5 m
noncomputable def s_flat_can_8 (G : Gt) (p1 p20 p5 : Value) (m : Mem) : Option Rs :=
  bp (pur (aFieldAddr 10 p1) m) fun x20 m =>
  bp (pur (aLoad false 1 x20 m) m) fun x21 m =>
  bp (pur (lenK 1 x21 m) m) fun x22 m =>
  s_flat_can_13 G (.int .i64 0) x22 x21 p20 p1 p5 m
noncomputable def s_flat_can_7 (G : Gt) (p5 p1 : Value) (m : Mem) : Option Rs :=
  s_flat_can_8 G p1 (.func (.func F_flat_canS1) ⟨[]⟩ ⟨[p5]⟩) p5 m
noncomputable def s_flat_can_19 (G : Gt) (k0 : Value → Value → Value → Value → Value → Mem → Option Rs) (p142 p141 p140 p5 p1 : Value) (m : Mem) : Option Rs :=
  bp (pur (bin .add true true .int p142 (.int .i64 1)) m) fun x23 m =>
  k0 x23 p141 p140 p5 p1 m
noncomputable def s_flat_can_18 (G : Gt) (k0 : Value → Value → Value → Value → Value → Mem → Option Rs) (p140 p142 p5 p141 p1 : Value) (m : Mem) : Option Rs :=
  bp (pur (aIndexAddrSl 3 p140 p142) m) fun x24 m =>
  bp (pur (aLoad true 3 x24 m) m) fun x25 m =>
  bp (some (aNew T_api_Rewrite z_api_Rewrite m)) fun x26 m =>
  bp (unt (aStore 3 x26 x25 m)) fun _ m =>
  bp (pur (aLoad false 1 p5 m) m) fun x27 m =>
  brb x27
    (bp (pur (aFieldAddr 1 x26) m) fun x28 m =>
  bp (pur (aLoad false 1 x28 m) m) fun x29 m =>
  bp (pur (bin .neq true true .str x29 (.string ⟨#[]⟩)) m) fun x30 m =>
  bp (unt (aStore 1 p5 x30 m)) fun _ m =>
  s_flat_can_19 G k0 p142 p141 p140 p5 p1 m)
    (bp (unt (aStore 1 p5 (.bool false) m)) fun _ m =>
  s_flat_can_19 G k0 p142 p141 p140 p5 p1 m)
noncomputable def s_flat_can_17 (G : Gt) (k0 : Value → Value → Value → Value → Value → Mem → Option Rs) (p143 p140 p142 p5 p141 p1 : Value) (m : Mem) : Option Rs :=
  brb p143
    (s_flat_can_18 G k0 p140 p142 p5 p141 p1 m)
    (s_flat_can_7 G p5 p1 m)
noncomputable def s_flat_can_16 (G : Gt) : Nat → Value → Value → Value → Value → Value → Mem → Option Rs
  | 0, _, _, _, _, _, _ => none
  | i + 1, p142, p141, p140, p5, p1, m =>
  bp (pur (bin .lss false true .int p142 p141) m) fun x31 m =>
  s_flat_can_17 G (s_flat_can_16 G i) x31 p140 p142 p5 p141 p1 m
noncomputable def s_flat_can_15 (G : Gt) (p142 p141 p140 p5 p1 : Value) (m : Mem) : Option Rs :=
  s_flat_can_16 G G.rds p142 p141 p140 p5 p1 m
noncomputable def s_flat_can_6 (G : Gt) (p1 p5 : Value) (m : Mem) : Option Rs :=
  bp (pur (aFieldAddr 5 p1) m) fun x32 m =>
  bp (pur (aLoad false 1 x32 m) m) fun x33 m =>
  bp (pur (lenK 1 x33 m) m) fun x34 m =>
  s_flat_can_15 G (.int .i64 0) x34 x33 p5 p1 m
noncomputable def s_flat_can_24 (G : Gt) (k0 : Value → Value → Value → Value → Value → Mem → Option Rs) (p112 p111 p110 p5 p1 : Value) (m : Mem) : Option Rs :=
  bp (pur (bin .add true true .int p112 (.int .i64 1)) m) fun x35 m =>
  k0 x35 p111 p110 p5 p1 m
noncomputable def s_flat_can_31 (G : Gt) (k1 : Value → Value → Value → Value → Value → Value → Value → Value → Mem → Option Rs) (p126 p125 p124 p5 p112 p111 p110 p1 : Value) (m : Mem) : Option Rs :=
  bp (pur (bin .add true true .int p126 (.int .i64 1)) m) fun x36 m =>
  k1 x36 p125 p124 p5 p112 p111 p110 p1 m
noncomputable def s_flat_can_30 (G : Gt) (k1 : Value → Value → Value → Value → Value → Value → Value → Value → Mem → Option Rs) (p124 p126 p5 p125 p112 p111 p110 p1 : Value) (m : Mem) : Option Rs :=
  bp (pur (aIndexAddrSl 2 p124 p126) m) fun x37 m =>
  bp (pur (aLoad true 2 x37 m) m) fun x38 m =>
  bp (some (aNew T_api_Member z_api_Member m)) fun x39 m =>
  bp (unt (aStore 2 x39 x38 m)) fun _ m =>
  bp (pur (aLoad false 1 p5 m) m) fun x40 m =>
  brb x40
    (bp (pur (aFieldAddr 1 x39) m) fun x41 m =>
  bp (pur (aLoad false 1 x41 m) m) fun x42 m =>
  bp (pur (lenK 1 x42 m) m) fun x43 m =>
  bp (pur (bin .gtr true true .int x43 (.int .i64 0)) m) fun x44 m =>
  bp (unt (aStore 1 p5 x44 m)) fun _ m =>
  s_flat_can_31 G k1 p126 p125 p124 p5 p112 p111 p110 p1 m)
    (bp (unt (aStore 1 p5 (.bool false) m)) fun _ m =>
  s_flat_can_31 G k1 p126 p125 p124 p5 p112 p111 p110 p1 m)
noncomputable def s_flat_can_29 (G : Gt) (k1 : Value → Value → Value → Value → Value → Value → Value → Value → Mem → Option Rs) (k0 : Value → Value → Value → Value → Value → Mem → Option Rs) (p127 p124 p126 p5 p125 p112 p111 p110 p1 : Value) (m : Mem) : Option Rs :=
  brb p127
    (s_flat_can_30 G k1 p124 p126 p5 p125 p112 p111 p110 p1 m)
    (s_flat_can_24 G k0 p112 p111 p110 p5 p1 m)
noncomputable def s_flat_can_28 (G : Gt) (k0 : Value → Value → Value → Value → Value → Mem → Option Rs) : Nat → Value → Value → Value → Value → Value → Value → Value → Value → Mem → Option Rs
  | 0, _, _, _, _, _, _, _, _, _ => none
  | i + 1, p126, p125, p124, p5, p112, p111, p110, p1, m =>
  bp (pur (bin .lss false true .int p126 p125) m) fun x45 m =>
  s_flat_can_29 G (s_flat_can_28 G k0 i) k0 x45 p124 p126 p5 p125 p112 p111 p110 p1 m
noncomputable def s_flat_can_27 (G : Gt) (k0 : Value → Value → Value → Value → Value → Mem → Option Rs) (p126 p125 p124 p5 p112 p111 p110 p1 : Value) (m : Mem) : Option Rs :=
  s_flat_can_28 G k0 G.rds p126 p125 p124 p5 p112 p111 p110 p1 m
noncomputable def s_flat_can_26 (G : Gt) (k0 : Value → Value → Value → Value → Value → Mem → Option Rs) (p15 p5 p112 p111 p110 p1 : Value) (m : Mem) : Option Rs :=
  bp (pur (aFieldAddr 1 p15) m) fun x46 m =>
  bp (pur (aLoad false 1 x46 m) m) fun x47 m =>
  bp (pur (lenK 1 x47 m) m) fun x48 m =>
  s_flat_can_27 G k0 (.int .i64 0) x48 x47 p5 p112 p111 p110 p1 m
noncomputable def s_flat_can_25 (G : Gt) (k0 : Value → Value → Value → Value → Value → Mem → Option Rs) (p5 p15 p112 p111 p110 p1 : Value) (m : Mem) : Option Rs :=
  bp (pur (aLoad false 1 p5 m) m) fun x49 m =>
  brb x49
    (bp (pur (aFieldAddr 1 p15) m) fun x50 m =>
  bp (pur (aLoad false 1 x50 m) m) fun x51 m =>
  bp (pur (lenK 1 x51 m) m) fun x52 m =>
  bp (pur (bin .gtr true true .int x52 (.int .i64 0)) m) fun x53 m =>
  bp (unt (aStore 1 p5 x53 m)) fun _ m =>
  s_flat_can_26 G k0 p15 p5 p112 p111 p110 p1 m)
    (bp (unt (aStore 1 p5 (.bool false) m)) fun _ m =>
  s_flat_can_26 G k0 p15 p5 p112 p111 p110 p1 m)
noncomputable def s_flat_can_23 (G : Gt) (k0 : Value → Value → Value → Value → Value → Mem → Option Rs) (p110 p112 p5 p111 p1 : Value) (m : Mem) : Option Rs :=
  bp (pur (aIndexAddrSl 2 p110 p112) m) fun x54 m =>
  bp (pur (aLoad true 2 x54 m) m) fun x55 m =>
  bp (some (aNew T_api_CommunityList z_api_CommunityList m)) fun x56 m =>
  bp (unt (aStore 2 x56 x55 m)) fun _ m =>
  s_flat_can_25 G k0 p5 x56 p112 p111 p110 p1 m
noncomputable def s_flat_can_22 (G : Gt) (k0 : Value → Value → Value → Value → Value → Mem → Option Rs) (p113 p110 p112 p5 p111 p1 : Value) (m : Mem) : Option Rs :=
  brb p113
    (s_flat_can_23 G k0 p110 p112 p5 p111 p1 m)
    (s_flat_can_6 G p1 p5 m)
noncomputable def s_flat_can_21 (G : Gt) : Nat → Value → Value → Value → Value → Value → Mem → Option Rs
  | 0, _, _, _, _, _, _ => none
  | i + 1, p112, p111, p110, p5, p1, m =>
  bp (pur (bin .lss false true .int p112 p111) m) fun x57 m =>
  s_flat_can_22 G (s_flat_can_21 G i) x57 p110 p112 p5 p111 p1 m
noncomputable def s_flat_can_20 (G : Gt) (p112 p111 p110 p5 p1 : Value) (m : Mem) : Option Rs :=
  s_flat_can_21 G G.rds p112 p111 p110 p5 p1 m
noncomputable def s_flat_can_5 (G : Gt) (p1 p5 : Value) (m : Mem) : Option Rs :=
  bp (pur (aFieldAddr 8 p1) m) fun x58 m =>
  bp (pur (aLoad false 1 x58 m) m) fun x59 m =>
  bp (pur (lenK 1 x59 m) m) fun x60 m =>
  s_flat_can_20 G (.int .i64 0) x60 x59 p5 p1 m
noncomputable def s_flat_can_36 (G : Gt) (k0 : Value → Value → Value → Value → Value → Mem → Option Rs) (p97 p96 p95 p5 p1 : Value) (m : Mem) : Option Rs :=
  bp (pur (bin .add true true .int p97 (.int .i64 1)) m) fun x61 m =>
  k0 x61 p96 p95 p5 p1 m
noncomputable def s_flat_can_35 (G : Gt) (k0 : Value → Value → Value → Value → Value → Mem → Option Rs) (p95 p97 p5 p96 p1 : Value) (m : Mem) : Option Rs :=
  bp (pur (aIndexAddrSl 2 p95 p97) m) fun x62 m =>
  bp (pur (aLoad true 2 x62 m) m) fun x63 m =>
  bp (some (aNew T_api_PrefixList z_api_PrefixList m)) fun x64 m =>
  bp (unt (aStore 2 x64 x63 m)) fun _ m =>
  bp (pur (aLoad false 1 p5 m) m) fun x65 m =>
  brb x65
    (bp (pur (aFieldAddr 1 x64) m) fun x66 m =>
  bp (pur (aLoad false 1 x66 m) m) fun x67 m =>
  bp (pur (lenK 1 x67 m) m) fun x68 m =>
  bp (pur (bin .gtr true true .int x68 (.int .i64 0)) m) fun x69 m =>
  bp (unt (aStore 1 p5 x69 m)) fun _ m =>
  s_flat_can_36 G k0 p97 p96 p95 p5 p1 m)
    (bp (unt (aStore 1 p5 (.bool false) m)) fun _ m =>
  s_flat_can_36 G k0 p97 p96 p95 p5 p1 m)
noncomputable def s_flat_can_34 (G : Gt) (k0 : Value → Value → Value → Value → Value → Mem → Option Rs) (p98 p95 p97 p5 p96 p1 : Value) (m : Mem) : Option Rs :=
  brb p98
    (s_flat_can_35 G k0 p95 p97 p5 p96 p1 m)
    (s_flat_can_5 G p1 p5 m)
noncomputable def s_flat_can_33 (G : Gt) : Nat → Value → Value → Value → Value → Value → Mem → Option Rs
  | 0, _, _, _, _, _, _ => none
  | i + 1, p97, p96, p95, p5, p1, m =>
  bp (pur (bin .lss false true .int p97 p96) m) fun x70 m =>
  s_flat_can_34 G (s_flat_can_33 G i) x70 p95 p97 p5 p96 p1 m
noncomputable def s_flat_can_32 (G : Gt) (p97 p96 p95 p5 p1 : Value) (m : Mem) : Option Rs :=
  s_flat_can_33 G G.rds p97 p96 p95 p5 p1 m
noncomputable def s_flat_can_4 (G : Gt) (p1 p5 : Value) (m : Mem) : Option Rs :=
  bp (pur (aFieldAddr 7 p1) m) fun x71 m =>
  bp (pur (aLoad false 1 x71 m) m) fun x72 m =>
  bp (pur (lenK 1 x72 m) m) fun x73 m =>
  s_flat_can_32 G (.int .i64 0) x73 x72 p5 p1 m
noncomputable def s_flat_can_41 (G : Gt) (k0 : Value → Value → Value → Value → Value → Mem → Option Rs) (p77 p76 p75 p5 p1 : Value) (m : Mem) : Option Rs :=
  bp (pur (bin .add true true .int p77 (.int .i64 1)) m) fun x74 m =>
  k0 x74 p76 p75 p5 p1 m
noncomputable def s_flat_can_40 (G : Gt) (k0 : Value → Value → Value → Value → Value → Mem → Option Rs) (p75 p77 p5 p76 p1 : Value) (m : Mem) : Option Rs :=
  bp (pur (aIndexAddrSl 3 p75 p77) m) fun x75 m =>
  bp (pur (aLoad true 3 x75 m) m) fun x76 m =>
  bp (some (aNew T_api_Policy z_api_Policy m)) fun x77 m =>
  bp (unt (aStore 3 x77 x76 m)) fun _ m =>
  bp (pur (aLoad false 1 p5 m) m) fun x78 m =>
  brb x78
    (bp (pur (aFieldAddr 2 x77) m) fun x79 m =>
  bp (pur (aLoad false 1 x79 m) m) fun x80 m =>
  bp (pur (un .not x80) m) fun x81 m =>
  brb x81
    (bp (pur (aFieldAddr 1 x77) m) fun x82 m =>
  bp (pur (aLoad false 1 x82 m) m) fun x83 m =>
  bp (pur (lenK 1 x83 m) m) fun x84 m =>
  bp (pur (bin .gtr true true .int x84 (.int .i64 0)) m) fun x85 m =>
  bp (unt (aStore 1 p5 x85 m)) fun _ m =>
  s_flat_can_41 G k0 p77 p76 p75 p5 p1 m)
    (bp (unt (aStore 1 p5 (.bool false) m)) fun _ m =>
  s_flat_can_41 G k0 p77 p76 p75 p5 p1 m))
    (bp (unt (aStore 1 p5 (.bool false) m)) fun _ m =>
  s_flat_can_41 G k0 p77 p76 p75 p5 p1 m)
noncomputable def s_flat_can_39 (G : Gt) (k0 : Value → Value → Value → Value → Value → Mem → Option Rs) (p78 p75 p77 p5 p76 p1 : Value) (m : Mem) : Option Rs :=
  brb p78
    (s_flat_can_40 G k0 p75 p77 p5 p76 p1 m)
    (s_flat_can_4 G p1 p5 m)
noncomputable def s_flat_can_38 (G : Gt) : Nat → Value → Value → Value → Value → Value → Mem → Option Rs
  | 0, _, _, _, _, _, _ => none
  | i + 1, p77, p76, p75, p5, p1, m =>
  bp (pur (bin .lss false true .int p77 p76) m) fun x86 m =>
  s_flat_can_39 G (s_flat_can_38 G i) x86 p75 p77 p5 p76 p1 m
noncomputable def s_flat_can_37 (G : Gt) (p77 p76 p75 p5 p1 : Value) (m : Mem) : Option Rs :=
  s_flat_can_38 G G.rds p77 p76 p75 p5 p1 m
noncomputable def s_flat_can_3 (G : Gt) (p1 p5 : Value) (m : Mem) : Option Rs :=
  bp (pur (aFieldAddr 9 p1) m) fun x87 m =>
  bp (pur (aLoad false 1 x87 m) m) fun x88 m =>
  bp (pur (lenK 1 x88 m) m) fun x89 m =>
  s_flat_can_37 G (.int .i64 0) x89 x88 p5 p1 m
noncomputable def s_flat_can_46 (G : Gt) (k0 : Value → Value → Value → Value → Value → Mem → Option Rs) (p40 p39 p38 p5 p1 : Value) (m : Mem) : Option Rs :=
  bp (pur (bin .add true true .int p40 (.int .i64 1)) m) fun x90 m =>
  k0 x90 p39 p38 p5 p1 m
noncomputable def s_flat_can_52 (G : Gt) (k1 : Value → Value → Value → Value → Value → Value → Value → Value → Mem → Option Rs) (p47 p46 p45 p5 p40 p39 p38 p1 : Value) (m : Mem) : Option Rs :=
  bp (pur (bin .add true true .int p47 (.int .i64 1)) m) fun x91 m =>
  k1 x91 p46 p45 p5 p40 p39 p38 p1 m
noncomputable def s_flat_can_51 (G : Gt) (k1 : Value → Value → Value → Value → Value → Value → Value → Value → Mem → Option Rs) (p45 p47 p5 p46 p40 p39 p38 p1 : Value) (m : Mem) : Option Rs :=
  bp (pur (aIndexAddrSl 10 p45 p47) m) fun x92 m =>
  bp (pur (aLoad true 10 x92 m) m) fun x93 m =>
  bp (some (aNew T_api_Rule z_api_Rule m)) fun x94 m =>
  bp (unt (aStore 10 x94 x93 m)) fun _ m =>
  bp (pur (aLoad false 1 p5 m) m) fun x95 m =>
  brt x95
    (bp (pur (aFieldAddr 1 x94) m) fun x96 m =>
  bp (pur (aLoad false 1 x96 m) m) fun x97 m =>
  bp (pur (bin .eql true true .int x97 (.int .i64 6)) m) fun x98 m =>
  brt x98
    (bp (unt (aStore 1 p5 (.bool true) m)) fun _ m =>
  s_flat_can_52 G k1 p47 p46 p45 p5 p40 p39 p38 p1 m)
    (bp (pur (aFieldAddr 1 x94) m) fun x99 m =>
  bp (pur (aLoad false 1 x99 m) m) fun x100 m =>
  bp (pur (bin .eql true true .int x100 (.int .i64 17)) m) fun x101 m =>
  brt x101
    (bp (unt (aStore 1 p5 (.bool true) m)) fun _ m =>
  s_flat_can_52 G k1 p47 p46 p45 p5 p40 p39 p38 p1 m)
    (bp (pur (aFieldAddr 6 x94) m) fun x102 m =>
  bp (pur (aLoad true 2 x102 m) m) fun x103 m =>
  bp (pur (aFieldAddr 8 x94) m) fun x104 m =>
  bp (pur (aLoad true 2 x104 m) m) fun x105 m =>
  bp (G.tab F_flat_ports [x103] m) fun x106 m =>
  ckB (again (pur (aLoad true 2 x104 m) m) x105 && true)
    (bp (G.tab F_flat_ports [x105] m) fun x107 m =>
  bp (pur (bin .add false true .str x106 x107) m) fun x108 m =>
  bp (pur (bin .eql true true .str x108 (.string ⟨#[]⟩)) m) fun x109 m =>
  bp (unt (aStore 1 p5 x109 m)) fun _ m =>
  s_flat_can_52 G k1 p47 p46 p45 p5 p40 p39 p38 p1 m))
    (none))
    (none))
    (bp (unt (aStore 1 p5 (.bool false) m)) fun _ m =>
  s_flat_can_52 G k1 p47 p46 p45 p5 p40 p39 p38 p1 m)
    (none)
noncomputable def s_flat_can_50 (G : Gt) (k1 : Value → Value → Value → Value → Value → Value → Value → Value → Mem → Option Rs) (k0 : Value → Value → Value → Value → Value → Mem → Option Rs) (p48 p45 p47 p5 p46 p40 p39 p38 p1 : Value) (m : Mem) : Option Rs :=
  brb p48
    (s_flat_can_51 G k1 p45 p47 p5 p46 p40 p39 p38 p1 m)
    (s_flat_can_46 G k0 p40 p39 p38 p5 p1 m)
noncomputable def s_flat_can_49 (G : Gt) (k0 : Value → Value → Value → Value → Value → Mem → Option Rs) : Nat → Value → Value → Value → Value → Value → Value → Value → Value → Mem → Option Rs
  | 0, _, _, _, _, _, _, _, _, _ => none
  | i + 1, p47, p46, p45, p5, p40, p39, p38, p1, m =>
  bp (pur (bin .lss false true .int p47 p46) m) fun x110 m =>
  s_flat_can_50 G (s_flat_can_49 G k0 i) k0 x110 p45 p47 p5 p46 p40 p39 p38 p1 m
noncomputable def s_flat_can_48 (G : Gt) (k0 : Value → Value → Value → Value → Value → Mem → Option Rs) (p47 p46 p45 p5 p40 p39 p38 p1 : Value) (m : Mem) : Option Rs :=
  s_flat_can_49 G k0 G.rds p47 p46 p45 p5 p40 p39 p38 p1 m
noncomputable def s_flat_can_47 (G : Gt) (k0 : Value → Value → Value → Value → Value → Mem → Option Rs) (p7 p5 p40 p39 p38 p1 : Value) (m : Mem) : Option Rs :=
  bp (pur (aFieldAddr 1 p7) m) fun x111 m =>
  bp (pur (aLoad false 1 x111 m) m) fun x112 m =>
  bp (pur (lenK 1 x112 m) m) fun x113 m =>
  s_flat_can_48 G k0 (.int .i64 0) x113 x112 p5 p40 p39 p38 p1 m
noncomputable def s_flat_can_45 (G : Gt) (k0 : Value → Value → Value → Value → Value → Mem → Option Rs) (p38 p40 p5 p39 p1 : Value) (m : Mem) : Option Rs :=
  bp (pur (aIndexAddrSl 2 p38 p40) m) fun x114 m =>
  bp (pur (aLoad true 2 x114 m) m) fun x115 m =>
  bp (some (aNew T_api_Filter z_api_Filter m)) fun x116 m =>
  bp (unt (aStore 2 x116 x115 m)) fun _ m =>
  s_flat_can_47 G k0 x116 p5 p40 p39 p38 p1 m
noncomputable def s_flat_can_44 (G : Gt) (k0 : Value → Value → Value → Value → Value → Mem → Option Rs) (p41 p38 p40 p5 p39 p1 : Value) (m : Mem) : Option Rs :=
  brb p41
    (s_flat_can_45 G k0 p38 p40 p5 p39 p1 m)
    (s_flat_can_3 G p1 p5 m)
noncomputable def s_flat_can_43 (G : Gt) : Nat → Value → Value → Value → Value → Value → Mem → Option Rs
  | 0, _, _, _, _, _, _ => none
  | i + 1, p40, p39, p38, p5, p1, m =>
  bp (pur (bin .lss false true .int p40 p39) m) fun x117 m =>
  s_flat_can_44 G (s_flat_can_43 G i) x117 p38 p40 p5 p39 p1 m
noncomputable def s_flat_can_42 (G : Gt) (p40 p39 p38 p5 p1 : Value) (m : Mem) : Option Rs :=
  s_flat_can_43 G G.rds p40 p39 p38 p5 p1 m
noncomputable def s_flat_can_2 (G : Gt) (p1 p5 : Value) (m : Mem) : Option Rs :=
  bp (pur (aFieldAddr 4 p1) m) fun x118 m =>
  bp (pur (aLoad false 1 x118 m) m) fun x119 m =>
  bp (pur (lenK 1 x119 m) m) fun x120 m =>
  s_flat_can_42 G (.int .i64 0) x120 x119 p5 p1 m
noncomputable def s_flat_can_1 (G : Gt) (p1 : Value) (m : Mem) : Option Rs :=
  bp (some (aNew T_bool [(.bool false)] m)) fun x121 m =>
  bp (unt (aStore 1 x121 (.bool true) m)) fun _ m =>
  s_flat_can_2 G p1 x121 m
noncomputable def s_flat_can_54 (G : Gt) (p36 p1 : Value) (m : Mem) : Option Rs :=
  brb p36
    (some ((.bool false), m))
    (s_flat_can_1 G p1 m)
noncomputable def s_flat_can_53 (G : Gt) (p4 p1 : Value) (m : Mem) : Option Rs :=
  bp (pur (bin .neq true true .int p4 (.int .i64 0)) m) fun x122 m =>
  brb x122
    (s_flat_can_54 G (.bool true) p1 m)
    (bp (pur (aFieldAddr 1 p1) m) fun x123 m =>
  bp (pur (aLoad false 1 x123 m) m) fun x124 m =>
  bp (pur (bin .neq true true .int x124 (.int .u8 1)) m) fun x125 m =>
  s_flat_can_54 G x125 p1 m)
noncomputable def s_flat_can_0 (G : Gt) (p1 : Value) (m : Mem) : Option Rs :=
  bp (pur (aLoad true 12 p1 m) m) fun x126 m =>
  bp (G.tab F_model_Check [x126] m) fun x127 m =>
  bp (pur (aExtract x127 0) m) fun x128 m =>
  bp (pur (aExtract x127 1) m) fun x129 m =>
  s_flat_can_53 G x129 p1 m
noncomputable def s_flat_can (G : Gt) (p0 : Value) (m : Mem) : Option Rs :=
  bp (some (aNew T_api_Device (Value.cells p0).toList m)) fun x130 m =>
  s_flat_can_0 G x130 m
theorem e_flat_can (G : Gt) (a0 : Value) (m : Mem) : evFn Go.Proofs.Tryz.prog G.tab G.rds (drOf Go.Proofs.Tryz.prog G.tab) Go.Proofs.Tryz.f15 [a0] m = s_flat_can G a0 m :=
  evFn_of (r := fun ρ m => s_flat_can G (ρ 0) m) rfl rfl (tr (seqQ (f := fun ρ m => s_flat_can_0 G (ρ 1) m) (tr (tr (seqQ (f := fun ρ m => s_flat_can_1 G (ρ 1) m) (tr (seqQ (f := fun ρ m => s_flat_can_2 G (ρ 1) (ρ 5) m) (tr (tr (seqQ (f := fun ρ m => s_flat_can_3 G (ρ 1) (ρ 5) m) (tr (tr (seqQ (f := fun ρ m => s_flat_can_4 G (ρ 1) (ρ 5) m) (tr (tr (seqQ (f := fun ρ m => s_flat_can_5 G (ρ 1) (ρ 5) m) (tr (tr (seqQ (f := fun ρ m => s_flat_can_6 G (ρ 1) (ρ 5) m) (tr (tr (seqQ (f := fun ρ m => s_flat_can_7 G (ρ 5) (ρ 1) m) (tr (seqQ (f := fun ρ m => s_flat_can_8 G (ρ 1) (ρ 20) (ρ 5) m) (tr (tr (seqQ (f := fun ρ m => s_flat_can_9 G (ρ 1) (ρ 20) (ρ 5) m) (tr (tr (seqQ (f := fun ρ m => s_flat_can_10 G (ρ 5) m) (fun ρ m => by kernel_rfl)) (seqQ (f := fun ρ m => s_flat_can_11 G (ρ 169) (ρ 168) (ρ 167) (ρ 20) (ρ 5) m) (tr (blockQ (loopQ (fun i ρ m => s_flat_can_12 G i (ρ 169) (ρ 168) (ρ 167) (ρ 20) (ρ 5) m) (fun _ _ => rfl) (fun i0 => fun ρ m => by kernel_rfl))) (fun ρ m => by kernel_rfl)))) (fun ρ m => by kernel_rfl))) (seqQ (f := fun ρ m => s_flat_can_13 G (ρ 157) (ρ 156) (ρ 155) (ρ 20) (ρ 1) (ρ 5) m) (tr (blockQ (loopQ (fun i ρ m => s_flat_can_14 G i (ρ 157) (ρ 156) (ρ 155) (ρ 20) (ρ 1) (ρ 5) m) (fun _ _ => rfl) (fun i0 => fun ρ m => by kernel_rfl))) (fun ρ m => by kernel_rfl)))) (fun ρ m => by kernel_rfl))) (fun ρ m => by kernel_rfl))) (seqQ (f := fun ρ m => s_flat_can_15 G (ρ 142) (ρ 141) (ρ 140) (ρ 5) (ρ 1) m) (tr (blockQ (loopQ (fun i ρ m => s_flat_can_16 G i (ρ 142) (ρ 141) (ρ 140) (ρ 5) (ρ 1) m) (fun _ _ => rfl) (fun i0 => tr (seqQ (f := fun ρ m => s_flat_can_17 G (s_flat_can_16 G i0) (ρ 143) (ρ 140) (ρ 142) (ρ 5) (ρ 141) (ρ 1) m) (tr (seqQ (f := fun ρ m => s_flat_can_18 G (s_flat_can_16 G i0) (ρ 140) (ρ 142) (ρ 5) (ρ 141) (ρ 1) m) (tr (seqQ (f := fun ρ m => s_flat_can_19 G (s_flat_can_16 G i0) (ρ 142) (ρ 141) (ρ 140) (ρ 5) (ρ 1) m) (fun ρ m => by kernel_rfl)) (fun ρ m => by kernel_rfl))) (fun ρ m => by kernel_rfl))) (fun ρ m => by kernel_rfl)))) (fun ρ m => by kernel_rfl)))) (fun ρ m => by kernel_rfl))) (seqQ (f := fun ρ m => s_flat_can_20 G (ρ 112) (ρ 111) (ρ 110) (ρ 5) (ρ 1) m) (tr (blockQ (loopQ (fun i ρ m => s_flat_can_21 G i (ρ 112) (ρ 111) (ρ 110) (ρ 5) (ρ 1) m) (fun _ _ => rfl) (fun i0 => tr (seqQ (f := fun ρ m => s_flat_can_22 G (s_flat_can_21 G i0) (ρ 113) (ρ 110) (ρ 112) (ρ 5) (ρ 111) (ρ 1) m) (tr (seqQ (f := fun ρ m => s_flat_can_23 G (s_flat_can_21 G i0) (ρ 110) (ρ 112) (ρ 5) (ρ 111) (ρ 1) m) (tr (tr (seqQ (f := fun ρ m => s_flat_can_24 G (s_flat_can_21 G i0) (ρ 112) (ρ 111) (ρ 110) (ρ 5) (ρ 1) m) (fun ρ m => by kernel_rfl)) (blockQ (seqQ (f := fun ρ m => s_flat_can_25 G (s_flat_can_21 G i0) (ρ 5) (ρ 15) (ρ 112) (ρ 111) (ρ 110) (ρ 1) m) (tr (seqQ (f := fun ρ m => s_flat_can_26 G (s_flat_can_21 G i0) (ρ 15) (ρ 5) (ρ 112) (ρ 111) (ρ 110) (ρ 1) m) (tr (seqQ (f := fun ρ m => s_flat_can_27 G (s_flat_can_21 G i0) (ρ 126) (ρ 125) (ρ 124) (ρ 5) (ρ 112) (ρ 111) (ρ 110) (ρ 1) m) (tr (blockQ (loopQ (fun i ρ m => s_flat_can_28 G (s_flat_can_21 G i0) i (ρ 126) (ρ 125) (ρ 124) (ρ 5) (ρ 112) (ρ 111) (ρ 110) (ρ 1) m) (fun _ _ => rfl) (fun i1 => tr (seqQ (f := fun ρ m => s_flat_can_29 G (s_flat_can_28 G (s_flat_can_21 G i0) i1) (s_flat_can_21 G i0) (ρ 127) (ρ 124) (ρ 126) (ρ 5) (ρ 125) (ρ 112) (ρ 111) (ρ 110) (ρ 1) m) (tr (seqQ (f := fun ρ m => s_flat_can_30 G (s_flat_can_28 G (s_flat_can_21 G i0) i1) (ρ 124) (ρ 126) (ρ 5) (ρ 125) (ρ 112) (ρ 111) (ρ 110) (ρ 1) m) (tr (seqQ (f := fun ρ m => s_flat_can_31 G (s_flat_can_28 G (s_flat_can_21 G i0) i1) (ρ 126) (ρ 125) (ρ 124) (ρ 5) (ρ 112) (ρ 111) (ρ 110) (ρ 1) m) (fun ρ m => by kernel_rfl)) (fun ρ m => by kernel_rfl))) (fun ρ m => by kernel_rfl))) (fun ρ m => by kernel_rfl)))) (fun ρ m => by kernel_rfl))) (fun ρ m => by kernel_rfl))) (fun ρ m => by kernel_rfl))))) (fun ρ m => by kernel_rfl))) (fun ρ m => by kernel_rfl))) (fun ρ m => by kernel_rfl)))) (fun ρ m => by kernel_rfl)))) (fun ρ m => by kernel_rfl))) (seqQ (f := fun ρ m => s_flat_can_32 G (ρ 97) (ρ 96) (ρ 95) (ρ 5) (ρ 1) m) (tr (blockQ (loopQ (fun i ρ m => s_flat_can_33 G i (ρ 97) (ρ 96) (ρ 95) (ρ 5) (ρ 1) m) (fun _ _ => rfl) (fun i0 => tr (seqQ (f := fun ρ m => s_flat_can_34 G (s_flat_can_33 G i0) (ρ 98) (ρ 95) (ρ 97) (ρ 5) (ρ 96) (ρ 1) m) (tr (seqQ (f := fun ρ m => s_flat_can_35 G (s_flat_can_33 G i0) (ρ 95) (ρ 97) (ρ 5) (ρ 96) (ρ 1) m) (tr (seqQ (f := fun ρ m => s_flat_can_36 G (s_flat_can_33 G i0) (ρ 97) (ρ 96) (ρ 95) (ρ 5) (ρ 1) m) (fun ρ m => by kernel_rfl)) (fun ρ m => by kernel_rfl))) (fun ρ m => by kernel_rfl))) (fun ρ m => by kernel_rfl)))) (fun ρ m => by kernel_rfl)))) (fun ρ m => by kernel_rfl))) (seqQ (f := fun ρ m => s_flat_can_37 G (ρ 77) (ρ 76) (ρ 75) (ρ 5) (ρ 1) m) (tr (blockQ (loopQ (fun i ρ m => s_flat_can_38 G i (ρ 77) (ρ 76) (ρ 75) (ρ 5) (ρ 1) m) (fun _ _ => rfl) (fun i0 => tr (seqQ (f := fun ρ m => s_flat_can_39 G (s_flat_can_38 G i0) (ρ 78) (ρ 75) (ρ 77) (ρ 5) (ρ 76) (ρ 1) m) (tr (seqQ (f := fun ρ m => s_flat_can_40 G (s_flat_can_38 G i0) (ρ 75) (ρ 77) (ρ 5) (ρ 76) (ρ 1) m) (tr (seqQ (f := fun ρ m => s_flat_can_41 G (s_flat_can_38 G i0) (ρ 77) (ρ 76) (ρ 75) (ρ 5) (ρ 1) m) (fun ρ m => by kernel_rfl)) (fun ρ m => by kernel_rfl))) (fun ρ m => by kernel_rfl))) (fun ρ m => by kernel_rfl)))) (fun ρ m => by kernel_rfl)))) (fun ρ m => by kernel_rfl))) (seqQ (f := fun ρ m => s_flat_can_42 G (ρ 40) (ρ 39) (ρ 38) (ρ 5) (ρ 1) m) (tr (blockQ (loopQ (fun i ρ m => s_flat_can_43 G i (ρ 40) (ρ 39) (ρ 38) (ρ 5) (ρ 1) m) (fun _ _ => rfl) (fun i0 => tr (seqQ (f := fun ρ m => s_flat_can_44 G (s_flat_can_43 G i0) (ρ 41) (ρ 38) (ρ 40) (ρ 5) (ρ 39) (ρ 1) m) (tr (seqQ (f := fun ρ m => s_flat_can_45 G (s_flat_can_43 G i0) (ρ 38) (ρ 40) (ρ 5) (ρ 39) (ρ 1) m) (tr (tr (seqQ (f := fun ρ m => s_flat_can_46 G (s_flat_can_43 G i0) (ρ 40) (ρ 39) (ρ 38) (ρ 5) (ρ 1) m) (fun ρ m => by kernel_rfl)) (blockQ (seqQ (f := fun ρ m => s_flat_can_47 G (s_flat_can_43 G i0) (ρ 7) (ρ 5) (ρ 40) (ρ 39) (ρ 38) (ρ 1) m) (tr (seqQ (f := fun ρ m => s_flat_can_48 G (s_flat_can_43 G i0) (ρ 47) (ρ 46) (ρ 45) (ρ 5) (ρ 40) (ρ 39) (ρ 38) (ρ 1) m) (tr (blockQ (loopQ (fun i ρ m => s_flat_can_49 G (s_flat_can_43 G i0) i (ρ 47) (ρ 46) (ρ 45) (ρ 5) (ρ 40) (ρ 39) (ρ 38) (ρ 1) m) (fun _ _ => rfl) (fun i1 => tr (seqQ (f := fun ρ m => s_flat_can_50 G (s_flat_can_49 G (s_flat_can_43 G i0) i1) (s_flat_can_43 G i0) (ρ 48) (ρ 45) (ρ 47) (ρ 5) (ρ 46) (ρ 40) (ρ 39) (ρ 38) (ρ 1) m) (tr (seqQ (f := fun ρ m => s_flat_can_51 G (s_flat_can_49 G (s_flat_can_43 G i0) i1) (ρ 45) (ρ 47) (ρ 5) (ρ 46) (ρ 40) (ρ 39) (ρ 38) (ρ 1) m) (tr (seqQ (f := fun ρ m => s_flat_can_52 G (s_flat_can_49 G (s_flat_can_43 G i0) i1) (ρ 47) (ρ 46) (ρ 45) (ρ 5) (ρ 40) (ρ 39) (ρ 38) (ρ 1) m) (fun ρ m => by kernel_rfl)) (fun ρ m => by kernel_rfl))) (fun ρ m => by kernel_rfl))) (fun ρ m => by kernel_rfl)))) (fun ρ m => by kernel_rfl))) (fun ρ m => by kernel_rfl))))) (fun ρ m => by kernel_rfl))) (fun ρ m => by kernel_rfl))) (fun ρ m => by kernel_rfl)))) (fun ρ m => by kernel_rfl)))) (fun ρ m => by kernel_rfl))) (fun ρ m => by kernel_rfl))) (seqQ (f := fun ρ m => s_flat_can_53 G (ρ 4) (ρ 1) m) (tr (seqQ (f := fun ρ m => s_flat_can_54 G (ρ 36) (ρ 1) m) (fun ρ m => by kernel_rfl)) (fun ρ m => by kernel_rfl)))) (fun ρ m => by kernel_rfl))) (fun ρ m => by kernel_rfl)) m
noncomputable def E_flat_can : Entry Go.Proofs.Tryz.prog := ⟨F_flat_can, Go.Proofs.Tryz.f15, Go.Proofs.Tryz.func15, by kernel_rfl, arg1 (fun G a0 m => s_flat_can G a0 m), okarg1 e_flat_can⟩
end Go.Ab.Sh
