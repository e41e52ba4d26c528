/-
  Functions of the program as plain definitions, each with the theorem that it is what the evaluator makes of the code. No conditions.
-/
import Derived.Test.YtbjgjnkihdddlaaGreatDoorAb4
import Derived.Test.YtbjgjnkihdddlaaGreatDoorZ
import Derived.KernelRfl
import Derived.Test.YtbjgjnkihdddlaaGreatDoorProg
set_option linter.unusedVariables false
set_option maxRecDepth 100000
namespace Go.Ab.Sh
open Go Go.Ab
/-! 80 (*waymark/flat.cursor).is -/
noncomputable def s_Pflat_cursor_is_1 (G : Gt) (p21 p0 : Value) (m : Mem) : Option Rs :=
  brb p21
    (bp (pur (aNilCheck p0) m) fun x0 m =>
  bp (pur (aFieldAddr 1 x0) m) fun x1 m =>
  bp (pur (aLoad false 1 x1 m) m) fun x2 m =>
  bp (pur (bin .add true true .int x2 (.int .i64 1)) m) fun x3 m =>
  bp (pur (aNilCheck p0) m) fun x4 m =>
  bp (pur (aFieldAddr 1 x4) m) fun x5 m =>
  bp (unt (aStore 1 x5 x3 m)) fun _ m =>
  some ((.bool true), m))
    (some ((.bool false), m))
noncomputable def s_Pflat_cursor_is_0 (G : Gt) (p0 p1 : Value) (m : Mem) : Option Rs :=
  bp (G.tab F_Pflat_cursor_more [p0] m) fun x6 m =>
  brt x6
    (bp (pur (aNilCheck p0) m) fun x7 m =>
  bp (pur (aFieldAddr 0 x7) m) fun x8 m =>
  bp (pur (aLoad false 1 x8 m) m) fun x9 m =>
  bp (pur (aNilCheck p0) m) fun x10 m =>
  bp (pur (aFieldAddr 1 x10) m) fun x11 m =>
  bp (pur (aLoad false 1 x11 m) m) fun x12 m =>
  bp (pur (aIndexAddrSl 3 x9 x12) m) fun x13 m =>
  bp (pur (aFieldAddr 0 x13) m) fun x14 m =>
  bp (pur (aLoad false 1 x14 m) m) fun x15 m =>
  bp (pur (bin .eql false true .str x15 p1) m) fun x16 m =>
  s_Pflat_cursor_is_1 G x16 p0 m)
    (s_Pflat_cursor_is_1 G (.bool false) p0 m)
    (none)
noncomputable def s_Pflat_cursor_is (G : Gt) (p0 p1 : Value) (m : Mem) : Option Rs :=
  s_Pflat_cursor_is_0 G p0 p1 m
theorem e_Pflat_cursor_is (G : Gt) (a0 a1 : Value) (m : Mem) : evFn Go.Proofs.Tryz.prog G.tab G.rds (drOf Go.Proofs.Tryz.prog G.tab) Go.Proofs.Tryz.f80 [a0, a1] m = s_Pflat_cursor_is G a0 a1 m :=
  evFn_of (r := fun ρ m => s_Pflat_cursor_is G (ρ 0) (ρ 1) m) rfl rfl (tr (seqQ (f := fun ρ m => s_Pflat_cursor_is_0 G (ρ 0) (ρ 1) m) (tr (tr seqD (seqQ (f := fun ρ m => s_Pflat_cursor_is_1 G (ρ 21) (ρ 0) m) (fun ρ m => by kernel_rfl))) (fun ρ m => by kernel_rfl))) (fun ρ m => by kernel_rfl)) m
noncomputable def E_Pflat_cursor_is : Entry Go.Proofs.Tryz.prog := ⟨F_Pflat_cursor_is, Go.Proofs.Tryz.f80, Go.Proofs.Tryz.func80, by kernel_rfl, arg2 (fun G a0 a1 m => s_Pflat_cursor_is G a0 a1 m), okarg2 e_Pflat_cursor_is⟩
/-! 81 (*waymark/flat.cursor).hop -/
noncomputable def s_Pflat_cursor_hop_2 (G : Gt) (p3 : Value) (m : Mem) : Option Rs :=
  some (p3, m)
noncomputable def s_Pflat_cursor_hop_1 (G : Gt) (p3 p0 : Value) (m : Mem) : Option Rs :=
  bp (pur (bin .eql true true .int p3 (.int .u32 0)) m) fun x0 m =>
  brb x0
    (bp (G.tab F_Pflat_cursor_bad [p0, (.int .i64 131)] m) fun x1 m =>
  s_Pflat_cursor_hop_2 G p3 m)
    (s_Pflat_cursor_hop_2 G p3 m)
noncomputable def s_Pflat_cursor_hop_0 (G : Gt) (p0 : Value) (m : Mem) : Option Rs :=
  bp (G.tab F_Pflat_cursor_addr [p0] m) fun x2 m =>
  s_Pflat_cursor_hop_1 G x2 p0 m
noncomputable def s_Pflat_cursor_hop (G : Gt) (p0 : Value) (m : Mem) : Option Rs :=
  s_Pflat_cursor_hop_0 G p0 m
theorem e_Pflat_cursor_hop (G : Gt) (a0 : Value) (m : Mem) : evFn Go.Proofs.Tryz.prog G.tab G.rds (drOf Go.Proofs.Tryz.prog G.tab) Go.Proofs.Tryz.f81 [a0] m = s_Pflat_cursor_hop G a0 m :=
  evFn_of (r := fun ρ m => s_Pflat_cursor_hop G (ρ 0) m) rfl rfl (tr (seqQ (f := fun ρ m => s_Pflat_cursor_hop_0 G (ρ 0) m) (tr (seqQ (f := fun ρ m => s_Pflat_cursor_hop_1 G (ρ 3) (ρ 0) m) (tr (seqQ (f := fun ρ m => s_Pflat_cursor_hop_2 G (ρ 3) m) (fun ρ m => by kernel_rfl)) (fun ρ m => by kernel_rfl))) (fun ρ m => by kernel_rfl))) (fun ρ m => by kernel_rfl)) m
noncomputable def E_Pflat_cursor_hop : Entry Go.Proofs.Tryz.prog := ⟨F_Pflat_cursor_hop, Go.Proofs.Tryz.f81, Go.Proofs.Tryz.func81, by kernel_rfl, arg1 (fun G a0 m => s_Pflat_cursor_hop G a0 m), okarg1 e_Pflat_cursor_hop⟩
/-! 82 (*waymark/flat.parser).rule -/
noncomputable def s_Pflat_parser_rule_2 (G : Gt) (p1 p5 p4 : Value) (m : Mem) : Option Rs :=
  bp (G.tab F_Pflat_cursor_ends [p1] m) fun x0 m =>
  bp (pur (aFieldAddr 2 p5) m) fun x1 m =>
  bp (unt (aStore 2 x1 x0 m)) fun _ m =>
  bp (pur (aFieldAddr 1 p5) m) fun x2 m =>
  bp (pur (aLoad false 1 x2 m) m) fun x3 m =>
  bp (G.tab F_Pflat_cursor_ports [p1, x3] m) fun x4 m =>
  bp (pur (aFieldAddr 6 p5) m) fun x5 m =>
  bp (unt (aStore 2 x5 x4 m)) fun _ m =>
  bp (G.tab F_Pflat_cursor_ends [p1] m) fun x6 m =>
  bp (pur (aFieldAddr 4 p5) m) fun x7 m =>
  bp (unt (aStore 2 x7 x6 m)) fun _ m =>
  bp (pur (aFieldAddr 1 p5) m) fun x8 m =>
  bp (pur (aLoad false 1 x8 m) m) fun x9 m =>
  bp (G.tab F_Pflat_cursor_ports [p1, x9] m) fun x10 m =>
  bp (pur (aFieldAddr 8 p5) m) fun x11 m =>
  bp (unt (aStore 2 x11 x10 m)) fun _ m =>
  bp (pur (aNilCheck p4) m) fun x12 m =>
  bp (pur (aFieldAddr 1 x12) m) fun x13 m =>
  bp (pur (aLoad false 1 x13 m) m) fun x14 m =>
  bp (pur (aLoad true 10 p5 m) m) fun x15 m =>
  bp (aBuildSlice T_api_Rule z_api_Rule 10 1 [(0, x15)] m) fun x16 m =>
  bp (apS T_api_Rule 10 64 x14 x16 m) fun x17 m =>
  bp (pur (aNilCheck p4) m) fun x18 m =>
  bp (pur (aFieldAddr 1 x18) m) fun x19 m =>
  bp (unt (aStore 1 x19 x17 m)) fun _ m =>
  some (.tuple ⟨[]⟩, m)
noncomputable def s_Pflat_parser_rule_1 (G : Gt) (p1 p5 p4 : Value) (m : Mem) : Option Rs :=
  bp (G.tab F_Pflat_cursor_is [p1, (.string ⟨#[97, 110, 121]⟩)] m) fun x20 m =>
  brb x20
    (bp (pur (aFieldAddr 1 p5) m) fun x21 m =>
  bp (unt (aStore 1 x21 (.int .i64 (-1)) m)) fun _ m =>
  s_Pflat_parser_rule_2 G p1 p5 p4 m)
    (bp (G.tab F_Pflat_cursor_is [p1, (.string ⟨#[116, 99, 112]⟩)] m) fun x22 m =>
  brb x22
    (bp (pur (aFieldAddr 1 p5) m) fun x23 m =>
  bp (unt (aStore 1 x23 (.int .i64 6) m)) fun _ m =>
  s_Pflat_parser_rule_2 G p1 p5 p4 m)
    (bp (G.tab F_Pflat_cursor_is [p1, (.string ⟨#[117, 100, 112]⟩)] m) fun x24 m =>
  brb x24
    (bp (pur (aFieldAddr 1 p5) m) fun x25 m =>
  bp (unt (aStore 1 x25 (.int .i64 17) m)) fun _ m =>
  s_Pflat_parser_rule_2 G p1 p5 p4 m)
    (bp (G.tab F_Pflat_cursor_is [p1, (.string ⟨#[105, 99, 109, 112]⟩)] m) fun x26 m =>
  brb x26
    (bp (pur (aFieldAddr 1 p5) m) fun x27 m =>
  bp (unt (aStore 1 x27 (.int .i64 1) m)) fun _ m =>
  s_Pflat_parser_rule_2 G p1 p5 p4 m)
    (bp (G.tab F_Pflat_cursor_number [p1, (.int .i64 0), (.int .i64 255)] m) fun x28 m =>
  bp (pur (aFieldAddr 1 p5) m) fun x29 m =>
  bp (unt (aStore 1 x29 x28 m)) fun _ m =>
  s_Pflat_parser_rule_2 G p1 p5 p4 m))))
noncomputable def s_Pflat_parser_rule_0 (G : Gt) (p1 p4 : Value) (m : Mem) : Option Rs :=
  bp (aBuildSlice T_string [(.string ⟨#[]⟩)] 1 2 [(0, (.string ⟨#[112, 101, 114, 109, 105, 116]⟩)), (1, (.string ⟨#[100, 101, 110, 121]⟩))] m) fun x30 m =>
  bp (G.tab F_Pflat_cursor_one [p1, x30] m) fun x31 m =>
  bp (pur (bin .eql true true .int x31 (.int .i64 0)) m) fun x32 m =>
  bp (pur (aBuild z_api_Rule [(0, 1), (1, 1), (2, 2), (4, 2), (6, 2), (8, 2)] [(0, x32)]) m) fun x33 m =>
  bp (some (aNew T_api_Rule z_api_Rule m)) fun x34 m =>
  bp (unt (aStore 10 x34 x33 m)) fun _ m =>
  s_Pflat_parser_rule_1 G p1 x34 p4 m
noncomputable def s_Pflat_parser_rule (G : Gt) (p0 p1 : Value) (m : Mem) : Option Rs :=
  bp (pur (aNilCheck p0) m) fun x35 m =>
  bp (pur (aFieldAddr 0 x35) m) fun x36 m =>
  bp (pur (aFieldAddr 4 x36) m) fun x37 m =>
  bp (pur (aLoad false 1 x37 m) m) fun x38 m =>
  bp (pur (aNilCheck p0) m) fun x39 m =>
  bp (pur (aFieldAddr 0 x39) m) fun x40 m =>
  bp (pur (aFieldAddr 4 x40) m) fun x41 m =>
  bp (pur (aLoad false 1 x41 m) m) fun x42 m =>
  bp (pur (lenK 1 x42 m) m) fun x43 m =>
  bp (pur (bin .sub true true .int x43 (.int .i64 1)) m) fun x44 m =>
  bp (pur (aIndexAddrSl 2 x38 x44) m) fun x45 m =>
  s_Pflat_parser_rule_0 G p1 x45 m
theorem e_Pflat_parser_rule (G : Gt) (a0 a1 : Value) (m : Mem) : evFn Go.Proofs.Tryz.prog G.tab G.rds (drOf Go.Proofs.Tryz.prog G.tab) Go.Proofs.Tryz.f82 [a0, a1] m = s_Pflat_parser_rule G a0 a1 m :=
  evFn_of (r := fun ρ m => s_Pflat_parser_rule G (ρ 0) (ρ 1) m) rfl rfl (tr (seqQ (f := fun ρ m => s_Pflat_parser_rule_0 G (ρ 1) (ρ 4) m) (tr (seqQ (f := fun ρ m => s_Pflat_parser_rule_1 G (ρ 1) (ρ 5) (ρ 4) m) (tr (seqQ (f := fun ρ m => s_Pflat_parser_rule_2 G (ρ 1) (ρ 5) (ρ 4) m) (fun ρ m => by kernel_rfl)) (fun ρ m => by kernel_rfl))) (fun ρ m => by kernel_rfl))) (fun ρ m => by kernel_rfl)) m
noncomputable def E_Pflat_parser_rule : Entry Go.Proofs.Tryz.prog := ⟨F_Pflat_parser_rule, Go.Proofs.Tryz.f82, Go.Proofs.Tryz.func82, by kernel_rfl, arg2 (fun G a0 a1 m => s_Pflat_parser_rule G a0 a1 m), okarg2 e_Pflat_parser_rule⟩
/-! 83 (*waymark/flat.cursor).entry -/
noncomputable def s_Pflat_cursor_entry_6 (G : Gt) (p3 p2 : Value) (m : Mem) : Option Rs :=
  bp (pur (aLoad true 5 p3 m) m) fun x0 m =>
  bp (unt (aStore 5 p2 x0 m)) fun _ m =>
  ob (ob (aLoad true 5 p2 m) fun v => ob (some []) fun l => some (v :: l)) fun l => some (resVal l, m)
noncomputable def s_Pflat_cursor_entry_5 (G : Gt) (p0 p3 p2 : Value) (m : Mem) : Option Rs :=
  bp (G.tab F_Pflat_cursor_is [p0, (.string ⟨#[108, 101]⟩)] m) fun x1 m =>
  brb x1
    (bp (pur (aFieldAddr 3 p3) m) fun x2 m =>
  bp (pur (aLoad false 1 x2 m) m) fun x3 m =>
  bp (G.tab F_Pflat_cursor_number [p0, x3, (.int .i64 32)] m) fun x4 m =>
  bp (pur (aFieldAddr 4 p3) m) fun x5 m =>
  bp (unt (aStore 1 x5 x4 m)) fun _ m =>
  s_Pflat_cursor_entry_6 G p3 p2 m)
    (s_Pflat_cursor_entry_6 G p3 p2 m)
noncomputable def s_Pflat_cursor_entry_4 (G : Gt) (p0 p4 p3 p2 : Value) (m : Mem) : Option Rs :=
  bp (G.tab F_Pflat_cursor_is [p0, (.string ⟨#[103, 101]⟩)] m) fun x6 m =>
  brb x6
    (bp (pur (aFieldAddr 1 p4) m) fun x7 m =>
  bp (pur (aLoad false 1 x7 m) m) fun x8 m =>
  bp (G.tab F_Pflat_cursor_number [p0, x8, (.int .i64 32)] m) fun x9 m =>
  bp (pur (aFieldAddr 3 p3) m) fun x10 m =>
  bp (unt (aStore 1 x10 x9 m)) fun _ m =>
  bp (pur (aFieldAddr 4 p3) m) fun x11 m =>
  bp (unt (aStore 1 x11 (.int .i64 32) m)) fun _ m =>
  s_Pflat_cursor_entry_5 G p0 p3 p2 m)
    (s_Pflat_cursor_entry_5 G p0 p3 p2 m)
noncomputable def s_Pflat_cursor_entry_3 (G : Gt) (p4 p3 p0 p2 : Value) (m : Mem) : Option Rs :=
  bp (pur (aLoad true 2 p4 m) m) fun x12 m =>
  bp (pur (aFieldAddr 1 p4) m) fun x13 m =>
  bp (pur (aLoad false 1 x13 m) m) fun x14 m =>
  bp (pur (aFieldAddr 1 p4) m) fun x15 m =>
  bp (pur (aLoad false 1 x15 m) m) fun x16 m =>
  bp (pur (aFieldAddr 1 p3) m) fun x17 m =>
  bp (unt (aStore 2 x17 x12 m)) fun _ m =>
  ckB (again (pur (aLoad false 1 x13 m) m) x14 && (again (pur (aLoad false 1 x15 m) m) x16 && true))
    (bp (pur (aFieldAddr 3 p3) m) fun x18 m =>
  bp (unt (aStore 1 x18 x14 m)) fun _ m =>
  ckB (again (pur (aLoad false 1 x15 m) m) x16 && true)
    (bp (pur (aFieldAddr 4 p3) m) fun x19 m =>
  bp (unt (aStore 1 x19 x16 m)) fun _ m =>
  s_Pflat_cursor_entry_4 G p0 p4 p3 p2 m))
noncomputable def s_Pflat_cursor_entry_2 (G : Gt) (p5 p4 p3 p0 p2 : Value) (m : Mem) : Option Rs :=
  bp (pur (bin .eql true true .int p5 (.int .i64 0)) m) fun x20 m =>
  brb x20
    (s_Pflat_cursor_entry_3 G p4 p3 p0 p2 m)
    (bp (pur (bin .eql true true .int p5 (.int .i64 10)) m) fun x21 m =>
  brb x21
    (bp (G.tab F_Pflat_cursor_bad [p0, (.int .i64 10)] m) fun x22 m =>
  s_Pflat_cursor_entry_3 G p4 p3 p0 p2 m)
    (bp (G.tab F_Pflat_cursor_bad [p0, (.int .i64 130)] m) fun x23 m =>
  s_Pflat_cursor_entry_3 G p4 p3 p0 p2 m))
noncomputable def s_Pflat_cursor_entry_1 (G : Gt) (p0 p3 p2 : Value) (m : Mem) : Option Rs :=
  bp (G.tab F_Pflat_cursor_word [p0] m) fun x24 m =>
  bp (G.tab F_addr_ParsePrefix [x24] m) fun x25 m =>
  bp (pur (aExtract x25 0) m) fun x26 m =>
  bp (pur (aExtract x25 1) m) fun x27 m =>
  bp (some (aNew T_api_Prefix z_api_Prefix m)) fun x28 m =>
  bp (unt (aStore 2 x28 x26 m)) fun _ m =>
  s_Pflat_cursor_entry_2 G x27 x28 p3 p0 p2 m
noncomputable def s_Pflat_cursor_entry_0 (G : Gt) (p0 p2 : Value) (m : Mem) : Option Rs :=
  bp (aBuildSlice T_string [(.string ⟨#[]⟩)] 1 2 [(0, (.string ⟨#[112, 101, 114, 109, 105, 116]⟩)), (1, (.string ⟨#[100, 101, 110, 121]⟩))] m) fun x29 m =>
  bp (G.tab F_Pflat_cursor_one [p0, x29] m) fun x30 m =>
  bp (pur (bin .eql true true .int x30 (.int .i64 0)) m) fun x31 m =>
  bp (pur (aBuild z_api_Entry [(0, 1), (1, 2), (3, 1), (4, 1)] [(0, x31)]) m) fun x32 m =>
  bp (some (aNew T_api_Entry z_api_Entry m)) fun x33 m =>
  bp (unt (aStore 5 x33 x32 m)) fun _ m =>
  s_Pflat_cursor_entry_1 G p0 x33 p2 m
noncomputable def s_Pflat_cursor_entry (G : Gt) (p0 : Value) (m : Mem) : Option Rs :=
  bp (some (aNew T_api_Entry z_api_Entry m)) fun x34 m =>
  s_Pflat_cursor_entry_0 G p0 x34 m
theorem e_Pflat_cursor_entry (G : Gt) (a0 : Value) (m : Mem) : evFn Go.Proofs.Tryz.prog G.tab G.rds (drOf Go.Proofs.Tryz.prog G.tab) Go.Proofs.Tryz.f83 [a0] m = s_Pflat_cursor_entry G a0 m :=
  evFn_of (r := fun ρ m => s_Pflat_cursor_entry G (ρ 0) m) rfl rfl (tr (seqQ (f := fun ρ m => s_Pflat_cursor_entry_0 G (ρ 0) (ρ 2) m) (tr (seqQ (f := fun ρ m => s_Pflat_cursor_entry_1 G (ρ 0) (ρ 3) (ρ 2) m) (tr (seqQ (f := fun ρ m => s_Pflat_cursor_entry_2 G (ρ 5) (ρ 4) (ρ 3) (ρ 0) (ρ 2) m) (tr (seqQ (f := fun ρ m => s_Pflat_cursor_entry_3 G (ρ 4) (ρ 3) (ρ 0) (ρ 2) m) (tr (seqQ (f := fun ρ m => s_Pflat_cursor_entry_4 G (ρ 0) (ρ 4) (ρ 3) (ρ 2) m) (tr (seqQ (f := fun ρ m => s_Pflat_cursor_entry_5 G (ρ 0) (ρ 3) (ρ 2) m) (tr (seqQ (f := fun ρ m => s_Pflat_cursor_entry_6 G (ρ 3) (ρ 2) m) (fun ρ m => by kernel_rfl)) (fun ρ m => by kernel_rfl))) (fun ρ m => by kernel_rfl))) (fun ρ m => by kernel_rfl))) (fun ρ m => by kernel_rfl))) (fun ρ m => by kernel_rfl))) (fun ρ m => by kernel_rfl))) (fun ρ m => by kernel_rfl)) m
noncomputable def E_Pflat_cursor_entry : Entry Go.Proofs.Tryz.prog := ⟨F_Pflat_cursor_entry, Go.Proofs.Tryz.f83, Go.Proofs.Tryz.func83, by kernel_rfl, arg1 (fun G a0 m => s_Pflat_cursor_entry G a0 m), okarg1 e_Pflat_cursor_entry⟩
/-! 84 slices.IndexFunc[[]waymark/api.PrefixList,waymark/api.PrefixList] -/
noncomputable def s_slices_IndexFuncLLJapi_PrefixListCapi_PrefixListJ_1 (G : Gt) (m : Mem) : Option Rs :=
  some ((.int .i64 (-1)), m)
noncomputable def s_slices_IndexFuncLLJapi_PrefixListCapi_PrefixListJ_3 (G : Gt) : Nat → Value → Value → Value → Value → Mem → Option Rs
  | 0, _, _, _, _, _ => none
  | i + 1, p8, p7, p1, p0, m =>
  bp (pur (bin .lss false true .int p8 p7) m) fun x0 m =>
  brb x0
    (bp (pur (aIndexAddrSl 2 p0 p8) m) fun x1 m =>
  bp (pur (aLoad true 2 x1 m) m) fun x2 m =>
  bp (evCall G.tab p1 [x2] m) fun x3 m =>
  brb x3
    (some (p8, m))
    (bp (pur (bin .add true true .int p8 (.int .i64 1)) m) fun x4 m =>
  (s_slices_IndexFuncLLJapi_PrefixListCapi_PrefixListJ_3 G i) x4 p7 p1 p0 m))
    (s_slices_IndexFuncLLJapi_PrefixListCapi_PrefixListJ_1 G m)
noncomputable def s_slices_IndexFuncLLJapi_PrefixListCapi_PrefixListJ_2 (G : Gt) (p8 p7 p1 p0 : Value) (m : Mem) : Option Rs :=
  s_slices_IndexFuncLLJapi_PrefixListCapi_PrefixListJ_3 G G.rds p8 p7 p1 p0 m
noncomputable def s_slices_IndexFuncLLJapi_PrefixListCapi_PrefixListJ_0 (G : Gt) (p0 p1 : Value) (m : Mem) : Option Rs :=
  bp (pur (lenK 1 p0 m) m) fun x5 m =>
  s_slices_IndexFuncLLJapi_PrefixListCapi_PrefixListJ_2 G (.int .i64 0) x5 p1 p0 m
noncomputable def s_slices_IndexFuncLLJapi_PrefixListCapi_PrefixListJ (G : Gt) (p0 p1 : Value) (m : Mem) : Option Rs :=
  s_slices_IndexFuncLLJapi_PrefixListCapi_PrefixListJ_0 G p0 p1 m
theorem e_slices_IndexFuncLLJapi_PrefixListCapi_PrefixListJ (G : Gt) (a0 a1 : Value) (m : Mem) : evFn Go.Proofs.Tryz.prog G.tab G.rds (drOf Go.Proofs.Tryz.prog G.tab) Go.Proofs.Tryz.f84 [a0, a1] m = s_slices_IndexFuncLLJapi_PrefixListCapi_PrefixListJ G a0 a1 m :=
  evFn_of (r := fun ρ m => s_slices_IndexFuncLLJapi_PrefixListCapi_PrefixListJ G (ρ 0) (ρ 1) m) rfl rfl (tr (seqQ (f := fun ρ m => s_slices_IndexFuncLLJapi_PrefixListCapi_PrefixListJ_0 G (ρ 0) (ρ 1) m) (tr (tr (seqQ (f := fun ρ m => s_slices_IndexFuncLLJapi_PrefixListCapi_PrefixListJ_1 G m) (fun ρ m => by kernel_rfl)) (seqQ (f := fun ρ m => s_slices_IndexFuncLLJapi_PrefixListCapi_PrefixListJ_2 G (ρ 8) (ρ 7) (ρ 1) (ρ 0) m) (tr (blockQ (loopQ (fun i ρ m => s_slices_IndexFuncLLJapi_PrefixListCapi_PrefixListJ_3 G i (ρ 8) (ρ 7) (ρ 1) (ρ 0) m) (fun _ _ => rfl) (fun i0 => fun ρ m => by kernel_rfl))) (fun ρ m => by kernel_rfl)))) (fun ρ m => by kernel_rfl))) (fun ρ m => by kernel_rfl)) m
noncomputable def E_slices_IndexFuncLLJapi_PrefixListCapi_PrefixListJ : Entry Go.Proofs.Tryz.prog := ⟨F_slices_IndexFuncLLJapi_PrefixListCapi_PrefixListJ, Go.Proofs.Tryz.f84, Go.Proofs.Tryz.func84, by kernel_rfl, arg2 (fun G a0 a1 m => s_slices_IndexFuncLLJapi_PrefixListCapi_PrefixListJ G a0 a1 m), okarg2 e_slices_IndexFuncLLJapi_PrefixListCapi_PrefixListJ⟩
/-! 85 (*waymark/flat.parser).ip$1 -/
noncomputable def s_Pflat_parser_ipS1 (G : Gt) (p0 p1 : Value) (m : Mem) : Option Rs :=
  bp (some (aNew T_api_PrefixList (Value.cells p0).toList m)) fun x0 m =>
  bp (pur (aFieldAddr 0 x0) m) fun x1 m =>
  bp (pur (aLoad false 1 x1 m) m) fun x2 m =>
  bp (pur (aLoad false 1 p1 m) m) fun x3 m =>
  bp (pur (bin .eql false true .str x2 x3) m) fun x4 m =>
  some (x4, m)
theorem e_Pflat_parser_ipS1 (G : Gt) (a0 a1 : Value) (m : Mem) : evFn Go.Proofs.Tryz.prog G.tab G.rds (drOf Go.Proofs.Tryz.prog G.tab) Go.Proofs.Tryz.f85 [a0, a1] m = s_Pflat_parser_ipS1 G a0 a1 m :=
  evFn_of (r := fun ρ m => s_Pflat_parser_ipS1 G (ρ 0) (ρ 1) m) rfl rfl (fun ρ m => by kernel_rfl) m
noncomputable def E_Pflat_parser_ipS1 : Entry Go.Proofs.Tryz.prog := ⟨F_Pflat_parser_ipS1, Go.Proofs.Tryz.f85, Go.Proofs.Tryz.func85, by kernel_rfl, arg2 (fun G a0 a1 m => s_Pflat_parser_ipS1 G a0 a1 m), okarg2 e_Pflat_parser_ipS1⟩
/-! 86 (*waymark/flat.cursor).comms -/
noncomputable def s_Pflat_cursor_comms_2 (G : Gt) (p3 : Value) (m : Mem) : Option Rs :=
  some (p3, m)
noncomputable def s_Pflat_cursor_comms_7 (G : Gt) (k0 : Value → Value → Value → Mem → Option Rs) (p3 p5 p0 : Value) (m : Mem) : Option Rs :=
  bp (aBuildSlice T_uint32 [(.int .u32 0)] 1 1 [(0, p5)] m) fun x0 m =>
  bp (apS T_uint32 1 4 p3 x0 m) fun x1 m =>
  bp (G.tab F_Pflat_cursor_more [p0] m) fun x2 m =>
  k0 x2 p0 x1 m
noncomputable def s_Pflat_cursor_comms_6 (G : Gt) (k0 : Value → Value → Value → Mem → Option Rs) (p6 p0 p3 p5 : Value) (m : Mem) : Option Rs :=
  bp (pur (bin .neq true true .int p6 (.int .i64 0)) m) fun x3 m =>
  brb x3
    (bp (G.tab F_Pflat_cursor_bad [p0, (.int .i64 130)] m) fun x4 m =>
  s_Pflat_cursor_comms_7 G k0 p3 p5 p0 m)
    (s_Pflat_cursor_comms_7 G k0 p3 p5 p0 m)
noncomputable def s_Pflat_cursor_comms_5 (G : Gt) (k0 : Value → Value → Value → Mem → Option Rs) (p0 p3 : Value) (m : Mem) : Option Rs :=
  bp (G.tab F_Pflat_cursor_word [p0] m) fun x5 m =>
  bp (G.tab F_lists_Parse [x5] m) fun x6 m =>
  bp (pur (aExtract x6 0) m) fun x7 m =>
  bp (pur (aExtract x6 1) m) fun x8 m =>
  s_Pflat_cursor_comms_6 G k0 x8 p0 p3 x7 m
noncomputable def s_Pflat_cursor_comms_4 (G : Gt) : Nat → Value → Value → Value → Mem → Option Rs
  | 0, _, _, _, _ => none
  | i + 1, p4, p0, p3, m =>
  brb p4
    (s_Pflat_cursor_comms_5 G (s_Pflat_cursor_comms_4 G i) p0 p3 m)
    (s_Pflat_cursor_comms_2 G p3 m)
noncomputable def s_Pflat_cursor_comms_3 (G : Gt) (p4 p0 p3 : Value) (m : Mem) : Option Rs :=
  s_Pflat_cursor_comms_4 G G.rds p4 p0 p3 m
noncomputable def s_Pflat_cursor_comms_1 (G : Gt) (p0 p3 : Value) (m : Mem) : Option Rs :=
  s_Pflat_cursor_comms_3 G (.bool true) p0 p3 m
noncomputable def s_Pflat_cursor_comms_0 (G : Gt) (p0 : Value) (m : Mem) : Option Rs :=
  s_Pflat_cursor_comms_1 G p0 (.slice none 0 0) m
noncomputable def s_Pflat_cursor_comms (G : Gt) (p0 : Value) (m : Mem) : Option Rs :=
  s_Pflat_cursor_comms_0 G p0 m
theorem e_Pflat_cursor_comms (G : Gt) (a0 : Value) (m : Mem) : evFn Go.Proofs.Tryz.prog G.tab G.rds (drOf Go.Proofs.Tryz.prog G.tab) Go.Proofs.Tryz.f86 [a0] m = s_Pflat_cursor_comms G a0 m :=
  evFn_of (r := fun ρ m => s_Pflat_cursor_comms G (ρ 0) m) rfl rfl (tr (seqQ (f := fun ρ m => s_Pflat_cursor_comms_0 G (ρ 0) m) (tr (seqQ (f := fun ρ m => s_Pflat_cursor_comms_1 G (ρ 0) (ρ 3) m) (tr (tr (seqQ (f := fun ρ m => s_Pflat_cursor_comms_2 G (ρ 3) m) (fun ρ m => by kernel_rfl)) (seqQ (f := fun ρ m => s_Pflat_cursor_comms_3 G (ρ 4) (ρ 0) (ρ 3) m) (tr (blockQ (loopQ (fun i ρ m => s_Pflat_cursor_comms_4 G i (ρ 4) (ρ 0) (ρ 3) m) (fun _ _ => rfl) (fun i0 => tr (seqQ (f := fun ρ m => s_Pflat_cursor_comms_5 G (s_Pflat_cursor_comms_4 G i0) (ρ 0) (ρ 3) m) (tr (tr seqD (blockQ (seqQ (f := fun ρ m => s_Pflat_cursor_comms_6 G (s_Pflat_cursor_comms_4 G i0) (ρ 6) (ρ 0) (ρ 3) (ρ 5) m) (tr (seqQ (f := fun ρ m => s_Pflat_cursor_comms_7 G (s_Pflat_cursor_comms_4 G i0) (ρ 3) (ρ 5) (ρ 0) m) (fun ρ m => by kernel_rfl)) (fun ρ m => by kernel_rfl))))) (fun ρ m => by kernel_rfl))) (fun ρ m => by kernel_rfl)))) (fun ρ m => by kernel_rfl)))) (fun ρ m => by kernel_rfl))) (fun ρ m => by kernel_rfl))) (fun ρ m => by kernel_rfl)) m
noncomputable def E_Pflat_cursor_comms : Entry Go.Proofs.Tryz.prog := ⟨F_Pflat_cursor_comms, Go.Proofs.Tryz.f86, Go.Proofs.Tryz.func86, by kernel_rfl, arg1 (fun G a0 m => s_Pflat_cursor_comms G a0 m), okarg1 e_Pflat_cursor_comms⟩
/-! 87 slices.IndexFunc[[]waymark/api.CommunityList,waymark/api.CommunityList] -/
noncomputable def s_slices_IndexFuncLLJapi_CommunityListCapi_CommunityListJ_1 (G : Gt) (m : Mem) : Option Rs :=
  some ((.int .i64 (-1)), m)
noncomputable def s_slices_IndexFuncLLJapi_CommunityListCapi_CommunityListJ_3 (G : Gt) : Nat → Value → Value → Value → Value → Mem → Option Rs
  | 0, _, _, _, _, _ => none
  | i + 1, p8, p7, p1, p0, m =>
  bp (pur (bin .lss false true .int p8 p7) m) fun x0 m =>
  brb x0
    (bp (pur (aIndexAddrSl 2 p0 p8) m) fun x1 m =>
  bp (pur (aLoad true 2 x1 m) m) fun x2 m =>
  bp (evCall G.tab p1 [x2] m) fun x3 m =>
  brb x3
    (some (p8, m))
    (bp (pur (bin .add true true .int p8 (.int .i64 1)) m) fun x4 m =>
  (s_slices_IndexFuncLLJapi_CommunityListCapi_CommunityListJ_3 G i) x4 p7 p1 p0 m))
    (s_slices_IndexFuncLLJapi_CommunityListCapi_CommunityListJ_1 G m)
noncomputable def s_slices_IndexFuncLLJapi_CommunityListCapi_CommunityListJ_2 (G : Gt) (p8 p7 p1 p0 : Value) (m : Mem) : Option Rs :=
  s_slices_IndexFuncLLJapi_CommunityListCapi_CommunityListJ_3 G G.rds p8 p7 p1 p0 m
noncomputable def s_slices_IndexFuncLLJapi_CommunityListCapi_CommunityListJ_0 (G : Gt) (p0 p1 : Value) (m : Mem) : Option Rs :=
  bp (pur (lenK 1 p0 m) m) fun x5 m =>
  s_slices_IndexFuncLLJapi_CommunityListCapi_CommunityListJ_2 G (.int .i64 0) x5 p1 p0 m
noncomputable def s_slices_IndexFuncLLJapi_CommunityListCapi_CommunityListJ (G : Gt) (p0 p1 : Value) (m : Mem) : Option Rs :=
  s_slices_IndexFuncLLJapi_CommunityListCapi_CommunityListJ_0 G p0 p1 m
theorem e_slices_IndexFuncLLJapi_CommunityListCapi_CommunityListJ (G : Gt) (a0 a1 : Value) (m : Mem) : evFn Go.Proofs.Tryz.prog G.tab G.rds (drOf Go.Proofs.Tryz.prog G.tab) Go.Proofs.Tryz.f87 [a0, a1] m = s_slices_IndexFuncLLJapi_CommunityListCapi_CommunityListJ G a0 a1 m :=
  evFn_of (r := fun ρ m => s_slices_IndexFuncLLJapi_CommunityListCapi_CommunityListJ G (ρ 0) (ρ 1) m) rfl rfl (tr (seqQ (f := fun ρ m => s_slices_IndexFuncLLJapi_CommunityListCapi_CommunityListJ_0 G (ρ 0) (ρ 1) m) (tr (tr (seqQ (f := fun ρ m => s_slices_IndexFuncLLJapi_CommunityListCapi_CommunityListJ_1 G m) (fun ρ m => by kernel_rfl)) (seqQ (f := fun ρ m => s_slices_IndexFuncLLJapi_CommunityListCapi_CommunityListJ_2 G (ρ 8) (ρ 7) (ρ 1) (ρ 0) m) (tr (blockQ (loopQ (fun i ρ m => s_slices_IndexFuncLLJapi_CommunityListCapi_CommunityListJ_3 G i (ρ 8) (ρ 7) (ρ 1) (ρ 0) m) (fun _ _ => rfl) (fun i0 => fun ρ m => by kernel_rfl))) (fun ρ m => by kernel_rfl)))) (fun ρ m => by kernel_rfl))) (fun ρ m => by kernel_rfl)) m
noncomputable def E_slices_IndexFuncLLJapi_CommunityListCapi_CommunityListJ : Entry Go.Proofs.Tryz.prog := ⟨F_slices_IndexFuncLLJapi_CommunityListCapi_CommunityListJ, Go.Proofs.Tryz.f87, Go.Proofs.Tryz.func87, by kernel_rfl, arg2 (fun G a0 a1 m => s_slices_IndexFuncLLJapi_CommunityListCapi_CommunityListJ G a0 a1 m), okarg2 e_slices_IndexFuncLLJapi_CommunityListCapi_CommunityListJ⟩
/-! 89 (*waymark/flat.cursor).want -/
noncomputable def s_Pflat_cursor_want (G : Gt) (p0 p1 : Value) (m : Mem) : Option Rs :=
  bp (G.tab F_Pflat_cursor_word [p0] m) fun x0 m =>
  bp (pur (bin .neq false true .str x0 p1) m) fun x1 m =>
  brb x1
    (bp (G.tab F_Pflat_cursor_bad [p0, (.int .i64 130)] m) fun x2 m =>
  some (.tuple ⟨[]⟩, m))
    (some (.tuple ⟨[]⟩, m))
theorem e_Pflat_cursor_want (G : Gt) (a0 a1 : Value) (m : Mem) : evFn Go.Proofs.Tryz.prog G.tab G.rds (drOf Go.Proofs.Tryz.prog G.tab) Go.Proofs.Tryz.f89 [a0, a1] m = s_Pflat_cursor_want G a0 a1 m :=
  evFn_of (r := fun ρ m => s_Pflat_cursor_want G (ρ 0) (ρ 1) m) rfl rfl (fun ρ m => by kernel_rfl) m
noncomputable def E_Pflat_cursor_want : Entry Go.Proofs.Tryz.prog := ⟨F_Pflat_cursor_want, Go.Proofs.Tryz.f89, Go.Proofs.Tryz.func89, by kernel_rfl, arg2 (fun G a0 a1 m => s_Pflat_cursor_want G a0 a1 m), okarg2 e_Pflat_cursor_want⟩
/-! 90 slices.Index[[]string,string] -/
noncomputable def s_slices_IndexLLJstringCstringJ_1 (G : Gt) (m : Mem) : Option Rs :=
  some ((.int .i64 (-1)), m)
noncomputable def s_slices_IndexLLJstringCstringJ_3 (G : Gt) : Nat → Value → Value → Value → Value → Mem → Option Rs
  | 0, _, _, _, _, _ => none
  | i + 1, p8, p7, p1, p0, m =>
  bp (pur (bin .lss false true .int p8 p7) m) fun x0 m =>
  brb x0
    (bp (pur (aIndexAddrSl 1 p0 p8) m) fun x1 m =>
  bp (pur (aLoad false 1 x1 m) m) fun x2 m =>
  bp (pur (bin .eql false true .str p1 x2) m) fun x3 m =>
  brb x3
    (some (p8, m))
    (bp (pur (bin .add true true .int p8 (.int .i64 1)) m) fun x4 m =>
  (s_slices_IndexLLJstringCstringJ_3 G i) x4 p7 p1 p0 m))
    (s_slices_IndexLLJstringCstringJ_1 G m)
noncomputable def s_slices_IndexLLJstringCstringJ_2 (G : Gt) (p8 p7 p1 p0 : Value) (m : Mem) : Option Rs :=
  s_slices_IndexLLJstringCstringJ_3 G G.rds p8 p7 p1 p0 m
noncomputable def s_slices_IndexLLJstringCstringJ_0 (G : Gt) (p0 p1 : Value) (m : Mem) : Option Rs :=
  bp (pur (lenK 1 p0 m) m) fun x5 m =>
  s_slices_IndexLLJstringCstringJ_2 G (.int .i64 0) x5 p1 p0 m
noncomputable def s_slices_IndexLLJstringCstringJ (G : Gt) (p0 p1 : Value) (m : Mem) : Option Rs :=
  s_slices_IndexLLJstringCstringJ_0 G p0 p1 m
theorem e_slices_IndexLLJstringCstringJ (G : Gt) (a0 a1 : Value) (m : Mem) : evFn Go.Proofs.Tryz.prog G.tab G.rds (drOf Go.Proofs.Tryz.prog G.tab) Go.Proofs.Tryz.f90 [a0, a1] m = s_slices_IndexLLJstringCstringJ G a0 a1 m :=
  evFn_of (r := fun ρ m => s_slices_IndexLLJstringCstringJ G (ρ 0) (ρ 1) m) rfl rfl (tr (seqQ (f := fun ρ m => s_slices_IndexLLJstringCstringJ_0 G (ρ 0) (ρ 1) m) (tr (tr (seqQ (f := fun ρ m => s_slices_IndexLLJstringCstringJ_1 G m) (fun ρ m => by kernel_rfl)) (seqQ (f := fun ρ m => s_slices_IndexLLJstringCstringJ_2 G (ρ 8) (ρ 7) (ρ 1) (ρ 0) m) (tr (blockQ (loopQ (fun i ρ m => s_slices_IndexLLJstringCstringJ_3 G i (ρ 8) (ρ 7) (ρ 1) (ρ 0) m) (fun _ _ => rfl) (fun i0 => fun ρ m => by kernel_rfl))) (fun ρ m => by kernel_rfl)))) (fun ρ m => by kernel_rfl))) (fun ρ m => by kernel_rfl)) m
noncomputable def E_slices_IndexLLJstringCstringJ : Entry Go.Proofs.Tryz.prog := ⟨F_slices_IndexLLJstringCstringJ, Go.Proofs.Tryz.f90, Go.Proofs.Tryz.func90, by kernel_rfl, arg2 (fun G a0 a1 m => s_slices_IndexLLJstringCstringJ G a0 a1 m), okarg2 e_slices_IndexLLJstringCstringJ⟩
/-! 91 slices.IndexFunc[[]waymark/api.Policy,waymark/api.Policy] -/
noncomputable def s_slices_IndexFuncLLJapi_PolicyCapi_PolicyJ_1 (G : Gt) (m : Mem) : Option Rs :=
  some ((.int .i64 (-1)), m)
noncomputable def s_slices_IndexFuncLLJapi_PolicyCapi_PolicyJ_3 (G : Gt) : Nat → Value → Value → Value → Value → Mem → Option Rs
  | 0, _, _, _, _, _ => none
  | i + 1, p8, p7, p1, p0, m =>
  bp (pur (bin .lss false true .int p8 p7) m) fun x0 m =>
  brb x0
    (bp (pur (aIndexAddrSl 3 p0 p8) m) fun x1 m =>
  bp (pur (aLoad true 3 x1 m) m) fun x2 m =>
  bp (evCall G.tab p1 [x2] m) fun x3 m =>
  brb x3
    (some (p8, m))
    (bp (pur (bin .add true true .int p8 (.int .i64 1)) m) fun x4 m =>
  (s_slices_IndexFuncLLJapi_PolicyCapi_PolicyJ_3 G i) x4 p7 p1 p0 m))
    (s_slices_IndexFuncLLJapi_PolicyCapi_PolicyJ_1 G m)
noncomputable def s_slices_IndexFuncLLJapi_PolicyCapi_PolicyJ_2 (G : Gt) (p8 p7 p1 p0 : Value) (m : Mem) : Option Rs :=
  s_slices_IndexFuncLLJapi_PolicyCapi_PolicyJ_3 G G.rds p8 p7 p1 p0 m
noncomputable def s_slices_IndexFuncLLJapi_PolicyCapi_PolicyJ_0 (G : Gt) (p0 p1 : Value) (m : Mem) : Option Rs :=
  bp (pur (lenK 1 p0 m) m) fun x5 m =>
  s_slices_IndexFuncLLJapi_PolicyCapi_PolicyJ_2 G (.int .i64 0) x5 p1 p0 m
noncomputable def s_slices_IndexFuncLLJapi_PolicyCapi_PolicyJ (G : Gt) (p0 p1 : Value) (m : Mem) : Option Rs :=
  s_slices_IndexFuncLLJapi_PolicyCapi_PolicyJ_0 G p0 p1 m
theorem e_slices_IndexFuncLLJapi_PolicyCapi_PolicyJ (G : Gt) (a0 a1 : Value) (m : Mem) : evFn Go.Proofs.Tryz.prog G.tab G.rds (drOf Go.Proofs.Tryz.prog G.tab) Go.Proofs.Tryz.f91 [a0, a1] m = s_slices_IndexFuncLLJapi_PolicyCapi_PolicyJ G a0 a1 m :=
  evFn_of (r := fun ρ m => s_slices_IndexFuncLLJapi_PolicyCapi_PolicyJ G (ρ 0) (ρ 1) m) rfl rfl (tr (seqQ (f := fun ρ m => s_slices_IndexFuncLLJapi_PolicyCapi_PolicyJ_0 G (ρ 0) (ρ 1) m) (tr (tr (seqQ (f := fun ρ m => s_slices_IndexFuncLLJapi_PolicyCapi_PolicyJ_1 G m) (fun ρ m => by kernel_rfl)) (seqQ (f := fun ρ m => s_slices_IndexFuncLLJapi_PolicyCapi_PolicyJ_2 G (ρ 8) (ρ 7) (ρ 1) (ρ 0) m) (tr (blockQ (loopQ (fun i ρ m => s_slices_IndexFuncLLJapi_PolicyCapi_PolicyJ_3 G i (ρ 8) (ρ 7) (ρ 1) (ρ 0) m) (fun _ _ => rfl) (fun i0 => fun ρ m => by kernel_rfl))) (fun ρ m => by kernel_rfl)))) (fun ρ m => by kernel_rfl))) (fun ρ m => by kernel_rfl)) m
noncomputable def E_slices_IndexFuncLLJapi_PolicyCapi_PolicyJ : Entry Go.Proofs.Tryz.prog := ⟨F_slices_IndexFuncLLJapi_PolicyCapi_PolicyJ, Go.Proofs.Tryz.f91, Go.Proofs.Tryz.func91, by kernel_rfl, arg2 (fun G a0 a1 m => s_slices_IndexFuncLLJapi_PolicyCapi_PolicyJ G a0 a1 m), okarg2 e_slices_IndexFuncLLJapi_PolicyCapi_PolicyJ⟩
end Go.Ab.Sh

set_option linter.unusedVariables false
set_option maxRecDepth 100000
namespace Go.Ab.Sh
open Go Go.Ab
/-! 92 (*waymark/flat.parser).clause$1 -/
noncomputable def s_Pflat_parser_clauseS1 (G : Gt) (p0 p1 : Value) (m : Mem) : Option Rs :=
  bp (some (aNew T_api_Policy (Value.cells p0).toList m)) fun x0 m =>
  bp (pur (aFieldAddr 0 x0) m) fun x1 m =>
  bp (pur (aLoad false 1 x1 m) m) fun x2 m =>
  bp (pur (aLoad false 1 p1 m) m) fun x3 m =>
  bp (pur (bin .eql false true .str x2 x3) m) fun x4 m =>
  some (x4, m)
theorem e_Pflat_parser_clauseS1 (G : Gt) (a0 a1 : Value) (m : Mem) : evFn Go.Proofs.Tryz.prog G.tab G.rds (drOf Go.Proofs.Tryz.prog G.tab) Go.Proofs.Tryz.f92 [a0, a1] m = s_Pflat_parser_clauseS1 G a0 a1 m :=
  evFn_of (r := fun ρ m => s_Pflat_parser_clauseS1 G (ρ 0) (ρ 1) m) rfl rfl (fun ρ m => by kernel_rfl) m
noncomputable def E_Pflat_parser_clauseS1 : Entry Go.Proofs.Tryz.prog := ⟨F_Pflat_parser_clauseS1, Go.Proofs.Tryz.f92, Go.Proofs.Tryz.func92, by kernel_rfl, arg2 (fun G a0 a1 m => s_Pflat_parser_clauseS1 G a0 a1 m), okarg2 e_Pflat_parser_clauseS1⟩
/-! 93 (*waymark/flat.parser).ask -/
noncomputable def s_Pflat_parser_ask_6 (G : Gt) (p0 p6 p7 : Value) (m : Mem) : Option Rs :=
  bp (aBuildSlice T_string [(.string ⟨#[]⟩)] 1 2 [(0, p6), (1, p7)] m) fun x0 m =>
  bp (G.tab F_Pflat_parser_inside [p0, x0] m) fun x1 m =>
  some (.tuple ⟨[]⟩, m)
noncomputable def s_Pflat_parser_ask_5 (G : Gt) (p7 p5 p1 p0 p6 : Value) (m : Mem) : Option Rs :=
  bp (pur (bin .eql true true .str p7 (.string ⟨#[112, 114, 101, 102, 105, 120, 45, 108, 105, 115, 116]⟩)) m) fun x2 m =>
  brb x2
    (bp (G.tab F_Pflat_cursor_name [p1] m) fun x3 m =>
  bp (pur (aNilCheck p5) m) fun x4 m =>
  bp (pur (aFieldAddr 2 x4) m) fun x5 m =>
  bp (unt (aStore 1 x5 x3 m)) fun _ m =>
  s_Pflat_parser_ask_6 G p0 p6 p7 m)
    (bp (pur (bin .eql true true .str p7 (.string ⟨#[99, 111, 109, 109, 117, 110, 105, 116, 121, 45, 108, 105, 115, 116]⟩)) m) fun x6 m =>
  brb x6
    (bp (G.tab F_Pflat_cursor_name [p1] m) fun x7 m =>
  bp (pur (aNilCheck p5) m) fun x8 m =>
  bp (pur (aFieldAddr 3 x8) m) fun x9 m =>
  bp (unt (aStore 1 x9 x7 m)) fun _ m =>
  s_Pflat_parser_ask_6 G p0 p6 p7 m)
    (bp (pur (bin .eql true true .str p7 (.string ⟨#[116, 97, 103]⟩)) m) fun x10 m =>
  brb x10
    (bp (G.tab F_Pflat_cursor_number [p1, (.int .i64 0), (.int .i64 16777216)] m) fun x11 m =>
  bp (pur (aNilCheck p5) m) fun x12 m =>
  bp (pur (aFieldAddr 4 x12) m) fun x13 m =>
  bp (unt (aStore 1 x13 x11 m)) fun _ m =>
  s_Pflat_parser_ask_6 G p0 p6 p7 m)
    (bp (pur (bin .eql true true .str p7 (.string ⟨#[109, 101, 116, 114, 105, 99]⟩)) m) fun x14 m =>
  brb x14
    (bp (G.tab F_Pflat_cursor_number [p1, (.int .i64 0), (.int .i64 16777216)] m) fun x15 m =>
  bp (pur (aNilCheck p5) m) fun x16 m =>
  bp (pur (aFieldAddr 5 x16) m) fun x17 m =>
  bp (unt (aStore 1 x17 x15 m)) fun _ m =>
  s_Pflat_parser_ask_6 G p0 p6 p7 m)
    (bp (pur (bin .eql true true .str p7 (.string ⟨#[97, 115]⟩)) m) fun x18 m =>
  brb x18
    (bp (G.tab F_Pflat_cursor_number [p1, (.int .i64 1), (.int .i64 4294967295)] m) fun x19 m =>
  bp (pur (aNilCheck p5) m) fun x20 m =>
  bp (pur (aFieldAddr 6 x20) m) fun x21 m =>
  bp (unt (aStore 1 x21 x19 m)) fun _ m =>
  s_Pflat_parser_ask_6 G p0 p6 p7 m)
    (bp (G.tab F_Pflat_cursor_bad [p1, (.int .i64 130)] m) fun x22 m =>
  s_Pflat_parser_ask_6 G p0 p6 p7 m)))))
noncomputable def s_Pflat_parser_ask_4 (G : Gt) (p30 p1 p5 p0 p6 p27 : Value) (m : Mem) : Option Rs :=
  brb p30
    (bp (G.tab F_Pflat_cursor_word [p1] m) fun x23 m =>
  s_Pflat_parser_ask_5 G x23 p5 p1 p0 p6 m)
    (bp (pur (bin .eql true true .str p27 (.string ⟨#[115, 101, 116]⟩)) m) fun x24 m =>
  brb x24
    (bp (G.tab F_Pflat_parser_set [p0, p1, p5] m) fun x25 m =>
  bp (aBuildSlice T_string [(.string ⟨#[]⟩)] 1 2 [(0, p6), (1, x25)] m) fun x26 m =>
  bp (G.tab F_Pflat_parser_inside [p0, x26] m) fun x27 m =>
  some (.tuple ⟨[]⟩, m))
    (bp (pur (bin .eql true true .str p27 (.string ⟨#[99, 111, 110, 116, 105, 110, 117, 101]⟩)) m) fun x28 m =>
  brb x28
    (bp (pur (aNilCheck p5) m) fun x29 m =>
  bp (pur (aFieldAddr 0 x29) m) fun x30 m =>
  bp (pur (aLoad false 1 x30 m) m) fun x31 m =>
  bp (pur (bin .add true true .int x31 (.int .i64 1)) m) fun x32 m =>
  bp (G.tab F_Pflat_cursor_number [p1, x32, (.int .i64 65535)] m) fun x33 m =>
  bp (pur (aNilCheck p5) m) fun x34 m =>
  bp (pur (aFieldAddr 14 x34) m) fun x35 m =>
  bp (unt (aStore 1 x35 x33 m)) fun _ m =>
  bp (aBuildSlice T_string [(.string ⟨#[]⟩)] 1 1 [(0, p6)] m) fun x36 m =>
  bp (G.tab F_Pflat_parser_inside [p0, x36] m) fun x37 m =>
  some (.tuple ⟨[]⟩, m))
    (bp (G.tab F_Pflat_cursor_bad [p1, (.int .i64 130)] m) fun x38 m =>
  some (.tuple ⟨[]⟩, m))))
noncomputable def s_Pflat_parser_ask_3 (G : Gt) (p27 p1 p5 p0 p6 : Value) (m : Mem) : Option Rs :=
  bp (pur (bin .eql true true .str p27 (.string ⟨#[109, 97, 116, 99, 104]⟩)) m) fun x39 m =>
  s_Pflat_parser_ask_4 G x39 p1 p5 p0 p6 p27 m
noncomputable def s_Pflat_parser_ask_2 (G : Gt) (p6 p1 p5 p0 : Value) (m : Mem) : Option Rs :=
  s_Pflat_parser_ask_3 G p6 p1 p5 p0 p6 m
noncomputable def s_Pflat_parser_ask_1 (G : Gt) (p1 p5 p0 : Value) (m : Mem) : Option Rs :=
  bp (G.tab F_Pflat_cursor_word [p1] m) fun x40 m =>
  s_Pflat_parser_ask_2 G x40 p1 p5 p0 m
noncomputable def s_Pflat_parser_ask_0 (G : Gt) (p4 p1 p0 : Value) (m : Mem) : Option Rs :=
  bp (pur (lenK 1 p4 m) m) fun x41 m =>
  bp (pur (bin .sub true true .int x41 (.int .i64 1)) m) fun x42 m =>
  bp (pur (aIndexAddrSl 15 p4 x42) m) fun x43 m =>
  s_Pflat_parser_ask_1 G p1 x43 p0 m
noncomputable def s_Pflat_parser_ask (G : Gt) (p0 p1 : Value) (m : Mem) : Option Rs :=
  bp (pur (aNilCheck p0) m) fun x44 m =>
  bp (pur (aFieldAddr 0 x44) m) fun x45 m =>
  bp (pur (aFieldAddr 9 x45) m) fun x46 m =>
  bp (pur (aLoad false 1 x46 m) m) fun x47 m =>
  bp (pur (aNilCheck p0) m) fun x48 m =>
  bp (pur (aFieldAddr 17 x48) m) fun x49 m =>
  bp (pur (aLoad false 1 x49 m) m) fun x50 m =>
  bp (pur (aIndexAddrSl 3 x47 x50) m) fun x51 m =>
  bp (pur (aFieldAddr 1 x51) m) fun x52 m =>
  bp (pur (aLoad false 1 x52 m) m) fun x53 m =>
  s_Pflat_parser_ask_0 G x53 p1 p0 m
theorem e_Pflat_parser_ask (G : Gt) (a0 a1 : Value) (m : Mem) : evFn Go.Proofs.Tryz.prog G.tab G.rds (drOf Go.Proofs.Tryz.prog G.tab) Go.Proofs.Tryz.f93 [a0, a1] m = s_Pflat_parser_ask G a0 a1 m :=
  evFn_of (r := fun ρ m => s_Pflat_parser_ask G (ρ 0) (ρ 1) m) rfl rfl (tr (seqQ (f := fun ρ m => s_Pflat_parser_ask_0 G (ρ 4) (ρ 1) (ρ 0) m) (tr (seqQ (f := fun ρ m => s_Pflat_parser_ask_1 G (ρ 1) (ρ 5) (ρ 0) m) (tr (seqQ (f := fun ρ m => s_Pflat_parser_ask_2 G (ρ 6) (ρ 1) (ρ 5) (ρ 0) m) (tr (seqQ (f := fun ρ m => s_Pflat_parser_ask_3 G (ρ 27) (ρ 1) (ρ 5) (ρ 0) (ρ 6) m) (tr (blockQ (seqQ (f := fun ρ m => s_Pflat_parser_ask_4 G (ρ 30) (ρ 1) (ρ 5) (ρ 0) (ρ 6) (ρ 27) m) (tr (condQ (seqQ (f := fun ρ m => s_Pflat_parser_ask_5 G (ρ 7) (ρ 5) (ρ 1) (ρ 0) (ρ 6) m) (tr (seqQ (f := fun ρ m => s_Pflat_parser_ask_6 G (ρ 0) (ρ 6) (ρ 7) m) (fun ρ m => by kernel_rfl)) (fun ρ m => by kernel_rfl))) (refQ)) (fun ρ m => by kernel_rfl)))) (fun ρ m => by kernel_rfl))) (fun ρ m => by kernel_rfl))) (fun ρ m => by kernel_rfl))) (fun ρ m => by kernel_rfl))) (fun ρ m => by kernel_rfl)) m
noncomputable def E_Pflat_parser_ask : Entry Go.Proofs.Tryz.prog := ⟨F_Pflat_parser_ask, Go.Proofs.Tryz.f93, Go.Proofs.Tryz.func93, by kernel_rfl, arg2 (fun G a0 a1 m => s_Pflat_parser_ask G a0 a1 m), okarg2 e_Pflat_parser_ask⟩
/-! 94 waymark/flat.form -/
noncomputable def s_flat_form_1 (G : Gt) (p2 : Value) (m : Mem) : Option Rs :=
  some (p2, m)
noncomputable def s_flat_form_0 (G : Gt) (p0 : Value) (m : Mem) : Option Rs :=
  bp (pur (bin .neq true true .str p0 (.string ⟨#[]⟩)) m) fun x0 m =>
  brb x0
    (bp (G.tab F_strings_Trim [p0, (.string ⟨#[48, 49, 50, 51, 52, 53, 54, 55, 56, 57]⟩)] m) fun x1 m =>
  bp (pur (bin .eql true true .str x1 (.string ⟨#[]⟩)) m) fun x2 m =>
  brb x2
    (bp (pur (bin .eql true true .str p0 (.string ⟨#[48]⟩)) m) fun x3 m =>
  brb x3
    (s_flat_form_1 G (.bool true) m)
    (bp (pur (aIndexStr p0 (.int .i64 0)) m) fun x4 m =>
  bp (pur (bin .neq true true .int x4 (.int .u8 48)) m) fun x5 m =>
  s_flat_form_1 G x5 m))
    (s_flat_form_1 G (.bool false) m))
    (s_flat_form_1 G (.bool false) m)
noncomputable def s_flat_form (G : Gt) (p0 : Value) (m : Mem) : Option Rs :=
  s_flat_form_0 G p0 m
theorem e_flat_form (G : Gt) (a0 : Value) (m : Mem) : evFn Go.Proofs.Tryz.prog G.tab G.rds (drOf Go.Proofs.Tryz.prog G.tab) Go.Proofs.Tryz.f94 [a0] m = s_flat_form G a0 m :=
  evFn_of (r := fun ρ m => s_flat_form G (ρ 0) m) rfl rfl (tr (seqQ (f := fun ρ m => s_flat_form_0 G (ρ 0) m) (tr (seqQ (f := fun ρ m => s_flat_form_1 G (ρ 2) m) (fun ρ m => by kernel_rfl)) (fun ρ m => by kernel_rfl))) (fun ρ m => by kernel_rfl)) m
noncomputable def E_flat_form : Entry Go.Proofs.Tryz.prog := ⟨F_flat_form, Go.Proofs.Tryz.f94, Go.Proofs.Tryz.func94, by kernel_rfl, arg1 (fun G a0 m => s_flat_form G a0 m), okarg1 e_flat_form⟩
/-! 95 waymark/lex.Number -/
noncomputable def s_lex_Number_2 (G : Gt) (p29 p6 : Value) (m : Mem) : Option Rs :=
  brb p29
    (some (.tuple ⟨[(.int .i64 0), (.bool false)]⟩, m))
    (some (.tuple ⟨[p6, (.bool true)]⟩, m))
noncomputable def s_lex_Number_1 (G : Gt) (p7 p6 p1 p0 : Value) (m : Mem) : Option Rs :=
  bp (pur (bin .neq true false .iface p7 .nilIface) m) fun x0 m =>
  brb x0
    (s_lex_Number_2 G (.bool true) p6 m)
    (bp (pur (bin .lss true true .int p6 (.int .i64 0)) m) fun x1 m =>
  brb x1
    (s_lex_Number_2 G (.bool true) p6 m)
    (bp (pur (bin .gtr false true .int p6 p1) m) fun x2 m =>
  brb x2
    (s_lex_Number_2 G (.bool true) p6 m)
    (bp (G.tab F_strconv_Itoa [p6] m) fun x3 m =>
  bp (pur (bin .neq false true .str x3 p0) m) fun x4 m =>
  s_lex_Number_2 G x4 p6 m)))
noncomputable def s_lex_Number_0 (G : Gt) (p0 p1 : Value) (m : Mem) : Option Rs :=
  bp (G.tab F_strconv_Atoi [p0] m) fun x5 m =>
  bp (pur (aExtract x5 0) m) fun x6 m =>
  bp (pur (aExtract x5 1) m) fun x7 m =>
  s_lex_Number_1 G x7 x6 p1 p0 m
noncomputable def s_lex_Number (G : Gt) (p0 p1 : Value) (m : Mem) : Option Rs :=
  s_lex_Number_0 G p0 p1 m
theorem e_lex_Number (G : Gt) (a0 a1 : Value) (m : Mem) : evFn Go.Proofs.Tryz.prog G.tab G.rds (drOf Go.Proofs.Tryz.prog G.tab) Go.Proofs.Tryz.f95 [a0, a1] m = s_lex_Number G a0 a1 m :=
  evFn_of (r := fun ρ m => s_lex_Number G (ρ 0) (ρ 1) m) rfl rfl (tr (seqQ (f := fun ρ m => s_lex_Number_0 G (ρ 0) (ρ 1) m) (tr (seqQ (f := fun ρ m => s_lex_Number_1 G (ρ 7) (ρ 6) (ρ 1) (ρ 0) m) (tr (tr seqD (seqQ (f := fun ρ m => s_lex_Number_2 G (ρ 29) (ρ 6) m) (fun ρ m => by kernel_rfl))) (fun ρ m => by kernel_rfl))) (fun ρ m => by kernel_rfl))) (fun ρ m => by kernel_rfl)) m
noncomputable def E_lex_Number : Entry Go.Proofs.Tryz.prog := ⟨F_lex_Number, Go.Proofs.Tryz.f95, Go.Proofs.Tryz.func95, by kernel_rfl, arg2 (fun G a0 a1 m => s_lex_Number G a0 a1 m), okarg2 e_lex_Number⟩
/-! 96 (*waymark/flat.parser).ospf -/
noncomputable def s_Pflat_parser_ospf (G : Gt) (p0 p1 : Value) (m : Mem) : Option Rs :=
  bp (pur (aNilCheck p0) m) fun x0 m =>
  bp (pur (aFieldAddr 0 x0) m) fun x1 m =>
  bp (pur (aFieldAddr 10 x1) m) fun x2 m =>
  bp (pur (aLoad false 1 x2 m) m) fun x3 m =>
  bp (pur (aNilCheck p0) m) fun x4 m =>
  bp (pur (aFieldAddr 0 x4) m) fun x5 m =>
  bp (pur (aFieldAddr 10 x5) m) fun x6 m =>
  bp (pur (aLoad false 1 x6 m) m) fun x7 m =>
  bp (pur (lenK 1 x7 m) m) fun x8 m =>
  bp (pur (bin .sub true true .int x8 (.int .i64 1)) m) fun x9 m =>
  bp (pur (aIndexAddrSl 3 x3 x9) m) fun x10 m =>
  bp (G.tab F_Pflat_cursor_word [p1] m) fun x11 m =>
  bp (pur (bin .eql true true .str x11 (.string ⟨#[114, 111, 117, 116, 101, 114, 45, 105, 100]⟩)) m) fun x12 m =>
  brb x12
    (bp (G.tab F_Pflat_cursor_addr [p1] m) fun x13 m =>
  bp (pur (aNilCheck x10) m) fun x14 m =>
  bp (pur (aFieldAddr 1 x14) m) fun x15 m =>
  bp (unt (aStore 1 x15 x13 m)) fun _ m =>
  bp (aBuildSlice T_string [(.string ⟨#[]⟩)] 1 1 [(0, x11)] m) fun x16 m =>
  bp (G.tab F_Pflat_parser_inside [p0, x16] m) fun x17 m =>
  some (.tuple ⟨[]⟩, m))
    (bp (pur (bin .eql true true .str x11 (.string ⟨#[114, 101, 100, 105, 115, 116, 114, 105, 98, 117, 116, 101]⟩)) m) fun x18 m =>
  brb x18
    (bp (pur (aNilCheck x10) m) fun x19 m =>
  bp (pur (aFieldAddr 2 x19) m) fun x20 m =>
  bp (pur (aLoad false 1 x20 m) m) fun x21 m =>
  bp (G.tab F_Pflat_cursor_redist [p1, (.string ⟨#[98, 103, 112]⟩), (.int .u8 8), (.bool true)] m) fun x22 m =>
  ckB (again (pur (aLoad false 1 x20 m) m) x21 && true)
    (bp (aBuildSlice T_api_Redist z_api_Redist 4 1 [(0, x22)] m) fun x23 m =>
  bp (apS T_api_Redist 4 40 x21 x23 m) fun x24 m =>
  bp (pur (aNilCheck x10) m) fun x25 m =>
  bp (pur (aFieldAddr 2 x25) m) fun x26 m =>
  bp (unt (aStore 1 x26 x24 m)) fun _ m =>
  some (.tuple ⟨[]⟩, m)))
    (bp (G.tab F_Pflat_cursor_bad [p1, (.int .i64 130)] m) fun x27 m =>
  some (.tuple ⟨[]⟩, m)))
theorem e_Pflat_parser_ospf (G : Gt) (a0 a1 : Value) (m : Mem) : evFn Go.Proofs.Tryz.prog G.tab G.rds (drOf Go.Proofs.Tryz.prog G.tab) Go.Proofs.Tryz.f96 [a0, a1] m = s_Pflat_parser_ospf G a0 a1 m :=
  evFn_of (r := fun ρ m => s_Pflat_parser_ospf G (ρ 0) (ρ 1) m) rfl rfl (fun ρ m => by kernel_rfl) m
noncomputable def E_Pflat_parser_ospf : Entry Go.Proofs.Tryz.prog := ⟨F_Pflat_parser_ospf, Go.Proofs.Tryz.f96, Go.Proofs.Tryz.func96, by kernel_rfl, arg2 (fun G a0 a1 m => s_Pflat_parser_ospf G a0 a1 m), okarg2 e_Pflat_parser_ospf⟩
/-! 97 (*waymark/flat.parser).bgp -/
noncomputable def s_Pflat_parser_bgp (G : Gt) (p0 p1 : Value) (m : Mem) : Option Rs :=
  bp (pur (aNilCheck p0) m) fun x0 m =>
  bp (pur (aFieldAddr 0 x0) m) fun x1 m =>
  bp (pur (aFieldAddr 11 x1) m) fun x2 m =>
  bp (pur (aLoad false 1 x2 m) m) fun x3 m =>
  bp (pur (aNilCheck p0) m) fun x4 m =>
  bp (pur (aFieldAddr 0 x4) m) fun x5 m =>
  bp (pur (aFieldAddr 11 x5) m) fun x6 m =>
  bp (pur (aLoad false 1 x6 m) m) fun x7 m =>
  bp (pur (lenK 1 x7 m) m) fun x8 m =>
  bp (pur (bin .sub true true .int x8 (.int .i64 1)) m) fun x9 m =>
  bp (pur (aIndexAddrSl 6 x3 x9) m) fun x10 m =>
  bp (G.tab F_Pflat_cursor_word [p1] m) fun x11 m =>
  bp (pur (bin .eql true true .str x11 (.string ⟨#[114, 111, 117, 116, 101, 114, 45, 105, 100]⟩)) m) fun x12 m =>
  brb x12
    (bp (G.tab F_Pflat_cursor_addr [p1] m) fun x13 m =>
  bp (pur (aNilCheck x10) m) fun x14 m =>
  bp (pur (aFieldAddr 2 x14) m) fun x15 m =>
  bp (unt (aStore 1 x15 x13 m)) fun _ m =>
  bp (aBuildSlice T_string [(.string ⟨#[]⟩)] 1 1 [(0, x11)] m) fun x16 m =>
  bp (G.tab F_Pflat_parser_inside [p0, x16] m) fun x17 m =>
  some (.tuple ⟨[]⟩, m))
    (bp (pur (bin .eql true true .str x11 (.string ⟨#[110, 101, 116, 119, 111, 114, 107]⟩)) m) fun x18 m =>
  brb x18
    (bp (G.tab F_Pflat_cursor_addr [p1] m) fun x19 m =>
  bp (G.tab F_Pflat_cursor_mask [p1, (.bool false)] m) fun x20 m =>
  bp (G.tab F_Pflat_cursor_net [p1, x19, x20] m) fun x21 m =>
  bp (some (aNew T_api_Prefix z_api_Prefix m)) fun x22 m =>
  bp (unt (aStore 2 x22 x21 m)) fun _ m =>
  bp (pur (aLoad true 2 x22 m) m) fun x23 m =>
  bp (G.tab F_addr_PrefixText [x23] m) fun x24 m =>
  bp (aBuildSlice T_string [(.string ⟨#[]⟩)] 1 2 [(0, x11), (1, x24)] m) fun x25 m =>
  bp (G.tab F_Pflat_parser_inside [p0, x25] m) fun x26 m =>
  bp (pur (aNilCheck x10) m) fun x27 m =>
  bp (pur (aFieldAddr 3 x27) m) fun x28 m =>
  bp (pur (aLoad false 1 x28 m) m) fun x29 m =>
  bp (pur (aLoad true 2 x22 m) m) fun x30 m =>
  bp (aBuildSlice T_api_Prefix z_api_Prefix 2 1 [(0, x30)] m) fun x31 m =>
  bp (apS T_api_Prefix 2 16 x29 x31 m) fun x32 m =>
  bp (pur (aNilCheck x10) m) fun x33 m =>
  bp (pur (aFieldAddr 3 x33) m) fun x34 m =>
  bp (unt (aStore 1 x34 x32 m)) fun _ m =>
  some (.tuple ⟨[]⟩, m))
    (bp (pur (bin .eql true true .str x11 (.string ⟨#[110, 101, 105, 103, 104, 98, 111, 114]⟩)) m) fun x35 m =>
  brb x35
    (bp (G.tab F_Pflat_parser_neighbor [p0, p1, x10] m) fun x36 m =>
  some (.tuple ⟨[]⟩, m))
    (bp (pur (bin .eql true true .str x11 (.string ⟨#[114, 101, 100, 105, 115, 116, 114, 105, 98, 117, 116, 101]⟩)) m) fun x37 m =>
  brb x37
    (bp (pur (aNilCheck x10) m) fun x38 m =>
  bp (pur (aFieldAddr 5 x38) m) fun x39 m =>
  bp (pur (aLoad false 1 x39 m) m) fun x40 m =>
  bp (G.tab F_Pflat_cursor_redist [p1, (.string ⟨#[111, 115, 112, 102]⟩), (.int .u8 4), (.bool false)] m) fun x41 m =>
  ckB (again (pur (aLoad false 1 x39 m) m) x40 && true)
    (bp (aBuildSlice T_api_Redist z_api_Redist 4 1 [(0, x41)] m) fun x42 m =>
  bp (apS T_api_Redist 4 40 x40 x42 m) fun x43 m =>
  bp (pur (aNilCheck x10) m) fun x44 m =>
  bp (pur (aFieldAddr 5 x44) m) fun x45 m =>
  bp (unt (aStore 1 x45 x43 m)) fun _ m =>
  some (.tuple ⟨[]⟩, m)))
    (bp (G.tab F_Pflat_cursor_bad [p1, (.int .i64 130)] m) fun x46 m =>
  some (.tuple ⟨[]⟩, m)))))
theorem e_Pflat_parser_bgp (G : Gt) (a0 a1 : Value) (m : Mem) : evFn Go.Proofs.Tryz.prog G.tab G.rds (drOf Go.Proofs.Tryz.prog G.tab) Go.Proofs.Tryz.f97 [a0, a1] m = s_Pflat_parser_bgp G a0 a1 m :=
  evFn_of (r := fun ρ m => s_Pflat_parser_bgp G (ρ 0) (ρ 1) m) rfl rfl (fun ρ m => by kernel_rfl) m
noncomputable def E_Pflat_parser_bgp : Entry Go.Proofs.Tryz.prog := ⟨F_Pflat_parser_bgp, Go.Proofs.Tryz.f97, Go.Proofs.Tryz.func97, by kernel_rfl, arg2 (fun G a0 a1 m => s_Pflat_parser_bgp G a0 a1 m), okarg2 e_Pflat_parser_bgp⟩
/-! 98 (*waymark/flat.cursor).last -/
noncomputable def s_Pflat_cursor_last (G : Gt) (p0 : Value) (m : Mem) : Option Rs :=
  bp (some (aNew T_api_Pos z_api_Pos m)) fun x0 m =>
  bp (pur (aNilCheck p0) m) fun x1 m =>
  bp (pur (aFieldAddr 0 x1) m) fun x2 m =>
  bp (pur (aLoad false 1 x2 m) m) fun x3 m =>
  bp (pur (aNilCheck p0) m) fun x4 m =>
  bp (pur (aFieldAddr 1 x4) m) fun x5 m =>
  bp (pur (aLoad false 1 x5 m) m) fun x6 m =>
  bp (pur (aMax x6 (.int .i64 1)) m) fun x7 m =>
  bp (pur (bin .sub true true .int x7 (.int .i64 1)) m) fun x8 m =>
  bp (pur (aIndexAddrSl 3 x3 x8) m) fun x9 m =>
  bp (pur (aFieldAddr 1 x9) m) fun x10 m =>
  bp (pur (aLoad true 2 x10 m) m) fun x11 m =>
  bp (unt (aStore 2 x0 x11 m)) fun _ m =>
  ob (ob (aLoad true 2 x0 m) fun v => ob (some []) fun l => some (v :: l)) fun l => some (resVal l, m)
theorem e_Pflat_cursor_last (G : Gt) (a0 : Value) (m : Mem) : evFn Go.Proofs.Tryz.prog G.tab G.rds (drOf Go.Proofs.Tryz.prog G.tab) Go.Proofs.Tryz.f98 [a0] m = s_Pflat_cursor_last G a0 m :=
  evFn_of (r := fun ρ m => s_Pflat_cursor_last G (ρ 0) m) rfl rfl (fun ρ m => by kernel_rfl) m
noncomputable def E_Pflat_cursor_last : Entry Go.Proofs.Tryz.prog := ⟨F_Pflat_cursor_last, Go.Proofs.Tryz.f98, Go.Proofs.Tryz.func98, by kernel_rfl, arg1 (fun G a0 m => s_Pflat_cursor_last G a0 m), okarg1 e_Pflat_cursor_last⟩
/-! 99 slices.insertionSortCmpFunc[waymark/api.Clause] -/
noncomputable def s_slices_insertionSortCmpFuncLapi_ClauseJ_3 (G : Gt) (k0 : Value → Value → Value → Value → Value → Mem → Option Rs) (p8 p2 p1 p3 p0 : Value) (m : Mem) : Option Rs :=
  bp (pur (bin .add true true .int p8 (.int .i64 1)) m) fun x0 m =>
  k0 x0 p2 p1 p3 p0 m
noncomputable def s_slices_insertionSortCmpFuncLapi_ClauseJ_6 (G : Gt) (k1 : Value → Value → Value → Value → Value → Value → Mem → Option Rs) (k0 : Value → Value → Value → Value → Value → Mem → Option Rs) (p34 p0 p9 p1 p3 p8 p2 : Value) (m : Mem) : Option Rs :=
  brb p34
    (bp (pur (bin .sub true true .int p9 (.int .i64 1)) m) fun x1 m =>
  bp (pur (bin .sub true true .int p9 (.int .i64 1)) m) fun x2 m =>
  bp (pur (aIndexAddrSl 15 p0 x2) m) fun x3 m =>
  bp (pur (aLoad true 15 x3 m) m) fun x4 m =>
  bp (pur (aIndexAddrSl 15 p0 p9) m) fun x5 m =>
  bp (pur (aLoad true 15 x5 m) m) fun x6 m =>
  bp (pur (aIndexAddrSl 15 p0 p9) m) fun x7 m =>
  bp (unt (aStore 15 x7 x4 m)) fun _ m =>
  bp (pur (aIndexAddrSl 15 p0 x1) m) fun x8 m =>
  bp (unt (aStore 15 x8 x6 m)) fun _ m =>
  bp (pur (bin .sub true true .int p9 (.int .i64 1)) m) fun x9 m =>
  k1 x9 p1 p3 p0 p8 p2 m)
    (s_slices_insertionSortCmpFuncLapi_ClauseJ_3 G k0 p8 p2 p1 p3 p0 m)
noncomputable def s_slices_insertionSortCmpFuncLapi_ClauseJ_5 (G : Gt) (k0 : Value → Value → Value → Value → Value → Mem → Option Rs) : Nat → Value → Value → Value → Value → Value → Value → Mem → Option Rs
  | 0, _, _, _, _, _, _, _ => none
  | i + 1, p9, p1, p3, p0, p8, p2, m =>
  bp (pur (bin .gtr false true .int p9 p1) m) fun x10 m =>
  brt x10
    (bp (pur (aIndexAddrSl 15 p0 p9) m) fun x11 m =>
  bp (pur (aLoad true 15 x11 m) m) fun x12 m =>
  bp (pur (bin .sub true true .int p9 (.int .i64 1)) m) fun x13 m =>
  bp (pur (aIndexAddrSl 15 p0 x13) m) fun x14 m =>
  bp (pur (aLoad true 15 x14 m) m) fun x15 m =>
  bp (evCall G.tab p3 [x12, x15] m) fun x16 m =>
  bp (pur (bin .lss true true .int x16 (.int .i64 0)) m) fun x17 m =>
  s_slices_insertionSortCmpFuncLapi_ClauseJ_6 G (s_slices_insertionSortCmpFuncLapi_ClauseJ_5 G k0 i) k0 x17 p0 p9 p1 p3 p8 p2 m)
    (s_slices_insertionSortCmpFuncLapi_ClauseJ_6 G (s_slices_insertionSortCmpFuncLapi_ClauseJ_5 G k0 i) k0 (.bool false) p0 p9 p1 p3 p8 p2 m)
    (none)
noncomputable def s_slices_insertionSortCmpFuncLapi_ClauseJ_4 (G : Gt) (k0 : Value → Value → Value → Value → Value → Mem → Option Rs) (p9 p1 p3 p0 p8 p2 : Value) (m : Mem) : Option Rs :=
  s_slices_insertionSortCmpFuncLapi_ClauseJ_5 G k0 G.rds p9 p1 p3 p0 p8 p2 m
noncomputable def s_slices_insertionSortCmpFuncLapi_ClauseJ_2 (G : Gt) (k0 : Value → Value → Value → Value → Value → Mem → Option Rs) (p8 p1 p3 p0 p2 : Value) (m : Mem) : Option Rs :=
  s_slices_insertionSortCmpFuncLapi_ClauseJ_4 G k0 p8 p1 p3 p0 p8 p2 m
noncomputable def s_slices_insertionSortCmpFuncLapi_ClauseJ_1 (G : Gt) : Nat → Value → Value → Value → Value → Value → Mem → Option Rs
  | 0, _, _, _, _, _, _ => none
  | i + 1, p8, p2, p1, p3, p0, m =>
  bp (pur (bin .lss false true .int p8 p2) m) fun x18 m =>
  brb x18
    (s_slices_insertionSortCmpFuncLapi_ClauseJ_2 G (s_slices_insertionSortCmpFuncLapi_ClauseJ_1 G i) p8 p1 p3 p0 p2 m)
    (some (.tuple ⟨[]⟩, m))
noncomputable def s_slices_insertionSortCmpFuncLapi_ClauseJ_0 (G : Gt) (p8 p2 p1 p3 p0 : Value) (m : Mem) : Option Rs :=
  s_slices_insertionSortCmpFuncLapi_ClauseJ_1 G G.rds p8 p2 p1 p3 p0 m
noncomputable def s_slices_insertionSortCmpFuncLapi_ClauseJ (G : Gt) (p1 p2 p3 p0 : Value) (m : Mem) : Option Rs :=
  bp (pur (bin .add true true .int p1 (.int .i64 1)) m) fun x19 m =>
  s_slices_insertionSortCmpFuncLapi_ClauseJ_0 G x19 p2 p1 p3 p0 m
theorem e_slices_insertionSortCmpFuncLapi_ClauseJ (G : Gt) (a0 a1 a2 a3 : Value) (m : Mem) : evFn Go.Proofs.Tryz.prog G.tab G.rds (drOf Go.Proofs.Tryz.prog G.tab) Go.Proofs.Tryz.f99 [a0, a1, a2, a3] m = s_slices_insertionSortCmpFuncLapi_ClauseJ G a1 a2 a3 a0 m :=
  evFn_of (r := fun ρ m => s_slices_insertionSortCmpFuncLapi_ClauseJ G (ρ 1) (ρ 2) (ρ 3) (ρ 0) m) rfl rfl (tr (seqQ (f := fun ρ m => s_slices_insertionSortCmpFuncLapi_ClauseJ_0 G (ρ 8) (ρ 2) (ρ 1) (ρ 3) (ρ 0) m) (tr (blockQ (loopQ (fun i ρ m => s_slices_insertionSortCmpFuncLapi_ClauseJ_1 G i (ρ 8) (ρ 2) (ρ 1) (ρ 3) (ρ 0) m) (fun _ _ => rfl) (fun i0 => tr (seqQ (f := fun ρ m => s_slices_insertionSortCmpFuncLapi_ClauseJ_2 G (s_slices_insertionSortCmpFuncLapi_ClauseJ_1 G i0) (ρ 8) (ρ 1) (ρ 3) (ρ 0) (ρ 2) m) (tr (tr (seqQ (f := fun ρ m => s_slices_insertionSortCmpFuncLapi_ClauseJ_3 G (s_slices_insertionSortCmpFuncLapi_ClauseJ_1 G i0) (ρ 8) (ρ 2) (ρ 1) (ρ 3) (ρ 0) m) (fun ρ m => by kernel_rfl)) (blockQ (seqQ (f := fun ρ m => s_slices_insertionSortCmpFuncLapi_ClauseJ_4 G (s_slices_insertionSortCmpFuncLapi_ClauseJ_1 G i0) (ρ 9) (ρ 1) (ρ 3) (ρ 0) (ρ 8) (ρ 2) m) (tr (blockQ (loopQ (fun i ρ m => s_slices_insertionSortCmpFuncLapi_ClauseJ_5 G (s_slices_insertionSortCmpFuncLapi_ClauseJ_1 G i0) i (ρ 9) (ρ 1) (ρ 3) (ρ 0) (ρ 8) (ρ 2) m) (fun _ _ => rfl) (fun i1 => tr (tr seqD (seqQ (f := fun ρ m => s_slices_insertionSortCmpFuncLapi_ClauseJ_6 G (s_slices_insertionSortCmpFuncLapi_ClauseJ_5 G (s_slices_insertionSortCmpFuncLapi_ClauseJ_1 G i0) i1) (s_slices_insertionSortCmpFuncLapi_ClauseJ_1 G i0) (ρ 34) (ρ 0) (ρ 9) (ρ 1) (ρ 3) (ρ 8) (ρ 2) m) (fun ρ m => by kernel_rfl))) (fun ρ m => by kernel_rfl)))) (fun ρ m => by kernel_rfl))))) (fun ρ m => by kernel_rfl))) (fun ρ m => by kernel_rfl)))) (fun ρ m => by kernel_rfl))) (fun ρ m => by kernel_rfl)) m
noncomputable def E_slices_insertionSortCmpFuncLapi_ClauseJ : Entry Go.Proofs.Tryz.prog := ⟨F_slices_insertionSortCmpFuncLapi_ClauseJ, Go.Proofs.Tryz.f99, Go.Proofs.Tryz.func99, by kernel_rfl, arg4 (fun G a0 a1 a2 a3 m => s_slices_insertionSortCmpFuncLapi_ClauseJ G a1 a2 a3 a0 m), okarg4 e_slices_insertionSortCmpFuncLapi_ClauseJ⟩
/-! 107 math/bits.Len32 -/
noncomputable def s_math_bits_Len32_2 (G : Gt) (p2 p0 : Value) (m : Mem) : Option Rs :=
  bp (conv (.int .u8) p0 m) fun x0 m =>
  bp (pur (aIndexStr (.string ⟨#[0, 1, 2, 2, 3, 3, 3, 3, 4, 4, 4, 4, 4, 4, 4, 4, 5, 5, 5, 5, 5, 5, 5, 5, 5, 5, 5, 5, 5, 5, 5, 5, 6, 6, 6, 6, 6, 6, 6, 6, 6, 6, 6, 6, 6, 6, 6, 6, 6, 6, 6, 6, 6, 6, 6, 6, 6, 6, 6, 6, 6, 6, 6, 6, 7, 7, 7, 7, 7, 7, 7, 7, 7, 7, 7, 7, 7, 7, 7, 7, 7, 7, 7, 7, 7, 7, 7, 7, 7, 7, 7, 7, 7, 7, 7, 7, 7, 7, 7, 7, 7, 7, 7, 7, 7, 7, 7, 7, 7, 7, 7, 7, 7, 7, 7, 7, 7, 7, 7, 7, 7, 7, 7, 7, 7, 7, 7, 7, 8, 8, 8, 8, 8, 8, 8, 8, 8, 8, 8, 8, 8, 8, 8, 8, 8, 8, 8, 8, 8, 8, 8, 8, 8, 8, 8, 8, 8, 8, 8, 8, 8, 8, 8, 8, 8, 8, 8, 8, 8, 8, 8, 8, 8, 8, 8, 8, 8, 8, 8, 8, 8, 8, 8, 8, 8, 8, 8, 8, 8, 8, 8, 8, 8, 8, 8, 8, 8, 8, 8, 8, 8, 8, 8, 8, 8, 8, 8, 8, 8, 8, 8, 8, 8, 8, 8, 8, 8, 8, 8, 8, 8, 8, 8, 8, 8, 8, 8, 8, 8, 8, 8, 8, 8, 8, 8, 8, 8, 8, 8, 8, 8, 8, 8, 8, 8, 8, 8, 8, 8, 8, 8, 8, 8, 8, 8, 8]⟩) x0) m) fun x1 m =>
  bp (conv (.int .i64) x1 m) fun x2 m =>
  bp (pur (bin .add false true .int p2 x2) m) fun x3 m =>
  some (x3, m)
noncomputable def s_math_bits_Len32_1 (G : Gt) (p0 p2 : Value) (m : Mem) : Option Rs :=
  bp (pur (bin .geq true true .int p0 (.int .u32 256)) m) fun x4 m =>
  brb x4
    (bp (pur (bin .shr true true .int p0 (.int .u64 8)) m) fun x5 m =>
  bp (pur (bin .add true true .int p2 (.int .i64 8)) m) fun x6 m =>
  s_math_bits_Len32_2 G x6 x5 m)
    (s_math_bits_Len32_2 G p2 p0 m)
noncomputable def s_math_bits_Len32_0 (G : Gt) (p0 p2 : Value) (m : Mem) : Option Rs :=
  bp (pur (bin .geq true true .int p0 (.int .u32 65536)) m) fun x7 m =>
  brb x7
    (bp (pur (bin .shr true true .int p0 (.int .u64 16)) m) fun x8 m =>
  s_math_bits_Len32_1 G x8 (.int .i64 16) m)
    (s_math_bits_Len32_1 G p0 p2 m)
noncomputable def s_math_bits_Len32 (G : Gt) (p0 : Value) (m : Mem) : Option Rs :=
  s_math_bits_Len32_0 G p0 (.int .i64 0) m
theorem e_math_bits_Len32 (G : Gt) (a0 : Value) (m : Mem) : evFn Go.Proofs.Tryz.prog G.tab G.rds (drOf Go.Proofs.Tryz.prog G.tab) Go.Proofs.Tryz.f107 [a0] m = s_math_bits_Len32 G a0 m :=
  evFn_of (r := fun ρ m => s_math_bits_Len32 G (ρ 0) m) rfl rfl (tr (seqQ (f := fun ρ m => s_math_bits_Len32_0 G (ρ 0) (ρ 2) m) (tr (seqQ (f := fun ρ m => s_math_bits_Len32_1 G (ρ 0) (ρ 2) m) (tr (seqQ (f := fun ρ m => s_math_bits_Len32_2 G (ρ 2) (ρ 0) m) (fun ρ m => by kernel_rfl)) (fun ρ m => by kernel_rfl))) (fun ρ m => by kernel_rfl))) (fun ρ m => by kernel_rfl)) m
noncomputable def E_math_bits_Len32 : Entry Go.Proofs.Tryz.prog := ⟨F_math_bits_Len32, Go.Proofs.Tryz.f107, Go.Proofs.Tryz.func107, by kernel_rfl, arg1 (fun G a0 m => s_math_bits_Len32 G a0 m), okarg1 e_math_bits_Len32⟩
end Go.Ab.Sh
