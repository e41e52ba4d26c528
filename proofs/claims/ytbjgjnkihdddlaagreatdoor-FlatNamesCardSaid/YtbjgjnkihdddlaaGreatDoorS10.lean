/-
  Functions of the program as plain definitions, each with the theorem that it is what the evaluator makes of the code. No conditions.
-/
import Derived.Test.YtbjgjnkihdddlaaGreatDoorAb4
import Derived.Test.YtbjgjnkihdddlaaGreatDoorZ
import Derived.KernelRfl
import Derived.Test.YtbjgjnkihdddlaaGreatDoorProg
set_option linter.unusedVariables false
set_option maxRecDepth 100000
namespace Go.Ab.Sh
open Go Go.Ab
/-! 136 (*waymark/flat.parser).neighbor -/
noncomputable def s_Pflat_parser_neighbor_7 (G : Gt) (p0 p10 : Value) (m : Mem) : Option Rs :=
  bp (G.tab F_Pflat_parser_inside [p0, p10] m) fun x0 m =>
  some (.tuple ⟨[]⟩, m)
noncomputable def s_Pflat_parser_neighbor_9 (G : Gt) (p86 p2 p7 p9 p0 p10 : Value) (m : Mem) : Option Rs :=
  brb p86
    (bp (pur (aNilCheck p2) m) fun x9 m =>
  bp (pur (aFieldAddr 4 x9) m) fun x10 m =>
  bp (pur (aLoad false 1 x10 m) m) fun x11 m =>
  bp (pur (aLoad true 6 p9 m) m) fun x12 m =>
  bp (pur (aIndexAddrSl 6 x11 p7) m) fun x13 m =>
  bp (unt (aStore 6 x13 x12 m)) fun _ m =>
  s_Pflat_parser_neighbor_7 G p0 p10 m)
    (bp (pur (bin .lss true true .int p7 (.int .i64 0)) m) fun x14 m =>
  brb x14
    (bp (pur (aNilCheck p0) m) fun x15 m =>
  bp (pur (aFieldAddr 16 x15) m) fun x16 m =>
  bp (unt (aStore 1 x16 (.bool true) m)) fun _ m =>
  some (.tuple ⟨[]⟩, m))
    (s_Pflat_parser_neighbor_7 G p0 p10 m))
noncomputable def s_Pflat_parser_neighbor_8 (G : Gt) (p69 p2 p9 p0 p10 p7 p8 : Value) (m : Mem) : Option Rs :=
  brb p69
    (bp (pur (aNilCheck p2) m) fun x1 m =>
  bp (pur (aFieldAddr 4 x1) m) fun x2 m =>
  bp (pur (aLoad false 1 x2 m) m) fun x3 m =>
  bp (pur (aLoad true 6 p9 m) m) fun x4 m =>
  bp (aBuildSlice T_api_Peer z_api_Peer 6 1 [(0, x4)] m) fun x5 m =>
  bp (apS T_api_Peer 6 48 x3 x5 m) fun x6 m =>
  bp (pur (aNilCheck p2) m) fun x7 m =>
  bp (pur (aFieldAddr 4 x7) m) fun x8 m =>
  bp (unt (aStore 1 x8 x6 m)) fun _ m =>
  s_Pflat_parser_neighbor_7 G p0 p10 m)
    (bp (pur (bin .geq true true .int p7 (.int .i64 0)) m) fun x17 m =>
  brb x17
    (bp (pur (bin .neq true true .int p8 (.int .i64 0)) m) fun x18 m =>
  s_Pflat_parser_neighbor_9 G x18 p2 p7 p9 p0 p10 m)
    (s_Pflat_parser_neighbor_9 G (.bool false) p2 p7 p9 p0 p10 m))
noncomputable def s_Pflat_parser_neighbor_6 (G : Gt) (p8 p7 p2 p9 p0 p10 : Value) (m : Mem) : Option Rs :=
  bp (pur (bin .eql true true .int p8 (.int .i64 0)) m) fun x19 m =>
  brb x19
    (bp (pur (bin .lss true true .int p7 (.int .i64 0)) m) fun x20 m =>
  s_Pflat_parser_neighbor_8 G x20 p2 p9 p0 p10 p7 p8 m)
    (s_Pflat_parser_neighbor_8 G (.bool false) p2 p9 p0 p10 p7 p8 m)
noncomputable def s_Pflat_parser_neighbor_5 (G : Gt) (p8 p6 p1 p9 p7 p2 p0 p10 : Value) (m : Mem) : Option Rs :=
  bp (pur (bin .eql true true .int p8 (.int .i64 0)) m) fun x21 m =>
  brb x21
    (bp (pur (aLoad false 1 p6 m) m) fun x22 m =>
  bp (G.tab F_Pflat_cursor_number [p1, (.int .i64 1), (.int .i64 4294967295)] m) fun x23 m =>
  ckB (again (pur (aLoad false 1 p6 m) m) x22 && true)
    (bp (conv (.int .u32) x23 m) fun x24 m =>
  bp (pur (aBuild z_api_Peer [(0, 1), (1, 1), (2, 1), (3, 1), (4, 1), (5, 1)] [(0, x22), (1, x24)]) m) fun x25 m =>
  bp (unt (aStore 6 p9 x25 m)) fun _ m =>
  s_Pflat_parser_neighbor_6 G p8 p7 p2 p9 p0 p10 m))
    (bp (pur (bin .eql true true .int p8 (.int .i64 1)) m) fun x26 m =>
  brb x26
    (bp (G.tab F_Pflat_cursor_name [p1] m) fun x27 m =>
  bp (aBuildSlice T_string [(.string ⟨#[]⟩)] 1 2 [(0, (.string ⟨#[105, 110]⟩)), (1, (.string ⟨#[111, 117, 116]⟩))] m) fun x28 m =>
  bp (G.tab F_Pflat_cursor_one [p1, x28] m) fun x29 m =>
  bp (pur (bin .eql true true .int x29 (.int .i64 0)) m) fun x30 m =>
  brb x30
    (bp (aBuildSlice T_string [(.string ⟨#[]⟩)] 1 1 [(0, (.string ⟨#[105, 110]⟩))] m) fun x31 m =>
  bp (apS T_string 1 16 p10 x31 m) fun x32 m =>
  bp (pur (aFieldAddr 2 p9) m) fun x33 m =>
  bp (unt (aStore 1 x33 x27 m)) fun _ m =>
  s_Pflat_parser_neighbor_6 G p8 p7 p2 p9 p0 x32 m)
    (bp (aBuildSlice T_string [(.string ⟨#[]⟩)] 1 1 [(0, (.string ⟨#[111, 117, 116]⟩))] m) fun x34 m =>
  bp (apS T_string 1 16 p10 x34 m) fun x35 m =>
  bp (pur (aFieldAddr 3 p9) m) fun x36 m =>
  bp (unt (aStore 1 x36 x27 m)) fun _ m =>
  s_Pflat_parser_neighbor_6 G p8 p7 p2 p9 p0 x35 m))
    (bp (pur (bin .eql true true .int p8 (.int .i64 2)) m) fun x37 m =>
  brb x37
    (bp (pur (aFieldAddr 4 p9) m) fun x38 m =>
  bp (unt (aStore 1 x38 (.bool true) m)) fun _ m =>
  s_Pflat_parser_neighbor_6 G p8 p7 p2 p9 p0 p10 m)
    (bp (pur (aFieldAddr 5 p9) m) fun x39 m =>
  bp (unt (aStore 1 x39 (.bool true) m)) fun _ m =>
  s_Pflat_parser_neighbor_6 G p8 p7 p2 p9 p0 p10 m)))
noncomputable def s_Pflat_parser_neighbor_4 (G : Gt) (p6 p8 p1 p9 p7 p2 p0 : Value) (m : Mem) : Option Rs :=
  bp (pur (aLoad false 1 p6 m) m) fun x40 m =>
  bp (aBuildSlice T_string [(.string ⟨#[]⟩)] 1 4 [(0, (.string ⟨#[97, 115]⟩)), (1, (.string ⟨#[114, 111, 117, 116, 101, 45, 109, 97, 112]⟩)), (2, (.string ⟨#[99, 108, 105, 101, 110, 116]⟩)), (3, (.string ⟨#[110, 101, 120, 116, 45, 104, 111, 112, 45, 115, 101, 108, 102]⟩))] m) fun x41 m =>
  bp (pur (aIndexAddrSl 1 x41 p8) m) fun x42 m =>
  bp (pur (aLoad false 1 x42 m) m) fun x43 m =>
  bp (G.tab F_addr_Text [x40] m) fun x44 m =>
  ckB (again (pur (aLoad false 1 x42 m) m) x43 && true)
    (bp (aBuildSlice T_string [(.string ⟨#[]⟩)] 1 3 [(0, (.string ⟨#[110, 101, 105, 103, 104, 98, 111, 114]⟩)), (1, x44), (2, x43)] m) fun x45 m =>
  s_Pflat_parser_neighbor_5 G p8 p6 p1 p9 p7 p2 p0 x45 m)
noncomputable def s_Pflat_parser_neighbor_3 (G : Gt) (p7 p2 p9 p6 p8 p1 p0 : Value) (m : Mem) : Option Rs :=
  bp (pur (bin .geq true true .int p7 (.int .i64 0)) m) fun x46 m =>
  brb x46
    (bp (pur (aNilCheck p2) m) fun x47 m =>
  bp (pur (aFieldAddr 4 x47) m) fun x48 m =>
  bp (pur (aLoad false 1 x48 m) m) fun x49 m =>
  bp (pur (aIndexAddrSl 6 x49 p7) m) fun x50 m =>
  bp (pur (aLoad true 6 x50 m) m) fun x51 m =>
  bp (unt (aStore 6 p9 x51 m)) fun _ m =>
  s_Pflat_parser_neighbor_4 G p6 p8 p1 p9 p7 p2 p0 m)
    (s_Pflat_parser_neighbor_4 G p6 p8 p1 p9 p7 p2 p0 m)
noncomputable def s_Pflat_parser_neighbor_2 (G : Gt) (p7 p2 p6 p8 p1 p0 : Value) (m : Mem) : Option Rs :=
  bp (some (aNew T_api_Peer z_api_Peer m)) fun x52 m =>
  s_Pflat_parser_neighbor_3 G p7 p2 x52 p6 p8 p1 p0 m
noncomputable def s_Pflat_parser_neighbor_1 (G : Gt) (p1 p7 p2 p6 p0 : Value) (m : Mem) : Option Rs :=
  bp (aBuildSlice T_string [(.string ⟨#[]⟩)] 1 4 [(0, (.string ⟨#[97, 115]⟩)), (1, (.string ⟨#[114, 111, 117, 116, 101, 45, 109, 97, 112]⟩)), (2, (.string ⟨#[99, 108, 105, 101, 110, 116]⟩)), (3, (.string ⟨#[110, 101, 120, 116, 45, 104, 111, 112, 45, 115, 101, 108, 102]⟩))] m) fun x53 m =>
  bp (G.tab F_Pflat_cursor_one [p1, x53] m) fun x54 m =>
  s_Pflat_parser_neighbor_2 G p7 p2 p6 x54 p1 p0 m
noncomputable def s_Pflat_parser_neighbor_0 (G : Gt) (p2 p6 p1 p0 : Value) (m : Mem) : Option Rs :=
  bp (pur (aNilCheck p2) m) fun x55 m =>
  bp (pur (aFieldAddr 4 x55) m) fun x56 m =>
  bp (pur (aLoad false 1 x56 m) m) fun x57 m =>
  bp (G.tab F_slices_IndexFuncLLJapi_PeerCapi_PeerJ [x57, (.func (.func F_Pflat_parser_neighborS1) ⟨[]⟩ ⟨[p6]⟩)] m) fun x58 m =>
  s_Pflat_parser_neighbor_1 G p1 x58 p2 p6 p0 m
noncomputable def s_Pflat_parser_neighbor (G : Gt) (p1 p2 p0 : Value) (m : Mem) : Option Rs :=
  bp (G.tab F_Pflat_cursor_addr [p1] m) fun x59 m =>
  bp (some (aNew T_api_Addr [(.int .u32 0)] m)) fun x60 m =>
  bp (unt (aStore 1 x60 x59 m)) fun _ m =>
  s_Pflat_parser_neighbor_0 G p2 x60 p1 p0 m
theorem e_Pflat_parser_neighbor (G : Gt) (a0 a1 a2 : Value) (m : Mem) : evFn Go.Proofs.Tryz.prog G.tab G.rds (drOf Go.Proofs.Tryz.prog G.tab) Go.Proofs.Tryz.f136 [a0, a1, a2] m = s_Pflat_parser_neighbor G a1 a2 a0 m :=
  evFn_of (r := fun ρ m => s_Pflat_parser_neighbor G (ρ 1) (ρ 2) (ρ 0) m) rfl rfl (tr (seqQ (f := fun ρ m => s_Pflat_parser_neighbor_0 G (ρ 2) (ρ 6) (ρ 1) (ρ 0) m) (tr (seqQ (f := fun ρ m => s_Pflat_parser_neighbor_1 G (ρ 1) (ρ 7) (ρ 2) (ρ 6) (ρ 0) m) (tr (seqQ (f := fun ρ m => s_Pflat_parser_neighbor_2 G (ρ 7) (ρ 2) (ρ 6) (ρ 8) (ρ 1) (ρ 0) m) (tr (seqQ (f := fun ρ m => s_Pflat_parser_neighbor_3 G (ρ 7) (ρ 2) (ρ 9) (ρ 6) (ρ 8) (ρ 1) (ρ 0) m) (tr (seqQ (f := fun ρ m => s_Pflat_parser_neighbor_4 G (ρ 6) (ρ 8) (ρ 1) (ρ 9) (ρ 7) (ρ 2) (ρ 0) m) (tr (seqQ (f := fun ρ m => s_Pflat_parser_neighbor_5 G (ρ 8) (ρ 6) (ρ 1) (ρ 9) (ρ 7) (ρ 2) (ρ 0) (ρ 10) m) (tr (seqQ (f := fun ρ m => s_Pflat_parser_neighbor_6 G (ρ 8) (ρ 7) (ρ 2) (ρ 9) (ρ 0) (ρ 10) m) (tr (tr (seqQ (f := fun ρ m => s_Pflat_parser_neighbor_7 G (ρ 0) (ρ 10) m) (fun ρ m => by kernel_rfl)) (blockQ (seqQ (f := fun ρ m => s_Pflat_parser_neighbor_8 G (ρ 69) (ρ 2) (ρ 9) (ρ 0) (ρ 10) (ρ 7) (ρ 8) m) (tr (condQ (refQ) (seqQ (f := fun ρ m => s_Pflat_parser_neighbor_9 G (ρ 86) (ρ 2) (ρ 7) (ρ 9) (ρ 0) (ρ 10) m) (fun ρ m => by kernel_rfl))) (fun ρ m => by kernel_rfl))))) (fun ρ m => by kernel_rfl))) (fun ρ m => by kernel_rfl))) (fun ρ m => by kernel_rfl))) (fun ρ m => by kernel_rfl))) (fun ρ m => by kernel_rfl))) (fun ρ m => by kernel_rfl))) (fun ρ m => by kernel_rfl))) (fun ρ m => by kernel_rfl)) m
noncomputable def E_Pflat_parser_neighbor : Entry Go.Proofs.Tryz.prog := ⟨F_Pflat_parser_neighbor, Go.Proofs.Tryz.f136, Go.Proofs.Tryz.func136, by kernel_rfl, arg3 (fun G a0 a1 a2 m => s_Pflat_parser_neighbor G a1 a2 a0 m), okarg3 e_Pflat_parser_neighbor⟩
/-! 143 waymark/model.bookOf -/
noncomputable def s_model_bookOf (G : Gt) (p0 : Value) (m : Mem) : Option Rs :=
  bp (some (aNew T_api_Device (Value.cells p0).toList m)) fun x0 m =>
  bp (some (aNew T_model_book z_model_book m)) fun x1 m =>
  bp (pur (aFieldAddr 2 x0) m) fun x2 m =>
  bp (pur (aLoad false 1 x2 m) m) fun x3 m =>
  bp (pur (aFieldAddr 4 x0) m) fun x4 m =>
  bp (pur (aLoad false 1 x4 m) m) fun x5 m =>
  bp (pur (aFieldAddr 7 x0) m) fun x6 m =>
  bp (pur (aLoad false 1 x6 m) m) fun x7 m =>
  bp (pur (aFieldAddr 8 x0) m) fun x8 m =>
  bp (pur (aLoad false 1 x8 m) m) fun x9 m =>
  bp (pur (aFieldAddr 9 x0) m) fun x10 m =>
  bp (pur (aLoad false 1 x10 m) m) fun x11 m =>
  bp (G.tab F_model_countLstringJ [x3, (.func (.func F_model_ofSelf) #[] #[])] m) fun x12 m =>
  ckB (again (pur (aLoad false 1 x4 m) m) x5 && (again (pur (aLoad false 1 x6 m) m) x7 && (again (pur (aLoad false 1 x8 m) m) x9 && (again (pur (aLoad false 1 x10 m) m) x11 && true))))
    (bp (G.tab F_model_countLapi_FilterJ [x5, (.func (.func F_model_ofFilter) #[] #[])] m) fun x13 m =>
  ckB (again (pur (aLoad false 1 x6 m) m) x7 && (again (pur (aLoad false 1 x8 m) m) x9 && (again (pur (aLoad false 1 x10 m) m) x11 && true)))
    (bp (G.tab F_model_countLapi_PrefixListJ [x7, (.func (.func F_model_ofPrefixes) #[] #[])] m) fun x14 m =>
  ckB (again (pur (aLoad false 1 x8 m) m) x9 && (again (pur (aLoad false 1 x10 m) m) x11 && true))
    (bp (G.tab F_model_countLapi_CommunityListJ [x9, (.func (.func F_model_ofCommunity) #[] #[])] m) fun x15 m =>
  ckB (again (pur (aLoad false 1 x10 m) m) x11 && true)
    (bp (G.tab F_model_countLapi_PolicyJ [x11, (.func (.func F_model_ofPolicy) #[] #[])] m) fun x16 m =>
  bp (pur (aBuild z_model_book [(0, 1), (1, 1), (2, 1), (3, 1), (4, 1)] [(0, x12), (1, x13), (2, x14), (3, x15), (4, x16)]) m) fun x17 m =>
  bp (unt (aStore 5 x1 x17 m)) fun _ m =>
  ob (ob (aLoad true 5 x1 m) fun v => ob (some []) fun l => some (v :: l)) fun l => some (resVal l, m)))))
theorem e_model_bookOf (G : Gt) (a0 : Value) (m : Mem) : evFn Go.Proofs.Tryz.prog G.tab G.rds (drOf Go.Proofs.Tryz.prog G.tab) Go.Proofs.Tryz.f143 [a0] m = s_model_bookOf G a0 m :=
  evFn_of (r := fun ρ m => s_model_bookOf G (ρ 0) m) rfl rfl (fun ρ m => by kernel_rfl) m
noncomputable def E_model_bookOf : Entry Go.Proofs.Tryz.prog := ⟨F_model_bookOf, Go.Proofs.Tryz.f143, Go.Proofs.Tryz.func143, by kernel_rfl, arg1 (fun G a0 m => s_model_bookOf G a0 m), okarg1 e_model_bookOf⟩
/-! 144 waymark/model.partsOf$1 -/
noncomputable def s_model_partsOfS1_1 (G : Gt) (p3 : Value) (m : Mem) : Option Rs :=
  some (p3, m)
noncomputable def s_model_partsOfS1_0 (G : Gt) (p1 p0 : Value) (m : Mem) : Option Rs :=
  bp (pur (aFieldAddr 2 p1) m) fun x0 m =>
  bp (pur (aLoad false 1 x0 m) m) fun x1 m =>
  bp (pur (aIndexAddrSl 1 x1 p0) m) fun x2 m =>
  bp (pur (aLoad false 1 x2 m) m) fun x3 m =>
  bp (G.tab F_model_name [x3] m) fun x4 m =>
  brb x4
    (bp (pur (aFieldAddr 2 p1) m) fun x5 m =>
  bp (pur (aLoad false 1 x5 m) m) fun x6 m =>
  bp (G.tab F_model_firstLstringJ [x6, p0, (.func (.func F_model_ofSelf) #[] #[])] m) fun x7 m =>
  bp (G.tab F_model_fails [x7, (.bool true)] m) fun x8 m =>
  s_model_partsOfS1_1 G x8 m)
    (bp (G.tab F_model_fails [(.bool false), (.bool true)] m) fun x9 m =>
  s_model_partsOfS1_1 G x9 m)
noncomputable def s_model_partsOfS1 (G : Gt) (p1 p0 : Value) (m : Mem) : Option Rs :=
  s_model_partsOfS1_0 G p1 p0 m
theorem e_model_partsOfS1 (G : Gt) (a0 a1 : Value) (m : Mem) : evFn Go.Proofs.Tryz.prog G.tab G.rds (drOf Go.Proofs.Tryz.prog G.tab) Go.Proofs.Tryz.f144 [a0, a1] m = s_model_partsOfS1 G a1 a0 m :=
  evFn_of (r := fun ρ m => s_model_partsOfS1 G (ρ 1) (ρ 0) m) rfl rfl (tr (seqQ (f := fun ρ m => s_model_partsOfS1_0 G (ρ 1) (ρ 0) m) (tr (seqQ (f := fun ρ m => s_model_partsOfS1_1 G (ρ 3) m) (fun ρ m => by kernel_rfl)) (fun ρ m => by kernel_rfl))) (fun ρ m => by kernel_rfl)) m
noncomputable def E_model_partsOfS1 : Entry Go.Proofs.Tryz.prog := ⟨F_model_partsOfS1, Go.Proofs.Tryz.f144, Go.Proofs.Tryz.func144, by kernel_rfl, arg2 (fun G a0 a1 m => s_model_partsOfS1 G a1 a0 m), okarg2 e_model_partsOfS1⟩
/-! 145 waymark/model.fails -/
noncomputable def s_model_fails (G : Gt) (p0 p1 : Value) (m : Mem) : Option Rs :=
  bp (pur (un .not p0) m) fun x0 m =>
  brb x0
    (some ((.int .i64 1), m))
    (bp (pur (un .not p1) m) fun x1 m =>
  brb x1
    (some ((.int .i64 2), m))
    (some ((.int .i64 0), m)))
theorem e_model_fails (G : Gt) (a0 a1 : Value) (m : Mem) : evFn Go.Proofs.Tryz.prog G.tab G.rds (drOf Go.Proofs.Tryz.prog G.tab) Go.Proofs.Tryz.f145 [a0, a1] m = s_model_fails G a0 a1 m :=
  evFn_of (r := fun ρ m => s_model_fails G (ρ 0) (ρ 1) m) rfl rfl (fun ρ m => by kernel_rfl) m
noncomputable def E_model_fails : Entry Go.Proofs.Tryz.prog := ⟨F_model_fails, Go.Proofs.Tryz.f145, Go.Proofs.Tryz.func145, by kernel_rfl, arg2 (fun G a0 a1 m => s_model_fails G a0 a1 m), okarg2 e_model_fails⟩
/-! 146 waymark/model.first[string] -/
noncomputable def s_model_firstLstringJ (G : Gt) (p0 p1 p2 : Value) (m : Mem) : Option Rs :=
  bp (some (aNew T_LJstring (Value.cells p0).toList m)) fun x0 m =>
  bp (some (aNew T_int (Value.cells p1).toList m)) fun x1 m =>
  bp (some (aNew T_funcstring_string (Value.cells p2).toList m)) fun x2 m =>
  bp (pur (aLoad false 1 x0 m) m) fun x3 m =>
  bp (pur (aLoad false 1 x1 m) m) fun x4 m =>
  bp (G.tab F_slices_IndexFuncLLJstringCstringJ [x3, (.func (.func F_model_firstLstringJS1) ⟨[]⟩ ⟨[x2, x0, x1]⟩)] m) fun x5 m =>
  ckB (again (pur (aLoad false 1 x1 m) m) x4 && true)
    (bp (pur (bin .eql false true .int x5 x4) m) fun x6 m =>
  some (x6, m))
theorem e_model_firstLstringJ (G : Gt) (a0 a1 a2 : Value) (m : Mem) : evFn Go.Proofs.Tryz.prog G.tab G.rds (drOf Go.Proofs.Tryz.prog G.tab) Go.Proofs.Tryz.f146 [a0, a1, a2] m = s_model_firstLstringJ G a0 a1 a2 m :=
  evFn_of (r := fun ρ m => s_model_firstLstringJ G (ρ 0) (ρ 1) (ρ 2) m) rfl rfl (fun ρ m => by kernel_rfl) m
noncomputable def E_model_firstLstringJ : Entry Go.Proofs.Tryz.prog := ⟨F_model_firstLstringJ, Go.Proofs.Tryz.f146, Go.Proofs.Tryz.func146, by kernel_rfl, arg3 (fun G a0 a1 a2 m => s_model_firstLstringJ G a0 a1 a2 m), okarg3 e_model_firstLstringJ⟩
/-! 147 waymark/model.ofSelf -/
noncomputable def s_model_ofSelf (G : Gt) (p0 : Value) (m : Mem) : Option Rs :=
  some (p0, m)
theorem e_model_ofSelf (G : Gt) (a0 : Value) (m : Mem) : evFn Go.Proofs.Tryz.prog G.tab G.rds (drOf Go.Proofs.Tryz.prog G.tab) Go.Proofs.Tryz.f147 [a0] m = s_model_ofSelf G a0 m :=
  evFn_of (r := fun ρ m => s_model_ofSelf G (ρ 0) m) rfl rfl (fun ρ m => by kernel_rfl) m
noncomputable def E_model_ofSelf : Entry Go.Proofs.Tryz.prog := ⟨F_model_ofSelf, Go.Proofs.Tryz.f147, Go.Proofs.Tryz.func147, by kernel_rfl, arg1 (fun G a0 m => s_model_ofSelf G a0 m), okarg1 e_model_ofSelf⟩
/-! 148 waymark/model.partsOf$2 -/
noncomputable def s_model_partsOfS2 (G : Gt) (p1 p2 p0 : Value) (m : Mem) : Option Rs :=
  bp (pur (aLoad true 5 p1 m) m) fun x0 m =>
  bp (pur (aLoad true 12 p2 m) m) fun x1 m =>
  bp (G.tab F_model_book_iface [x0, x1, p0] m) fun x2 m =>
  some (x2, m)
theorem e_model_partsOfS2 (G : Gt) (a0 a1 a2 : Value) (m : Mem) : evFn Go.Proofs.Tryz.prog G.tab G.rds (drOf Go.Proofs.Tryz.prog G.tab) Go.Proofs.Tryz.f148 [a0, a1, a2] m = s_model_partsOfS2 G a1 a2 a0 m :=
  evFn_of (r := fun ρ m => s_model_partsOfS2 G (ρ 1) (ρ 2) (ρ 0) m) rfl rfl (fun ρ m => by kernel_rfl) m
noncomputable def E_model_partsOfS2 : Entry Go.Proofs.Tryz.prog := ⟨F_model_partsOfS2, Go.Proofs.Tryz.f148, Go.Proofs.Tryz.func148, by kernel_rfl, arg3 (fun G a0 a1 a2 m => s_model_partsOfS2 G a1 a2 a0 m), okarg3 e_model_partsOfS2⟩
/-! 149 (waymark/model.book).iface -/
noncomputable def s_model_book_iface_4 (G : Gt) (p6 : Value) (m : Mem) : Option Rs :=
  some (p6, m)
noncomputable def s_model_book_iface_3 (G : Gt) (p9 p3 p7 : Value) (m : Mem) : Option Rs :=
  bp (pur (aFieldAddr 0 p3) m) fun x0 m =>
  bp (pur (aLoad false 1 x0 m) m) fun x1 m =>
  bp (pur (aFieldAddr 1 p7) m) fun x2 m =>
  bp (pur (aLoad false 1 x2 m) m) fun x3 m =>
  bp (G.tab F_model_none [x1, x3] m) fun x4 m =>
  brb x4
    (bp (pur (aFieldAddr 1 p3) m) fun x5 m =>
  bp (pur (aLoad false 1 x5 m) m) fun x6 m =>
  bp (pur (aFieldAddr 5 p7) m) fun x7 m =>
  bp (pur (aLoad false 1 x7 m) m) fun x8 m =>
  bp (G.tab F_model_none [x6, x8] m) fun x9 m =>
  brb x9
    (bp (pur (aFieldAddr 1 p3) m) fun x10 m =>
  bp (pur (aLoad false 1 x10 m) m) fun x11 m =>
  bp (pur (aFieldAddr 6 p7) m) fun x12 m =>
  bp (pur (aLoad false 1 x12 m) m) fun x13 m =>
  bp (G.tab F_model_none [x11, x13] m) fun x14 m =>
  bp (G.tab F_model_fails [p9, x14] m) fun x15 m =>
  s_model_book_iface_4 G x15 m)
    (bp (G.tab F_model_fails [p9, (.bool false)] m) fun x16 m =>
  s_model_book_iface_4 G x16 m))
    (bp (G.tab F_model_fails [p9, (.bool false)] m) fun x17 m =>
  s_model_book_iface_4 G x17 m)
noncomputable def s_model_book_iface_2 (G : Gt) (p7 p4 p2 p8 p3 : Value) (m : Mem) : Option Rs :=
  bp (pur (aFieldAddr 0 p7) m) fun x18 m =>
  bp (pur (aLoad false 1 x18 m) m) fun x19 m =>
  bp (G.tab F_model_name [x19] m) fun x20 m =>
  brb x20
    (bp (pur (aFieldAddr 3 p4) m) fun x21 m =>
  bp (pur (aLoad false 1 x21 m) m) fun x22 m =>
  bp (G.tab F_model_firstLapi_IfaceJ [x22, p2, (.func (.func F_model_ofIface) #[] #[])] m) fun x23 m =>
  brb x23
    (brb p8
    (bp (pur (aFieldAddr 7 p7) m) fun x24 m =>
  bp (pur (aLoad false 1 x24 m) m) fun x25 m =>
  bp (pur (bin .leq true true .int x25 (.int .u8 2)) m) fun x26 m =>
  brb x26
    (bp (pur (aFieldAddr 8 p7) m) fun x27 m =>
  bp (pur (aLoad false 1 x27 m) m) fun x28 m =>
  bp (G.tab F_model_within [x28, (.int .i64 (-1)), (.int .i64 16777216)] m) fun x29 m =>
  brb x29
    (bp (pur (aFieldAddr 9 p7) m) fun x30 m =>
  bp (pur (aLoad false 1 x30 m) m) fun x31 m =>
  bp (G.tab F_model_within [x31, (.int .i64 1), (.int .i64 65535)] m) fun x32 m =>
  s_model_book_iface_3 G x32 p3 p7 m)
    (s_model_book_iface_3 G (.bool false) p3 p7 m))
    (s_model_book_iface_3 G (.bool false) p3 p7 m))
    (s_model_book_iface_3 G (.bool false) p3 p7 m))
    (s_model_book_iface_3 G (.bool false) p3 p7 m))
    (s_model_book_iface_3 G (.bool false) p3 p7 m)
noncomputable def s_model_book_iface_1 (G : Gt) (p7 p4 p2 p3 : Value) (m : Mem) : Option Rs :=
  bp (pur (aFieldAddr 2 p7) m) fun x33 m =>
  bp (pur (aLoad false 1 x33 m) m) fun x34 m =>
  bp (pur (bin .eql true true .int x34 (.int .u32 0)) m) fun x35 m =>
  brb x35
    (bp (pur (aFieldAddr 3 p7) m) fun x36 m =>
  bp (pur (aLoad false 1 x36 m) m) fun x37 m =>
  bp (pur (bin .eql true true .int x37 (.int .i64 0)) m) fun x38 m =>
  brb x38
    (s_model_book_iface_2 G p7 p4 p2 (.bool true) p3 m)
    (bp (pur (aFieldAddr 2 p7) m) fun x39 m =>
  bp (pur (aLoad false 1 x39 m) m) fun x40 m =>
  bp (pur (bin .neq true true .int x40 (.int .u32 0)) m) fun x41 m =>
  brb x41
    (bp (pur (aFieldAddr 3 p7) m) fun x42 m =>
  bp (pur (aLoad false 1 x42 m) m) fun x43 m =>
  bp (G.tab F_model_within [x43, (.int .i64 1), (.int .i64 32)] m) fun x44 m =>
  s_model_book_iface_2 G p7 p4 p2 x44 p3 m)
    (s_model_book_iface_2 G p7 p4 p2 (.bool false) p3 m)))
    (bp (pur (aFieldAddr 2 p7) m) fun x45 m =>
  bp (pur (aLoad false 1 x45 m) m) fun x46 m =>
  bp (pur (bin .neq true true .int x46 (.int .u32 0)) m) fun x47 m =>
  brb x47
    (bp (pur (aFieldAddr 3 p7) m) fun x48 m =>
  bp (pur (aLoad false 1 x48 m) m) fun x49 m =>
  bp (G.tab F_model_within [x49, (.int .i64 1), (.int .i64 32)] m) fun x50 m =>
  s_model_book_iface_2 G p7 p4 p2 x50 p3 m)
    (s_model_book_iface_2 G p7 p4 p2 (.bool false) p3 m))
noncomputable def s_model_book_iface_0 (G : Gt) (p4 p2 p3 : Value) (m : Mem) : Option Rs :=
  bp (pur (aFieldAddr 3 p4) m) fun x51 m =>
  bp (pur (aLoad false 1 x51 m) m) fun x52 m =>
  bp (pur (aIndexAddrSl 11 x52 p2) m) fun x53 m =>
  bp (pur (aLoad true 11 x53 m) m) fun x54 m =>
  bp (some (aNew T_api_Iface z_api_Iface m)) fun x55 m =>
  bp (unt (aStore 11 x55 x54 m)) fun _ m =>
  s_model_book_iface_1 G x55 p4 p2 p3 m
noncomputable def s_model_book_iface (G : Gt) (p0 p1 p2 : Value) (m : Mem) : Option Rs :=
  bp (some (aNew T_model_book (Value.cells p0).toList m)) fun x56 m =>
  bp (some (aNew T_api_Device (Value.cells p1).toList m)) fun x57 m =>
  s_model_book_iface_0 G x57 p2 x56 m
theorem e_model_book_iface (G : Gt) (a0 a1 a2 : Value) (m : Mem) : evFn Go.Proofs.Tryz.prog G.tab G.rds (drOf Go.Proofs.Tryz.prog G.tab) Go.Proofs.Tryz.f149 [a0, a1, a2] m = s_model_book_iface G a0 a1 a2 m :=
  evFn_of (r := fun ρ m => s_model_book_iface G (ρ 0) (ρ 1) (ρ 2) m) rfl rfl (tr (seqQ (f := fun ρ m => s_model_book_iface_0 G (ρ 4) (ρ 2) (ρ 3) m) (tr (seqQ (f := fun ρ m => s_model_book_iface_1 G (ρ 7) (ρ 4) (ρ 2) (ρ 3) m) (tr (seqQ (f := fun ρ m => s_model_book_iface_2 G (ρ 7) (ρ 4) (ρ 2) (ρ 8) (ρ 3) m) (tr (seqQ (f := fun ρ m => s_model_book_iface_3 G (ρ 9) (ρ 3) (ρ 7) m) (tr (seqQ (f := fun ρ m => s_model_book_iface_4 G (ρ 6) m) (fun ρ m => by kernel_rfl)) (fun ρ m => by kernel_rfl))) (fun ρ m => by kernel_rfl))) (fun ρ m => by kernel_rfl))) (fun ρ m => by kernel_rfl))) (fun ρ m => by kernel_rfl)) m
noncomputable def E_model_book_iface : Entry Go.Proofs.Tryz.prog := ⟨F_model_book_iface, Go.Proofs.Tryz.f149, Go.Proofs.Tryz.func149, by kernel_rfl, arg3 (fun G a0 a1 a2 m => s_model_book_iface G a0 a1 a2 m), okarg3 e_model_book_iface⟩
/-! 150 waymark/model.partsOf$3 -/
noncomputable def s_model_partsOfS3_1 (G : Gt) (p3 : Value) (m : Mem) : Option Rs :=
  some (p3, m)
noncomputable def s_model_partsOfS3_0 (G : Gt) (p1 p0 : Value) (m : Mem) : Option Rs :=
  bp (pur (aFieldAddr 4 p1) m) fun x0 m =>
  bp (pur (aLoad false 1 x0 m) m) fun x1 m =>
  bp (pur (aIndexAddrSl 2 x1 p0) m) fun x2 m =>
  bp (pur (aFieldAddr 0 x2) m) fun x3 m =>
  bp (pur (aLoad false 1 x3 m) m) fun x4 m =>
  bp (G.tab F_model_name [x4] m) fun x5 m =>
  brb x5
    (bp (pur (aFieldAddr 4 p1) m) fun x6 m =>
  bp (pur (aLoad false 1 x6 m) m) fun x7 m =>
  bp (G.tab F_model_firstLapi_FilterJ [x7, p0, (.func (.func F_model_ofFilter) #[] #[])] m) fun x8 m =>
  brb x8
    (bp (pur (aFieldAddr 4 p1) m) fun x9 m =>
  bp (pur (aLoad false 1 x9 m) m) fun x10 m =>
  bp (pur (aIndexAddrSl 2 x10 p0) m) fun x11 m =>
  bp (pur (aLoad true 2 x11 m) m) fun x12 m =>
  bp (G.tab F_filter_Check [x12] m) fun x13 m =>
  bp (pur (bin .eql true true .int x13 (.int .i64 0)) m) fun x14 m =>
  bp (G.tab F_model_fails [x14, (.bool true)] m) fun x15 m =>
  s_model_partsOfS3_1 G x15 m)
    (bp (G.tab F_model_fails [(.bool false), (.bool true)] m) fun x16 m =>
  s_model_partsOfS3_1 G x16 m))
    (bp (G.tab F_model_fails [(.bool false), (.bool true)] m) fun x17 m =>
  s_model_partsOfS3_1 G x17 m)
noncomputable def s_model_partsOfS3 (G : Gt) (p1 p0 : Value) (m : Mem) : Option Rs :=
  s_model_partsOfS3_0 G p1 p0 m
theorem e_model_partsOfS3 (G : Gt) (a0 a1 : Value) (m : Mem) : evFn Go.Proofs.Tryz.prog G.tab G.rds (drOf Go.Proofs.Tryz.prog G.tab) Go.Proofs.Tryz.f150 [a0, a1] m = s_model_partsOfS3 G a1 a0 m :=
  evFn_of (r := fun ρ m => s_model_partsOfS3 G (ρ 1) (ρ 0) m) rfl rfl (tr (seqQ (f := fun ρ m => s_model_partsOfS3_0 G (ρ 1) (ρ 0) m) (tr (seqQ (f := fun ρ m => s_model_partsOfS3_1 G (ρ 3) m) (fun ρ m => by kernel_rfl)) (fun ρ m => by kernel_rfl))) (fun ρ m => by kernel_rfl)) m
noncomputable def E_model_partsOfS3 : Entry Go.Proofs.Tryz.prog := ⟨F_model_partsOfS3, Go.Proofs.Tryz.f150, Go.Proofs.Tryz.func150, by kernel_rfl, arg2 (fun G a0 a1 m => s_model_partsOfS3 G a1 a0 m), okarg2 e_model_partsOfS3⟩
/-! 151 waymark/model.first[waymark/api.Filter] -/
noncomputable def s_model_firstLapi_FilterJ (G : Gt) (p0 p1 p2 : Value) (m : Mem) : Option Rs :=
  bp (some (aNew T_LJapi_Filter (Value.cells p0).toList m)) fun x0 m =>
  bp (some (aNew T_int (Value.cells p1).toList m)) fun x1 m =>
  bp (some (aNew T_funcapi_Filter_string (Value.cells p2).toList m)) fun x2 m =>
  bp (pur (aLoad false 1 x0 m) m) fun x3 m =>
  let x4 : Value := (.func (.func F_model_firstLapi_FilterJS1) ⟨[]⟩ ⟨[x2, x0, x1]⟩)
  bp (pur (aLoad false 1 x1 m) m) fun x5 m =>
  bp (G.tab F_slices_IndexFuncLLJapi_FilterCapi_FilterJ [x3, x4] m) fun x6 m =>
  ckB (again (pur (aLoad false 1 x1 m) m) x5 && true)
    (bp (pur (bin .eql false true .int x6 x5) m) fun x7 m =>
  some (x7, m))
theorem e_model_firstLapi_FilterJ (G : Gt) (a0 a1 a2 : Value) (m : Mem) : evFn Go.Proofs.Tryz.prog G.tab G.rds (drOf Go.Proofs.Tryz.prog G.tab) Go.Proofs.Tryz.f151 [a0, a1, a2] m = s_model_firstLapi_FilterJ G a0 a1 a2 m :=
  evFn_of (r := fun ρ m => s_model_firstLapi_FilterJ G (ρ 0) (ρ 1) (ρ 2) m) rfl rfl (fun ρ m => by kernel_rfl) m
noncomputable def E_model_firstLapi_FilterJ : Entry Go.Proofs.Tryz.prog := ⟨F_model_firstLapi_FilterJ, Go.Proofs.Tryz.f151, Go.Proofs.Tryz.func151, by kernel_rfl, arg3 (fun G a0 a1 a2 m => s_model_firstLapi_FilterJ G a0 a1 a2 m), okarg3 e_model_firstLapi_FilterJ⟩
/-! 152 waymark/model.ofFilter -/
noncomputable def s_model_ofFilter (G : Gt) (p0 : Value) (m : Mem) : Option Rs :=
  bp (some (aNew T_api_Filter (Value.cells p0).toList m)) fun x0 m =>
  bp (pur (aFieldAddr 0 x0) m) fun x1 m =>
  bp (pur (aLoad false 1 x1 m) m) fun x2 m =>
  some (x2, m)
theorem e_model_ofFilter (G : Gt) (a0 : Value) (m : Mem) : evFn Go.Proofs.Tryz.prog G.tab G.rds (drOf Go.Proofs.Tryz.prog G.tab) Go.Proofs.Tryz.f152 [a0] m = s_model_ofFilter G a0 m :=
  evFn_of (r := fun ρ m => s_model_ofFilter G (ρ 0) m) rfl rfl (fun ρ m => by kernel_rfl) m
noncomputable def E_model_ofFilter : Entry Go.Proofs.Tryz.prog := ⟨F_model_ofFilter, Go.Proofs.Tryz.f152, Go.Proofs.Tryz.func152, by kernel_rfl, arg1 (fun G a0 m => s_model_ofFilter G a0 m), okarg1 e_model_ofFilter⟩
/-! 153 waymark/filter.Check -/
noncomputable def s_filter_Check_1 (G : Gt) (p11 : Value) (m : Mem) : Option Rs :=
  brb p11
    (some ((.int .i64 121), m))
    (some ((.int .i64 0), m))
noncomputable def s_filter_Check_0 (G : Gt) (p1 : Value) (m : Mem) : Option Rs :=
  bp (pur (aFieldAddr 1 p1) m) fun x0 m =>
  bp (pur (aLoad false 1 x0 m) m) fun x1 m =>
  bp (pur (lenK 1 x1 m) m) fun x2 m =>
  bp (pur (bin .gtr true true .int x2 (.int .i64 256)) m) fun x3 m =>
  brb x3
    (s_filter_Check_1 G (.bool true) m)
    (bp (pur (aFieldAddr 1 p1) m) fun x4 m =>
  bp (pur (aLoad false 1 x4 m) m) fun x5 m =>
  bp (G.tab F_slices_ContainsFuncLLJapi_RuleCapi_RuleJ [x5, (.func (.func F_filter_CheckS1) #[] #[])] m) fun x6 m =>
  s_filter_Check_1 G x6 m)
noncomputable def s_filter_Check (G : Gt) (p0 : Value) (m : Mem) : Option Rs :=
  bp (some (aNew T_api_Filter (Value.cells p0).toList m)) fun x7 m =>
  s_filter_Check_0 G x7 m
theorem e_filter_Check (G : Gt) (a0 : Value) (m : Mem) : evFn Go.Proofs.Tryz.prog G.tab G.rds (drOf Go.Proofs.Tryz.prog G.tab) Go.Proofs.Tryz.f153 [a0] m = s_filter_Check G a0 m :=
  evFn_of (r := fun ρ m => s_filter_Check G (ρ 0) m) rfl rfl (tr (seqQ (f := fun ρ m => s_filter_Check_0 G (ρ 1) m) (tr (tr seqD (seqQ (f := fun ρ m => s_filter_Check_1 G (ρ 11) m) (fun ρ m => by kernel_rfl))) (fun ρ m => by kernel_rfl))) (fun ρ m => by kernel_rfl)) m
noncomputable def E_filter_Check : Entry Go.Proofs.Tryz.prog := ⟨F_filter_Check, Go.Proofs.Tryz.f153, Go.Proofs.Tryz.func153, by kernel_rfl, arg1 (fun G a0 m => s_filter_Check G a0 m), okarg1 e_filter_Check⟩
/-! 154 waymark/model.partsOf$4 -/
noncomputable def s_model_partsOfS4 (G : Gt) (p1 p0 p2 : Value) (m : Mem) : Option Rs :=
  bp (pur (aFieldAddr 5 p1) m) fun x0 m =>
  bp (pur (aLoad false 1 x0 m) m) fun x1 m =>
  bp (pur (aIndexAddrSl 3 x1 p0) m) fun x2 m =>
  bp (pur (aFieldAddr 2 x2) m) fun x3 m =>
  bp (pur (aLoad false 1 x3 m) m) fun x4 m =>
  bp (pur (bin .neq true true .int x4 (.int .u32 0)) m) fun x5 m =>
  bp (pur (aFieldAddr 1 p2) m) fun x6 m =>
  bp (pur (aLoad false 1 x6 m) m) fun x7 m =>
  bp (pur (aFieldAddr 5 p1) m) fun x8 m =>
  bp (pur (aLoad false 1 x8 m) m) fun x9 m =>
  bp (pur (aIndexAddrSl 3 x9 p0) m) fun x10 m =>
  bp (pur (aFieldAddr 1 x10) m) fun x11 m =>
  bp (pur (aLoad false 1 x11 m) m) fun x12 m =>
  bp (G.tab F_model_none [x7, x12] m) fun x13 m =>
  ckB (again (pur (aLoad false 1 x0 m) m) x1 && (again (pur (aLoad false 1 x3 m) m) x4 && true))
    (bp (G.tab F_model_fails [x5, x13] m) fun x14 m =>
  some (x14, m))
theorem e_model_partsOfS4 (G : Gt) (a0 a1 a2 : Value) (m : Mem) : evFn Go.Proofs.Tryz.prog G.tab G.rds (drOf Go.Proofs.Tryz.prog G.tab) Go.Proofs.Tryz.f154 [a0, a1, a2] m = s_model_partsOfS4 G a1 a0 a2 m :=
  evFn_of (r := fun ρ m => s_model_partsOfS4 G (ρ 1) (ρ 0) (ρ 2) m) rfl rfl (fun ρ m => by kernel_rfl) m
noncomputable def E_model_partsOfS4 : Entry Go.Proofs.Tryz.prog := ⟨F_model_partsOfS4, Go.Proofs.Tryz.f154, Go.Proofs.Tryz.func154, by kernel_rfl, arg3 (fun G a0 a1 a2 m => s_model_partsOfS4 G a1 a0 a2 m), okarg3 e_model_partsOfS4⟩
end Go.Ab.Sh

set_option linter.unusedVariables false
set_option maxRecDepth 100000
namespace Go.Ab.Sh
open Go Go.Ab
/-! 155 waymark/model.none -/
noncomputable def s_model_none_1 (G : Gt) (p4 : Value) (m : Mem) : Option Rs :=
  some (p4, m)
noncomputable def s_model_none_0 (G : Gt) (p1 p0 : Value) (m : Mem) : Option Rs :=
  bp (pur (bin .eql true true .str p1 (.string ⟨#[]⟩)) m) fun x0 m =>
  brb x0
    (s_model_none_1 G (.bool true) m)
    (bp (pur (aLookup .str (.int .i64 0) false p0 p1 m) m) fun x1 m =>
  bp (pur (bin .gtr true true .int x1 (.int .i64 0)) m) fun x2 m =>
  s_model_none_1 G x2 m)
noncomputable def s_model_none (G : Gt) (p1 p0 : Value) (m : Mem) : Option Rs :=
  s_model_none_0 G p1 p0 m
theorem e_model_none (G : Gt) (a0 a1 : Value) (m : Mem) : evFn Go.Proofs.Tryz.prog G.tab G.rds (drOf Go.Proofs.Tryz.prog G.tab) Go.Proofs.Tryz.f155 [a0, a1] m = s_model_none G a1 a0 m :=
  evFn_of (r := fun ρ m => s_model_none G (ρ 1) (ρ 0) m) rfl rfl (tr (seqQ (f := fun ρ m => s_model_none_0 G (ρ 1) (ρ 0) m) (tr (seqQ (f := fun ρ m => s_model_none_1 G (ρ 4) m) (fun ρ m => by kernel_rfl)) (fun ρ m => by kernel_rfl))) (fun ρ m => by kernel_rfl)) m
noncomputable def E_model_none : Entry Go.Proofs.Tryz.prog := ⟨F_model_none, Go.Proofs.Tryz.f155, Go.Proofs.Tryz.func155, by kernel_rfl, arg2 (fun G a0 a1 m => s_model_none G a1 a0 m), okarg2 e_model_none⟩
/-! 156 waymark/model.partsOf$5 -/
noncomputable def s_model_partsOfS5 (G : Gt) (p1 p2 p0 : Value) (m : Mem) : Option Rs :=
  bp (pur (aLoad true 5 p1 m) m) fun x0 m =>
  bp (pur (aFieldAddr 6 p2) m) fun x1 m =>
  bp (pur (aLoad false 1 x1 m) m) fun x2 m =>
  bp (pur (aIndexAddrSl 7 x2 p0) m) fun x3 m =>
  bp (pur (aLoad true 7 x3 m) m) fun x4 m =>
  bp (G.tab F_model_book_static [x0, x4] m) fun x5 m =>
  some (x5, m)
theorem e_model_partsOfS5 (G : Gt) (a0 a1 a2 : Value) (m : Mem) : evFn Go.Proofs.Tryz.prog G.tab G.rds (drOf Go.Proofs.Tryz.prog G.tab) Go.Proofs.Tryz.f156 [a0, a1, a2] m = s_model_partsOfS5 G a1 a2 a0 m :=
  evFn_of (r := fun ρ m => s_model_partsOfS5 G (ρ 1) (ρ 2) (ρ 0) m) rfl rfl (fun ρ m => by kernel_rfl) m
noncomputable def E_model_partsOfS5 : Entry Go.Proofs.Tryz.prog := ⟨F_model_partsOfS5, Go.Proofs.Tryz.f156, Go.Proofs.Tryz.func156, by kernel_rfl, arg3 (fun G a0 a1 a2 m => s_model_partsOfS5 G a1 a2 a0 m), okarg3 e_model_partsOfS5⟩
/-! 157 (waymark/model.book).static -/
noncomputable def s_model_book_static_1 (G : Gt) (p5 p2 p3 : Value) (m : Mem) : Option Rs :=
  bp (pur (aFieldAddr 0 p2) m) fun x0 m =>
  bp (pur (aLoad false 1 x0 m) m) fun x1 m =>
  bp (pur (aFieldAddr 0 p3) m) fun x2 m =>
  bp (pur (aLoad false 1 x2 m) m) fun x3 m =>
  bp (G.tab F_model_none [x1, x3] m) fun x4 m =>
  bp (G.tab F_model_fails [p5, x4] m) fun x5 m =>
  some (x5, m)
noncomputable def s_model_book_static_0 (G : Gt) (p3 p2 : Value) (m : Mem) : Option Rs :=
  bp (pur (aFieldAddr 1 p3) m) fun x6 m =>
  bp (pur (aLoad true 2 x6 m) m) fun x7 m =>
  bp (G.tab F_addr_Check [x7] m) fun x8 m =>
  bp (pur (bin .eql true true .int x8 (.int .i64 0)) m) fun x9 m =>
  brb x9
    (bp (pur (aFieldAddr 4 p3) m) fun x10 m =>
  bp (pur (aLoad false 1 x10 m) m) fun x11 m =>
  bp (pur (aFieldAddr 3 p3) m) fun x12 m =>
  bp (pur (aLoad false 1 x12 m) m) fun x13 m =>
  bp (pur (bin .eql true true .int x13 (.int .u32 0)) m) fun x14 m =>
  bp (pur (bin .eql false true .bool x11 x14) m) fun x15 m =>
  brb x15
    (bp (pur (aFieldAddr 5 p3) m) fun x16 m =>
  bp (pur (aLoad false 1 x16 m) m) fun x17 m =>
  bp (G.tab F_model_within [x17, (.int .i64 1), (.int .i64 255)] m) fun x18 m =>
  brb x18
    (bp (pur (aFieldAddr 6 p3) m) fun x19 m =>
  bp (pur (aLoad false 1 x19 m) m) fun x20 m =>
  bp (G.tab F_model_within [x20, (.int .i64 0), (.int .i64 16777216)] m) fun x21 m =>
  s_model_book_static_1 G x21 p2 p3 m)
    (s_model_book_static_1 G (.bool false) p2 p3 m))
    (s_model_book_static_1 G (.bool false) p2 p3 m))
    (s_model_book_static_1 G (.bool false) p2 p3 m)
noncomputable def s_model_book_static (G : Gt) (p0 p1 : Value) (m : Mem) : Option Rs :=
  bp (some (aNew T_model_book (Value.cells p0).toList m)) fun x22 m =>
  bp (some (aNew T_api_Static (Value.cells p1).toList m)) fun x23 m =>
  s_model_book_static_0 G x23 x22 m
theorem e_model_book_static (G : Gt) (a0 a1 : Value) (m : Mem) : evFn Go.Proofs.Tryz.prog G.tab G.rds (drOf Go.Proofs.Tryz.prog G.tab) Go.Proofs.Tryz.f157 [a0, a1] m = s_model_book_static G a0 a1 m :=
  evFn_of (r := fun ρ m => s_model_book_static G (ρ 0) (ρ 1) m) rfl rfl (tr (seqQ (f := fun ρ m => s_model_book_static_0 G (ρ 3) (ρ 2) m) (tr (seqQ (f := fun ρ m => s_model_book_static_1 G (ρ 5) (ρ 2) (ρ 3) m) (fun ρ m => by kernel_rfl)) (fun ρ m => by kernel_rfl))) (fun ρ m => by kernel_rfl)) m
noncomputable def E_model_book_static : Entry Go.Proofs.Tryz.prog := ⟨F_model_book_static, Go.Proofs.Tryz.f157, Go.Proofs.Tryz.func157, by kernel_rfl, arg2 (fun G a0 a1 m => s_model_book_static G a0 a1 m), okarg2 e_model_book_static⟩
/-! 158 waymark/model.partsOf$6 -/
noncomputable def s_model_partsOfS6_1 (G : Gt) (p3 : Value) (m : Mem) : Option Rs :=
  some (p3, m)
noncomputable def s_model_partsOfS6_0 (G : Gt) (p1 p0 : Value) (m : Mem) : Option Rs :=
  bp (pur (aFieldAddr 7 p1) m) fun x0 m =>
  bp (pur (aLoad false 1 x0 m) m) fun x1 m =>
  bp (pur (aIndexAddrSl 2 x1 p0) m) fun x2 m =>
  bp (pur (aFieldAddr 0 x2) m) fun x3 m =>
  bp (pur (aLoad false 1 x3 m) m) fun x4 m =>
  bp (G.tab F_model_name [x4] m) fun x5 m =>
  brb x5
    (bp (pur (aFieldAddr 7 p1) m) fun x6 m =>
  bp (pur (aLoad false 1 x6 m) m) fun x7 m =>
  bp (G.tab F_model_firstLapi_PrefixListJ [x7, p0, (.func (.func F_model_ofPrefixes) #[] #[])] m) fun x8 m =>
  brb x8
    (bp (pur (aFieldAddr 7 p1) m) fun x9 m =>
  bp (pur (aLoad false 1 x9 m) m) fun x10 m =>
  bp (pur (aIndexAddrSl 2 x10 p0) m) fun x11 m =>
  bp (pur (aFieldAddr 1 x11) m) fun x12 m =>
  bp (pur (aLoad false 1 x12 m) m) fun x13 m =>
  bp (G.tab F_model_entries [x13] m) fun x14 m =>
  bp (G.tab F_model_fails [x14, (.bool true)] m) fun x15 m =>
  s_model_partsOfS6_1 G x15 m)
    (bp (G.tab F_model_fails [(.bool false), (.bool true)] m) fun x16 m =>
  s_model_partsOfS6_1 G x16 m))
    (bp (G.tab F_model_fails [(.bool false), (.bool true)] m) fun x17 m =>
  s_model_partsOfS6_1 G x17 m)
noncomputable def s_model_partsOfS6 (G : Gt) (p1 p0 : Value) (m : Mem) : Option Rs :=
  s_model_partsOfS6_0 G p1 p0 m
theorem e_model_partsOfS6 (G : Gt) (a0 a1 : Value) (m : Mem) : evFn Go.Proofs.Tryz.prog G.tab G.rds (drOf Go.Proofs.Tryz.prog G.tab) Go.Proofs.Tryz.f158 [a0, a1] m = s_model_partsOfS6 G a1 a0 m :=
  evFn_of (r := fun ρ m => s_model_partsOfS6 G (ρ 1) (ρ 0) m) rfl rfl (tr (seqQ (f := fun ρ m => s_model_partsOfS6_0 G (ρ 1) (ρ 0) m) (tr (seqQ (f := fun ρ m => s_model_partsOfS6_1 G (ρ 3) m) (fun ρ m => by kernel_rfl)) (fun ρ m => by kernel_rfl))) (fun ρ m => by kernel_rfl)) m
noncomputable def E_model_partsOfS6 : Entry Go.Proofs.Tryz.prog := ⟨F_model_partsOfS6, Go.Proofs.Tryz.f158, Go.Proofs.Tryz.func158, by kernel_rfl, arg2 (fun G a0 a1 m => s_model_partsOfS6 G a1 a0 m), okarg2 e_model_partsOfS6⟩
/-! 159 waymark/model.first[waymark/api.PrefixList] -/
noncomputable def s_model_firstLapi_PrefixListJ (G : Gt) (p0 p1 p2 : Value) (m : Mem) : Option Rs :=
  bp (some (aNew T_LJapi_PrefixList (Value.cells p0).toList m)) fun x0 m =>
  bp (some (aNew T_int (Value.cells p1).toList m)) fun x1 m =>
  bp (some (aNew T_funcapi_PrefixList_string (Value.cells p2).toList m)) fun x2 m =>
  bp (pur (aLoad false 1 x0 m) m) fun x3 m =>
  let x4 : Value := (.func (.func F_model_firstLapi_PrefixListJS1) ⟨[]⟩ ⟨[x2, x0, x1]⟩)
  bp (pur (aLoad false 1 x1 m) m) fun x5 m =>
  bp (G.tab F_slices_IndexFuncLLJapi_PrefixListCapi_PrefixListJ [x3, x4] m) fun x6 m =>
  ckB (again (pur (aLoad false 1 x1 m) m) x5 && true)
    (bp (pur (bin .eql false true .int x6 x5) m) fun x7 m =>
  some (x7, m))
theorem e_model_firstLapi_PrefixListJ (G : Gt) (a0 a1 a2 : Value) (m : Mem) : evFn Go.Proofs.Tryz.prog G.tab G.rds (drOf Go.Proofs.Tryz.prog G.tab) Go.Proofs.Tryz.f159 [a0, a1, a2] m = s_model_firstLapi_PrefixListJ G a0 a1 a2 m :=
  evFn_of (r := fun ρ m => s_model_firstLapi_PrefixListJ G (ρ 0) (ρ 1) (ρ 2) m) rfl rfl (fun ρ m => by kernel_rfl) m
noncomputable def E_model_firstLapi_PrefixListJ : Entry Go.Proofs.Tryz.prog := ⟨F_model_firstLapi_PrefixListJ, Go.Proofs.Tryz.f159, Go.Proofs.Tryz.func159, by kernel_rfl, arg3 (fun G a0 a1 a2 m => s_model_firstLapi_PrefixListJ G a0 a1 a2 m), okarg3 e_model_firstLapi_PrefixListJ⟩
/-! 160 waymark/model.ofPrefixes -/
noncomputable def s_model_ofPrefixes (G : Gt) (p0 : Value) (m : Mem) : Option Rs :=
  bp (some (aNew T_api_PrefixList (Value.cells p0).toList m)) fun x0 m =>
  bp (pur (aFieldAddr 0 x0) m) fun x1 m =>
  bp (pur (aLoad false 1 x1 m) m) fun x2 m =>
  some (x2, m)
theorem e_model_ofPrefixes (G : Gt) (a0 : Value) (m : Mem) : evFn Go.Proofs.Tryz.prog G.tab G.rds (drOf Go.Proofs.Tryz.prog G.tab) Go.Proofs.Tryz.f160 [a0] m = s_model_ofPrefixes G a0 m :=
  evFn_of (r := fun ρ m => s_model_ofPrefixes G (ρ 0) m) rfl rfl (fun ρ m => by kernel_rfl) m
noncomputable def E_model_ofPrefixes : Entry Go.Proofs.Tryz.prog := ⟨F_model_ofPrefixes, Go.Proofs.Tryz.f160, Go.Proofs.Tryz.func160, by kernel_rfl, arg1 (fun G a0 m => s_model_ofPrefixes G a0 m), okarg1 e_model_ofPrefixes⟩
/-! 161 waymark/model.entries -/
noncomputable def s_model_entries_1 (G : Gt) (p2 : Value) (m : Mem) : Option Rs :=
  some (p2, m)
noncomputable def s_model_entries_0 (G : Gt) (p0 : Value) (m : Mem) : Option Rs :=
  bp (pur (lenK 1 p0 m) m) fun x0 m =>
  bp (pur (bin .leq true true .int x0 (.int .i64 256)) m) fun x1 m =>
  brb x1
    (bp (G.tab F_slices_ContainsFuncLLJapi_EntryCapi_EntryJ [p0, (.func (.func F_model_entriesS1) #[] #[])] m) fun x2 m =>
  bp (pur (un .not x2) m) fun x3 m =>
  s_model_entries_1 G x3 m)
    (s_model_entries_1 G (.bool false) m)
noncomputable def s_model_entries (G : Gt) (p0 : Value) (m : Mem) : Option Rs :=
  s_model_entries_0 G p0 m
theorem e_model_entries (G : Gt) (a0 : Value) (m : Mem) : evFn Go.Proofs.Tryz.prog G.tab G.rds (drOf Go.Proofs.Tryz.prog G.tab) Go.Proofs.Tryz.f161 [a0] m = s_model_entries G a0 m :=
  evFn_of (r := fun ρ m => s_model_entries G (ρ 0) m) rfl rfl (tr (seqQ (f := fun ρ m => s_model_entries_0 G (ρ 0) m) (tr (seqQ (f := fun ρ m => s_model_entries_1 G (ρ 2) m) (fun ρ m => by kernel_rfl)) (fun ρ m => by kernel_rfl))) (fun ρ m => by kernel_rfl)) m
noncomputable def E_model_entries : Entry Go.Proofs.Tryz.prog := ⟨F_model_entries, Go.Proofs.Tryz.f161, Go.Proofs.Tryz.func161, by kernel_rfl, arg1 (fun G a0 m => s_model_entries G a0 m), okarg1 e_model_entries⟩
/-! 162 waymark/model.partsOf$7 -/
noncomputable def s_model_partsOfS7_1 (G : Gt) (p3 : Value) (m : Mem) : Option Rs :=
  some (p3, m)
noncomputable def s_model_partsOfS7_0 (G : Gt) (p1 p0 : Value) (m : Mem) : Option Rs :=
  bp (pur (aFieldAddr 8 p1) m) fun x0 m =>
  bp (pur (aLoad false 1 x0 m) m) fun x1 m =>
  bp (pur (aIndexAddrSl 2 x1 p0) m) fun x2 m =>
  bp (pur (aFieldAddr 0 x2) m) fun x3 m =>
  bp (pur (aLoad false 1 x3 m) m) fun x4 m =>
  bp (G.tab F_model_name [x4] m) fun x5 m =>
  brb x5
    (bp (pur (aFieldAddr 8 p1) m) fun x6 m =>
  bp (pur (aLoad false 1 x6 m) m) fun x7 m =>
  bp (G.tab F_model_firstLapi_CommunityListJ [x7, p0, (.func (.func F_model_ofCommunity) #[] #[])] m) fun x8 m =>
  brb x8
    (bp (pur (aFieldAddr 8 p1) m) fun x9 m =>
  bp (pur (aLoad false 1 x9 m) m) fun x10 m =>
  bp (pur (aIndexAddrSl 2 x10 p0) m) fun x11 m =>
  bp (pur (aFieldAddr 1 x11) m) fun x12 m =>
  bp (pur (aLoad false 1 x12 m) m) fun x13 m =>
  bp (G.tab F_model_members [x13] m) fun x14 m =>
  bp (G.tab F_model_fails [x14, (.bool true)] m) fun x15 m =>
  s_model_partsOfS7_1 G x15 m)
    (bp (G.tab F_model_fails [(.bool false), (.bool true)] m) fun x16 m =>
  s_model_partsOfS7_1 G x16 m))
    (bp (G.tab F_model_fails [(.bool false), (.bool true)] m) fun x17 m =>
  s_model_partsOfS7_1 G x17 m)
noncomputable def s_model_partsOfS7 (G : Gt) (p1 p0 : Value) (m : Mem) : Option Rs :=
  s_model_partsOfS7_0 G p1 p0 m
theorem e_model_partsOfS7 (G : Gt) (a0 a1 : Value) (m : Mem) : evFn Go.Proofs.Tryz.prog G.tab G.rds (drOf Go.Proofs.Tryz.prog G.tab) Go.Proofs.Tryz.f162 [a0, a1] m = s_model_partsOfS7 G a1 a0 m :=
  evFn_of (r := fun ρ m => s_model_partsOfS7 G (ρ 1) (ρ 0) m) rfl rfl (tr (seqQ (f := fun ρ m => s_model_partsOfS7_0 G (ρ 1) (ρ 0) m) (tr (seqQ (f := fun ρ m => s_model_partsOfS7_1 G (ρ 3) m) (fun ρ m => by kernel_rfl)) (fun ρ m => by kernel_rfl))) (fun ρ m => by kernel_rfl)) m
noncomputable def E_model_partsOfS7 : Entry Go.Proofs.Tryz.prog := ⟨F_model_partsOfS7, Go.Proofs.Tryz.f162, Go.Proofs.Tryz.func162, by kernel_rfl, arg2 (fun G a0 a1 m => s_model_partsOfS7 G a1 a0 m), okarg2 e_model_partsOfS7⟩
/-! 163 waymark/model.first[waymark/api.CommunityList] -/
noncomputable def s_model_firstLapi_CommunityListJ (G : Gt) (p0 p1 p2 : Value) (m : Mem) : Option Rs :=
  bp (some (aNew T_LJapi_CommunityList (Value.cells p0).toList m)) fun x0 m =>
  bp (some (aNew T_int (Value.cells p1).toList m)) fun x1 m =>
  bp (some (aNew T_funcapi_CommunityList_string (Value.cells p2).toList m)) fun x2 m =>
  bp (pur (aLoad false 1 x0 m) m) fun x3 m =>
  let x4 : Value := (.func (.func F_model_firstLapi_CommunityListJS1) ⟨[]⟩ ⟨[x2, x0, x1]⟩)
  bp (pur (aLoad false 1 x1 m) m) fun x5 m =>
  bp (G.tab F_slices_IndexFuncLLJapi_CommunityListCapi_CommunityListJ [x3, x4] m) fun x6 m =>
  ckB (again (pur (aLoad false 1 x1 m) m) x5 && true)
    (bp (pur (bin .eql false true .int x6 x5) m) fun x7 m =>
  some (x7, m))
theorem e_model_firstLapi_CommunityListJ (G : Gt) (a0 a1 a2 : Value) (m : Mem) : evFn Go.Proofs.Tryz.prog G.tab G.rds (drOf Go.Proofs.Tryz.prog G.tab) Go.Proofs.Tryz.f163 [a0, a1, a2] m = s_model_firstLapi_CommunityListJ G a0 a1 a2 m :=
  evFn_of (r := fun ρ m => s_model_firstLapi_CommunityListJ G (ρ 0) (ρ 1) (ρ 2) m) rfl rfl (fun ρ m => by kernel_rfl) m
noncomputable def E_model_firstLapi_CommunityListJ : Entry Go.Proofs.Tryz.prog := ⟨F_model_firstLapi_CommunityListJ, Go.Proofs.Tryz.f163, Go.Proofs.Tryz.func163, by kernel_rfl, arg3 (fun G a0 a1 a2 m => s_model_firstLapi_CommunityListJ G a0 a1 a2 m), okarg3 e_model_firstLapi_CommunityListJ⟩
/-! 164 waymark/model.ofCommunity -/
noncomputable def s_model_ofCommunity (G : Gt) (p0 : Value) (m : Mem) : Option Rs :=
  bp (some (aNew T_api_CommunityList (Value.cells p0).toList m)) fun x0 m =>
  bp (pur (aFieldAddr 0 x0) m) fun x1 m =>
  bp (pur (aLoad false 1 x1 m) m) fun x2 m =>
  some (x2, m)
theorem e_model_ofCommunity (G : Gt) (a0 : Value) (m : Mem) : evFn Go.Proofs.Tryz.prog G.tab G.rds (drOf Go.Proofs.Tryz.prog G.tab) Go.Proofs.Tryz.f164 [a0] m = s_model_ofCommunity G a0 m :=
  evFn_of (r := fun ρ m => s_model_ofCommunity G (ρ 0) m) rfl rfl (fun ρ m => by kernel_rfl) m
noncomputable def E_model_ofCommunity : Entry Go.Proofs.Tryz.prog := ⟨F_model_ofCommunity, Go.Proofs.Tryz.f164, Go.Proofs.Tryz.func164, by kernel_rfl, arg1 (fun G a0 m => s_model_ofCommunity G a0 m), okarg1 e_model_ofCommunity⟩
/-! 165 waymark/model.members -/
noncomputable def s_model_members_1 (G : Gt) (p2 : Value) (m : Mem) : Option Rs :=
  some (p2, m)
noncomputable def s_model_members_0 (G : Gt) (p0 : Value) (m : Mem) : Option Rs :=
  bp (pur (lenK 1 p0 m) m) fun x0 m =>
  bp (pur (bin .leq true true .int x0 (.int .i64 256)) m) fun x1 m =>
  brb x1
    (bp (G.tab F_slices_ContainsFuncLLJapi_MemberCapi_MemberJ [p0, (.func (.func F_model_membersS1) #[] #[])] m) fun x2 m =>
  bp (pur (un .not x2) m) fun x3 m =>
  s_model_members_1 G x3 m)
    (s_model_members_1 G (.bool false) m)
noncomputable def s_model_members (G : Gt) (p0 : Value) (m : Mem) : Option Rs :=
  s_model_members_0 G p0 m
theorem e_model_members (G : Gt) (a0 : Value) (m : Mem) : evFn Go.Proofs.Tryz.prog G.tab G.rds (drOf Go.Proofs.Tryz.prog G.tab) Go.Proofs.Tryz.f165 [a0] m = s_model_members G a0 m :=
  evFn_of (r := fun ρ m => s_model_members G (ρ 0) m) rfl rfl (tr (seqQ (f := fun ρ m => s_model_members_0 G (ρ 0) m) (tr (seqQ (f := fun ρ m => s_model_members_1 G (ρ 2) m) (fun ρ m => by kernel_rfl)) (fun ρ m => by kernel_rfl))) (fun ρ m => by kernel_rfl)) m
noncomputable def E_model_members : Entry Go.Proofs.Tryz.prog := ⟨F_model_members, Go.Proofs.Tryz.f165, Go.Proofs.Tryz.func165, by kernel_rfl, arg1 (fun G a0 m => s_model_members G a0 m), okarg1 e_model_members⟩
/-! 166 waymark/model.partsOf$8 -/
noncomputable def s_model_partsOfS8_2 (G : Gt) (p4 : Value) (m : Mem) : Option Rs :=
  some (p4, m)
noncomputable def s_model_partsOfS8_1 (G : Gt) (p2 p0 p5 p6 : Value) (m : Mem) : Option Rs :=
  bp (pur (aFieldAddr 9 p2) m) fun x0 m =>
  bp (pur (aLoad false 1 x0 m) m) fun x1 m =>
  bp (pur (aIndexAddrSl 3 x1 p0) m) fun x2 m =>
  bp (pur (aFieldAddr 0 x2) m) fun x3 m =>
  bp (pur (aLoad false 1 x3 m) m) fun x4 m =>
  bp (G.tab F_model_name [x4] m) fun x5 m =>
  brb x5
    (bp (pur (aFieldAddr 9 p2) m) fun x6 m =>
  bp (pur (aLoad false 1 x6 m) m) fun x7 m =>
  bp (G.tab F_model_firstLapi_PolicyJ [x7, p0, (.func (.func F_model_ofPolicy) #[] #[])] m) fun x8 m =>
  brb x8
    (bp (G.tab F_model_fails [p5, p6] m) fun x9 m =>
  s_model_partsOfS8_2 G x9 m)
    (bp (G.tab F_model_fails [(.bool false), p6] m) fun x10 m =>
  s_model_partsOfS8_2 G x10 m))
    (bp (G.tab F_model_fails [(.bool false), p6] m) fun x11 m =>
  s_model_partsOfS8_2 G x11 m)
noncomputable def s_model_partsOfS8_0 (G : Gt) (p1 p2 p0 : Value) (m : Mem) : Option Rs :=
  bp (pur (aLoad true 5 p1 m) m) fun x12 m =>
  bp (pur (aFieldAddr 9 p2) m) fun x13 m =>
  bp (pur (aLoad false 1 x13 m) m) fun x14 m =>
  bp (pur (aIndexAddrSl 3 x14 p0) m) fun x15 m =>
  bp (pur (aFieldAddr 1 x15) m) fun x16 m =>
  bp (pur (aLoad false 1 x16 m) m) fun x17 m =>
  bp (G.tab F_model_book_clauses [x12, x17] m) fun x18 m =>
  bp (pur (aExtract x18 0) m) fun x19 m =>
  bp (pur (aExtract x18 1) m) fun x20 m =>
  s_model_partsOfS8_1 G p2 p0 x19 x20 m
noncomputable def s_model_partsOfS8 (G : Gt) (p1 p2 p0 : Value) (m : Mem) : Option Rs :=
  s_model_partsOfS8_0 G p1 p2 p0 m
theorem e_model_partsOfS8 (G : Gt) (a0 a1 a2 : Value) (m : Mem) : evFn Go.Proofs.Tryz.prog G.tab G.rds (drOf Go.Proofs.Tryz.prog G.tab) Go.Proofs.Tryz.f166 [a0, a1, a2] m = s_model_partsOfS8 G a1 a2 a0 m :=
  evFn_of (r := fun ρ m => s_model_partsOfS8 G (ρ 1) (ρ 2) (ρ 0) m) rfl rfl (tr (seqQ (f := fun ρ m => s_model_partsOfS8_0 G (ρ 1) (ρ 2) (ρ 0) m) (tr (seqQ (f := fun ρ m => s_model_partsOfS8_1 G (ρ 2) (ρ 0) (ρ 5) (ρ 6) m) (tr (seqQ (f := fun ρ m => s_model_partsOfS8_2 G (ρ 4) m) (fun ρ m => by kernel_rfl)) (fun ρ m => by kernel_rfl))) (fun ρ m => by kernel_rfl))) (fun ρ m => by kernel_rfl)) m
noncomputable def E_model_partsOfS8 : Entry Go.Proofs.Tryz.prog := ⟨F_model_partsOfS8, Go.Proofs.Tryz.f166, Go.Proofs.Tryz.func166, by kernel_rfl, arg3 (fun G a0 a1 a2 m => s_model_partsOfS8 G a1 a2 a0 m), okarg3 e_model_partsOfS8⟩
end Go.Ab.Sh
