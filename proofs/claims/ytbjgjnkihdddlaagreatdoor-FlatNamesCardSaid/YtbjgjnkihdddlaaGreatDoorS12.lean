/-
  Functions of the program as plain definitions, each with the theorem that it is what the evaluator makes of the code. No conditions.
-/
import Derived.Test.YtbjgjnkihdddlaaGreatDoorAb4
import Derived.Test.YtbjgjnkihdddlaaGreatDoorZ
import Derived.KernelRfl
import Derived.Test.YtbjgjnkihdddlaaGreatDoorProg
set_option linter.unusedVariables false
set_option maxRecDepth 100000
namespace Go.Ab.Sh
open Go Go.Ab
/-! 199 waymark/model.count[waymark/api.PrefixList] -/
noncomputable def s_model_countLapi_PrefixListJ_2 (G : Gt) (p5 : Value) (m : Mem) : Option Rs :=
  some (p5, m)
noncomputable def s_model_countLapi_PrefixListJ_4 (G : Gt) : Nat → Value → Value → Value → Value → Value → Mem → Option Rs
  | 0, _, _, _, _, _, _ => none
  | i + 1, p11, p10, p9, p5, p1, m =>
  bp (pur (bin .lss false true .int p11 p10) m) fun x0 m =>
  brb x0
    (bp (pur (aIndexAddrSl 2 p9 p11) m) fun x1 m =>
  bp (pur (aLoad true 2 x1 m) m) fun x2 m =>
  bp (some (aNew T_api_PrefixList z_api_PrefixList m)) fun x3 m =>
  bp (unt (aStore 2 x3 x2 m)) fun _ m =>
  bp (pur (aLoad true 2 x3 m) m) fun x4 m =>
  bp (evCall G.tab p1 [x4] m) fun x5 m =>
  bp (pur (aLookup .str (.int .i64 0) false p5 x5 m) m) fun x6 m =>
  bp (pur (bin .add true true .int x6 (.int .i64 1)) m) fun x7 m =>
  bp (unt (aMapUpdate .str p5 x5 x7 m)) fun _ m =>
  bp (pur (bin .add true true .int p11 (.int .i64 1)) m) fun x8 m =>
  (s_model_countLapi_PrefixListJ_4 G i) x8 p10 p9 p5 p1 m)
    (s_model_countLapi_PrefixListJ_2 G p5 m)
noncomputable def s_model_countLapi_PrefixListJ_3 (G : Gt) (p11 p10 p9 p5 p1 : Value) (m : Mem) : Option Rs :=
  s_model_countLapi_PrefixListJ_4 G G.rds p11 p10 p9 p5 p1 m
noncomputable def s_model_countLapi_PrefixListJ_1 (G : Gt) (p0 p5 p1 : Value) (m : Mem) : Option Rs :=
  bp (pur (lenK 1 p0 m) m) fun x9 m =>
  s_model_countLapi_PrefixListJ_3 G (.int .i64 0) x9 p0 p5 p1 m
noncomputable def s_model_countLapi_PrefixListJ_0 (G : Gt) (p0 p1 : Value) (m : Mem) : Option Rs :=
  bp (some (aMakeMap m)) fun x10 m =>
  s_model_countLapi_PrefixListJ_1 G p0 x10 p1 m
noncomputable def s_model_countLapi_PrefixListJ (G : Gt) (p0 p1 : Value) (m : Mem) : Option Rs :=
  s_model_countLapi_PrefixListJ_0 G p0 p1 m
theorem e_model_countLapi_PrefixListJ (G : Gt) (a0 a1 : Value) (m : Mem) : evFn Go.Proofs.Tryz.prog G.tab G.rds (drOf Go.Proofs.Tryz.prog G.tab) Go.Proofs.Tryz.f199 [a0, a1] m = s_model_countLapi_PrefixListJ G a0 a1 m :=
  evFn_of (r := fun ρ m => s_model_countLapi_PrefixListJ G (ρ 0) (ρ 1) m) rfl rfl (tr (seqQ (f := fun ρ m => s_model_countLapi_PrefixListJ_0 G (ρ 0) (ρ 1) m) (tr (seqQ (f := fun ρ m => s_model_countLapi_PrefixListJ_1 G (ρ 0) (ρ 5) (ρ 1) m) (tr (tr (seqQ (f := fun ρ m => s_model_countLapi_PrefixListJ_2 G (ρ 5) m) (fun ρ m => by kernel_rfl)) (seqQ (f := fun ρ m => s_model_countLapi_PrefixListJ_3 G (ρ 11) (ρ 10) (ρ 9) (ρ 5) (ρ 1) m) (tr (blockQ (loopQ (fun i ρ m => s_model_countLapi_PrefixListJ_4 G i (ρ 11) (ρ 10) (ρ 9) (ρ 5) (ρ 1) m) (fun _ _ => rfl) (fun i0 => fun ρ m => by kernel_rfl))) (fun ρ m => by kernel_rfl)))) (fun ρ m => by kernel_rfl))) (fun ρ m => by kernel_rfl))) (fun ρ m => by kernel_rfl)) m
noncomputable def E_model_countLapi_PrefixListJ : Entry Go.Proofs.Tryz.prog := ⟨F_model_countLapi_PrefixListJ, Go.Proofs.Tryz.f199, Go.Proofs.Tryz.func199, by kernel_rfl, arg2 (fun G a0 a1 m => s_model_countLapi_PrefixListJ G a0 a1 m), okarg2 e_model_countLapi_PrefixListJ⟩
/-! 200 waymark/model.count[waymark/api.CommunityList] -/
noncomputable def s_model_countLapi_CommunityListJ_2 (G : Gt) (p5 : Value) (m : Mem) : Option Rs :=
  some (p5, m)
noncomputable def s_model_countLapi_CommunityListJ_4 (G : Gt) : Nat → Value → Value → Value → Value → Value → Mem → Option Rs
  | 0, _, _, _, _, _, _ => none
  | i + 1, p11, p10, p9, p5, p1, m =>
  bp (pur (bin .lss false true .int p11 p10) m) fun x0 m =>
  brb x0
    (bp (pur (aIndexAddrSl 2 p9 p11) m) fun x1 m =>
  bp (pur (aLoad true 2 x1 m) m) fun x2 m =>
  bp (some (aNew T_api_CommunityList z_api_CommunityList m)) fun x3 m =>
  bp (unt (aStore 2 x3 x2 m)) fun _ m =>
  bp (pur (aLoad true 2 x3 m) m) fun x4 m =>
  bp (evCall G.tab p1 [x4] m) fun x5 m =>
  bp (pur (aLookup .str (.int .i64 0) false p5 x5 m) m) fun x6 m =>
  bp (pur (bin .add true true .int x6 (.int .i64 1)) m) fun x7 m =>
  bp (unt (aMapUpdate .str p5 x5 x7 m)) fun _ m =>
  bp (pur (bin .add true true .int p11 (.int .i64 1)) m) fun x8 m =>
  (s_model_countLapi_CommunityListJ_4 G i) x8 p10 p9 p5 p1 m)
    (s_model_countLapi_CommunityListJ_2 G p5 m)
noncomputable def s_model_countLapi_CommunityListJ_3 (G : Gt) (p11 p10 p9 p5 p1 : Value) (m : Mem) : Option Rs :=
  s_model_countLapi_CommunityListJ_4 G G.rds p11 p10 p9 p5 p1 m
noncomputable def s_model_countLapi_CommunityListJ_1 (G : Gt) (p0 p5 p1 : Value) (m : Mem) : Option Rs :=
  bp (pur (lenK 1 p0 m) m) fun x9 m =>
  s_model_countLapi_CommunityListJ_3 G (.int .i64 0) x9 p0 p5 p1 m
noncomputable def s_model_countLapi_CommunityListJ_0 (G : Gt) (p0 p1 : Value) (m : Mem) : Option Rs :=
  bp (some (aMakeMap m)) fun x10 m =>
  s_model_countLapi_CommunityListJ_1 G p0 x10 p1 m
noncomputable def s_model_countLapi_CommunityListJ (G : Gt) (p0 p1 : Value) (m : Mem) : Option Rs :=
  s_model_countLapi_CommunityListJ_0 G p0 p1 m
theorem e_model_countLapi_CommunityListJ (G : Gt) (a0 a1 : Value) (m : Mem) : evFn Go.Proofs.Tryz.prog G.tab G.rds (drOf Go.Proofs.Tryz.prog G.tab) Go.Proofs.Tryz.f200 [a0, a1] m = s_model_countLapi_CommunityListJ G a0 a1 m :=
  evFn_of (r := fun ρ m => s_model_countLapi_CommunityListJ G (ρ 0) (ρ 1) m) rfl rfl (tr (seqQ (f := fun ρ m => s_model_countLapi_CommunityListJ_0 G (ρ 0) (ρ 1) m) (tr (seqQ (f := fun ρ m => s_model_countLapi_CommunityListJ_1 G (ρ 0) (ρ 5) (ρ 1) m) (tr (tr (seqQ (f := fun ρ m => s_model_countLapi_CommunityListJ_2 G (ρ 5) m) (fun ρ m => by kernel_rfl)) (seqQ (f := fun ρ m => s_model_countLapi_CommunityListJ_3 G (ρ 11) (ρ 10) (ρ 9) (ρ 5) (ρ 1) m) (tr (blockQ (loopQ (fun i ρ m => s_model_countLapi_CommunityListJ_4 G i (ρ 11) (ρ 10) (ρ 9) (ρ 5) (ρ 1) m) (fun _ _ => rfl) (fun i0 => fun ρ m => by kernel_rfl))) (fun ρ m => by kernel_rfl)))) (fun ρ m => by kernel_rfl))) (fun ρ m => by kernel_rfl))) (fun ρ m => by kernel_rfl)) m
noncomputable def E_model_countLapi_CommunityListJ : Entry Go.Proofs.Tryz.prog := ⟨F_model_countLapi_CommunityListJ, Go.Proofs.Tryz.f200, Go.Proofs.Tryz.func200, by kernel_rfl, arg2 (fun G a0 a1 m => s_model_countLapi_CommunityListJ G a0 a1 m), okarg2 e_model_countLapi_CommunityListJ⟩
/-! 201 waymark/model.count[waymark/api.Policy] -/
noncomputable def s_model_countLapi_PolicyJ_2 (G : Gt) (p5 : Value) (m : Mem) : Option Rs :=
  some (p5, m)
noncomputable def s_model_countLapi_PolicyJ_4 (G : Gt) : Nat → Value → Value → Value → Value → Value → Mem → Option Rs
  | 0, _, _, _, _, _, _ => none
  | i + 1, p11, p10, p9, p5, p1, m =>
  bp (pur (bin .lss false true .int p11 p10) m) fun x0 m =>
  brb x0
    (bp (pur (aIndexAddrSl 3 p9 p11) m) fun x1 m =>
  bp (pur (aLoad true 3 x1 m) m) fun x2 m =>
  bp (some (aNew T_api_Policy z_api_Policy m)) fun x3 m =>
  bp (unt (aStore 3 x3 x2 m)) fun _ m =>
  bp (pur (aLoad true 3 x3 m) m) fun x4 m =>
  bp (evCall G.tab p1 [x4] m) fun x5 m =>
  bp (pur (aLookup .str (.int .i64 0) false p5 x5 m) m) fun x6 m =>
  bp (pur (bin .add true true .int x6 (.int .i64 1)) m) fun x7 m =>
  bp (unt (aMapUpdate .str p5 x5 x7 m)) fun _ m =>
  bp (pur (bin .add true true .int p11 (.int .i64 1)) m) fun x8 m =>
  (s_model_countLapi_PolicyJ_4 G i) x8 p10 p9 p5 p1 m)
    (s_model_countLapi_PolicyJ_2 G p5 m)
noncomputable def s_model_countLapi_PolicyJ_3 (G : Gt) (p11 p10 p9 p5 p1 : Value) (m : Mem) : Option Rs :=
  s_model_countLapi_PolicyJ_4 G G.rds p11 p10 p9 p5 p1 m
noncomputable def s_model_countLapi_PolicyJ_1 (G : Gt) (p0 p5 p1 : Value) (m : Mem) : Option Rs :=
  bp (pur (lenK 1 p0 m) m) fun x9 m =>
  s_model_countLapi_PolicyJ_3 G (.int .i64 0) x9 p0 p5 p1 m
noncomputable def s_model_countLapi_PolicyJ_0 (G : Gt) (p0 p1 : Value) (m : Mem) : Option Rs :=
  bp (some (aMakeMap m)) fun x10 m =>
  s_model_countLapi_PolicyJ_1 G p0 x10 p1 m
noncomputable def s_model_countLapi_PolicyJ (G : Gt) (p0 p1 : Value) (m : Mem) : Option Rs :=
  s_model_countLapi_PolicyJ_0 G p0 p1 m
theorem e_model_countLapi_PolicyJ (G : Gt) (a0 a1 : Value) (m : Mem) : evFn Go.Proofs.Tryz.prog G.tab G.rds (drOf Go.Proofs.Tryz.prog G.tab) Go.Proofs.Tryz.f201 [a0, a1] m = s_model_countLapi_PolicyJ G a0 a1 m :=
  evFn_of (r := fun ρ m => s_model_countLapi_PolicyJ G (ρ 0) (ρ 1) m) rfl rfl (tr (seqQ (f := fun ρ m => s_model_countLapi_PolicyJ_0 G (ρ 0) (ρ 1) m) (tr (seqQ (f := fun ρ m => s_model_countLapi_PolicyJ_1 G (ρ 0) (ρ 5) (ρ 1) m) (tr (tr (seqQ (f := fun ρ m => s_model_countLapi_PolicyJ_2 G (ρ 5) m) (fun ρ m => by kernel_rfl)) (seqQ (f := fun ρ m => s_model_countLapi_PolicyJ_3 G (ρ 11) (ρ 10) (ρ 9) (ρ 5) (ρ 1) m) (tr (blockQ (loopQ (fun i ρ m => s_model_countLapi_PolicyJ_4 G i (ρ 11) (ρ 10) (ρ 9) (ρ 5) (ρ 1) m) (fun _ _ => rfl) (fun i0 => fun ρ m => by kernel_rfl))) (fun ρ m => by kernel_rfl)))) (fun ρ m => by kernel_rfl))) (fun ρ m => by kernel_rfl))) (fun ρ m => by kernel_rfl)) m
noncomputable def E_model_countLapi_PolicyJ : Entry Go.Proofs.Tryz.prog := ⟨F_model_countLapi_PolicyJ, Go.Proofs.Tryz.f201, Go.Proofs.Tryz.func201, by kernel_rfl, arg2 (fun G a0 a1 m => s_model_countLapi_PolicyJ G a0 a1 m), okarg2 e_model_countLapi_PolicyJ⟩
/-! 202 slices.IndexFunc[[]string,string] -/
noncomputable def s_slices_IndexFuncLLJstringCstringJ_1 (G : Gt) (m : Mem) : Option Rs :=
  some ((.int .i64 (-1)), m)
noncomputable def s_slices_IndexFuncLLJstringCstringJ_3 (G : Gt) : Nat → Value → Value → Value → Value → Mem → Option Rs
  | 0, _, _, _, _, _ => none
  | i + 1, p8, p7, p1, p0, m =>
  bp (pur (bin .lss false true .int p8 p7) m) fun x0 m =>
  brb x0
    (bp (pur (aIndexAddrSl 1 p0 p8) m) fun x1 m =>
  bp (pur (aLoad false 1 x1 m) m) fun x2 m =>
  bp (evCall G.tab p1 [x2] m) fun x3 m =>
  brb x3
    (some (p8, m))
    (bp (pur (bin .add true true .int p8 (.int .i64 1)) m) fun x4 m =>
  (s_slices_IndexFuncLLJstringCstringJ_3 G i) x4 p7 p1 p0 m))
    (s_slices_IndexFuncLLJstringCstringJ_1 G m)
noncomputable def s_slices_IndexFuncLLJstringCstringJ_2 (G : Gt) (p8 p7 p1 p0 : Value) (m : Mem) : Option Rs :=
  s_slices_IndexFuncLLJstringCstringJ_3 G G.rds p8 p7 p1 p0 m
noncomputable def s_slices_IndexFuncLLJstringCstringJ_0 (G : Gt) (p0 p1 : Value) (m : Mem) : Option Rs :=
  bp (pur (lenK 1 p0 m) m) fun x5 m =>
  s_slices_IndexFuncLLJstringCstringJ_2 G (.int .i64 0) x5 p1 p0 m
noncomputable def s_slices_IndexFuncLLJstringCstringJ (G : Gt) (p0 p1 : Value) (m : Mem) : Option Rs :=
  s_slices_IndexFuncLLJstringCstringJ_0 G p0 p1 m
theorem e_slices_IndexFuncLLJstringCstringJ (G : Gt) (a0 a1 : Value) (m : Mem) : evFn Go.Proofs.Tryz.prog G.tab G.rds (drOf Go.Proofs.Tryz.prog G.tab) Go.Proofs.Tryz.f202 [a0, a1] m = s_slices_IndexFuncLLJstringCstringJ G a0 a1 m :=
  evFn_of (r := fun ρ m => s_slices_IndexFuncLLJstringCstringJ G (ρ 0) (ρ 1) m) rfl rfl (tr (seqQ (f := fun ρ m => s_slices_IndexFuncLLJstringCstringJ_0 G (ρ 0) (ρ 1) m) (tr (tr (seqQ (f := fun ρ m => s_slices_IndexFuncLLJstringCstringJ_1 G m) (fun ρ m => by kernel_rfl)) (seqQ (f := fun ρ m => s_slices_IndexFuncLLJstringCstringJ_2 G (ρ 8) (ρ 7) (ρ 1) (ρ 0) m) (tr (blockQ (loopQ (fun i ρ m => s_slices_IndexFuncLLJstringCstringJ_3 G i (ρ 8) (ρ 7) (ρ 1) (ρ 0) m) (fun _ _ => rfl) (fun i0 => fun ρ m => by kernel_rfl))) (fun ρ m => by kernel_rfl)))) (fun ρ m => by kernel_rfl))) (fun ρ m => by kernel_rfl)) m
noncomputable def E_slices_IndexFuncLLJstringCstringJ : Entry Go.Proofs.Tryz.prog := ⟨F_slices_IndexFuncLLJstringCstringJ, Go.Proofs.Tryz.f202, Go.Proofs.Tryz.func202, by kernel_rfl, arg2 (fun G a0 a1 m => s_slices_IndexFuncLLJstringCstringJ G a0 a1 m), okarg2 e_slices_IndexFuncLLJstringCstringJ⟩
/-! 203 waymark/model.first[string]$1 -/
noncomputable def s_model_firstLstringJS1 (G : Gt) (p1 p0 p2 p3 : Value) (m : Mem) : Option Rs :=
  bp (pur (aLoad false 1 p1 m) m) fun x0 m =>
  bp (pur (aLoad false 1 p1 m) m) fun x1 m =>
  bp (pur (aLoad false 1 p2 m) m) fun x2 m =>
  bp (pur (aLoad false 1 p3 m) m) fun x3 m =>
  bp (pur (aIndexAddrSl 1 x2 x3) m) fun x4 m =>
  bp (pur (aLoad false 1 x4 m) m) fun x5 m =>
  bp (evCall G.tab x0 [p0] m) fun x6 m =>
  ckB (again (pur (aLoad false 1 p1 m) m) x1 && (again (pur (aLoad false 1 p2 m) m) x2 && (again (pur (aLoad false 1 p3 m) m) x3 && (again (pur (aLoad false 1 x4 m) m) x5 && true))))
    (bp (evCall G.tab x1 [x5] m) fun x7 m =>
  bp (pur (bin .eql false true .str x6 x7) m) fun x8 m =>
  some (x8, m))
theorem e_model_firstLstringJS1 (G : Gt) (a0 a1 a2 a3 : Value) (m : Mem) : evFn Go.Proofs.Tryz.prog G.tab G.rds (drOf Go.Proofs.Tryz.prog G.tab) Go.Proofs.Tryz.f203 [a0, a1, a2, a3] m = s_model_firstLstringJS1 G a1 a0 a2 a3 m :=
  evFn_of (r := fun ρ m => s_model_firstLstringJS1 G (ρ 1) (ρ 0) (ρ 2) (ρ 3) m) rfl rfl (fun ρ m => by kernel_rfl) m
noncomputable def E_model_firstLstringJS1 : Entry Go.Proofs.Tryz.prog := ⟨F_model_firstLstringJS1, Go.Proofs.Tryz.f203, Go.Proofs.Tryz.func203, by kernel_rfl, arg4 (fun G a0 a1 a2 a3 m => s_model_firstLstringJS1 G a1 a0 a2 a3 m), okarg4 e_model_firstLstringJS1⟩
/-! 204 waymark/model.within -/
noncomputable def s_model_within_1 (G : Gt) (p6 : Value) (m : Mem) : Option Rs :=
  some (p6, m)
noncomputable def s_model_within_0 (G : Gt) (p1 p0 p2 : Value) (m : Mem) : Option Rs :=
  bp (pur (bin .leq false true .int p1 p0) m) fun x0 m =>
  brb x0
    (bp (pur (bin .leq false true .int p0 p2) m) fun x1 m =>
  s_model_within_1 G x1 m)
    (s_model_within_1 G (.bool false) m)
noncomputable def s_model_within (G : Gt) (p1 p0 p2 : Value) (m : Mem) : Option Rs :=
  s_model_within_0 G p1 p0 p2 m
theorem e_model_within (G : Gt) (a0 a1 a2 : Value) (m : Mem) : evFn Go.Proofs.Tryz.prog G.tab G.rds (drOf Go.Proofs.Tryz.prog G.tab) Go.Proofs.Tryz.f204 [a0, a1, a2] m = s_model_within G a1 a0 a2 m :=
  evFn_of (r := fun ρ m => s_model_within G (ρ 1) (ρ 0) (ρ 2) m) rfl rfl (tr (seqQ (f := fun ρ m => s_model_within_0 G (ρ 1) (ρ 0) (ρ 2) m) (tr (seqQ (f := fun ρ m => s_model_within_1 G (ρ 6) m) (fun ρ m => by kernel_rfl)) (fun ρ m => by kernel_rfl))) (fun ρ m => by kernel_rfl)) m
noncomputable def E_model_within : Entry Go.Proofs.Tryz.prog := ⟨F_model_within, Go.Proofs.Tryz.f204, Go.Proofs.Tryz.func204, by kernel_rfl, arg3 (fun G a0 a1 a2 m => s_model_within G a1 a0 a2 m), okarg3 e_model_within⟩
/-! 205 waymark/model.first[waymark/api.Iface] -/
noncomputable def s_model_firstLapi_IfaceJ (G : Gt) (p0 p1 p2 : Value) (m : Mem) : Option Rs :=
  bp (some (aNew T_LJapi_Iface (Value.cells p0).toList m)) fun x0 m =>
  bp (some (aNew T_int (Value.cells p1).toList m)) fun x1 m =>
  bp (some (aNew T_funcapi_Iface_string (Value.cells p2).toList m)) fun x2 m =>
  bp (pur (aLoad false 1 x0 m) m) fun x3 m =>
  let x4 : Value := (.func (.func F_model_firstLapi_IfaceJS1) ⟨[]⟩ ⟨[x2, x0, x1]⟩)
  bp (pur (aLoad false 1 x1 m) m) fun x5 m =>
  bp (G.tab F_slices_IndexFuncLLJapi_IfaceCapi_IfaceJ [x3, x4] m) fun x6 m =>
  ckB (again (pur (aLoad false 1 x1 m) m) x5 && true)
    (bp (pur (bin .eql false true .int x6 x5) m) fun x7 m =>
  some (x7, m))
theorem e_model_firstLapi_IfaceJ (G : Gt) (a0 a1 a2 : Value) (m : Mem) : evFn Go.Proofs.Tryz.prog G.tab G.rds (drOf Go.Proofs.Tryz.prog G.tab) Go.Proofs.Tryz.f205 [a0, a1, a2] m = s_model_firstLapi_IfaceJ G a0 a1 a2 m :=
  evFn_of (r := fun ρ m => s_model_firstLapi_IfaceJ G (ρ 0) (ρ 1) (ρ 2) m) rfl rfl (fun ρ m => by kernel_rfl) m
noncomputable def E_model_firstLapi_IfaceJ : Entry Go.Proofs.Tryz.prog := ⟨F_model_firstLapi_IfaceJ, Go.Proofs.Tryz.f205, Go.Proofs.Tryz.func205, by kernel_rfl, arg3 (fun G a0 a1 a2 m => s_model_firstLapi_IfaceJ G a0 a1 a2 m), okarg3 e_model_firstLapi_IfaceJ⟩
/-! 206 waymark/model.ofIface -/
noncomputable def s_model_ofIface (G : Gt) (p0 : Value) (m : Mem) : Option Rs :=
  bp (some (aNew T_api_Iface (Value.cells p0).toList m)) fun x0 m =>
  bp (pur (aFieldAddr 0 x0) m) fun x1 m =>
  bp (pur (aLoad false 1 x1 m) m) fun x2 m =>
  some (x2, m)
theorem e_model_ofIface (G : Gt) (a0 : Value) (m : Mem) : evFn Go.Proofs.Tryz.prog G.tab G.rds (drOf Go.Proofs.Tryz.prog G.tab) Go.Proofs.Tryz.f206 [a0] m = s_model_ofIface G a0 m :=
  evFn_of (r := fun ρ m => s_model_ofIface G (ρ 0) m) rfl rfl (fun ρ m => by kernel_rfl) m
noncomputable def E_model_ofIface : Entry Go.Proofs.Tryz.prog := ⟨F_model_ofIface, Go.Proofs.Tryz.f206, Go.Proofs.Tryz.func206, by kernel_rfl, arg1 (fun G a0 m => s_model_ofIface G a0 m), okarg1 e_model_ofIface⟩
/-! 207 slices.IndexFunc[[]waymark/api.Filter,waymark/api.Filter] -/
noncomputable def s_slices_IndexFuncLLJapi_FilterCapi_FilterJ_1 (G : Gt) (m : Mem) : Option Rs :=
  some ((.int .i64 (-1)), m)
noncomputable def s_slices_IndexFuncLLJapi_FilterCapi_FilterJ_3 (G : Gt) : Nat → Value → Value → Value → Value → Mem → Option Rs
  | 0, _, _, _, _, _ => none
  | i + 1, p8, p7, p1, p0, m =>
  bp (pur (bin .lss false true .int p8 p7) m) fun x0 m =>
  brb x0
    (bp (pur (aIndexAddrSl 2 p0 p8) m) fun x1 m =>
  bp (pur (aLoad true 2 x1 m) m) fun x2 m =>
  bp (evCall G.tab p1 [x2] m) fun x3 m =>
  brb x3
    (some (p8, m))
    (bp (pur (bin .add true true .int p8 (.int .i64 1)) m) fun x4 m =>
  (s_slices_IndexFuncLLJapi_FilterCapi_FilterJ_3 G i) x4 p7 p1 p0 m))
    (s_slices_IndexFuncLLJapi_FilterCapi_FilterJ_1 G m)
noncomputable def s_slices_IndexFuncLLJapi_FilterCapi_FilterJ_2 (G : Gt) (p8 p7 p1 p0 : Value) (m : Mem) : Option Rs :=
  s_slices_IndexFuncLLJapi_FilterCapi_FilterJ_3 G G.rds p8 p7 p1 p0 m
noncomputable def s_slices_IndexFuncLLJapi_FilterCapi_FilterJ_0 (G : Gt) (p0 p1 : Value) (m : Mem) : Option Rs :=
  bp (pur (lenK 1 p0 m) m) fun x5 m =>
  s_slices_IndexFuncLLJapi_FilterCapi_FilterJ_2 G (.int .i64 0) x5 p1 p0 m
noncomputable def s_slices_IndexFuncLLJapi_FilterCapi_FilterJ (G : Gt) (p0 p1 : Value) (m : Mem) : Option Rs :=
  s_slices_IndexFuncLLJapi_FilterCapi_FilterJ_0 G p0 p1 m
theorem e_slices_IndexFuncLLJapi_FilterCapi_FilterJ (G : Gt) (a0 a1 : Value) (m : Mem) : evFn Go.Proofs.Tryz.prog G.tab G.rds (drOf Go.Proofs.Tryz.prog G.tab) Go.Proofs.Tryz.f207 [a0, a1] m = s_slices_IndexFuncLLJapi_FilterCapi_FilterJ G a0 a1 m :=
  evFn_of (r := fun ρ m => s_slices_IndexFuncLLJapi_FilterCapi_FilterJ G (ρ 0) (ρ 1) m) rfl rfl (tr (seqQ (f := fun ρ m => s_slices_IndexFuncLLJapi_FilterCapi_FilterJ_0 G (ρ 0) (ρ 1) m) (tr (tr (seqQ (f := fun ρ m => s_slices_IndexFuncLLJapi_FilterCapi_FilterJ_1 G m) (fun ρ m => by kernel_rfl)) (seqQ (f := fun ρ m => s_slices_IndexFuncLLJapi_FilterCapi_FilterJ_2 G (ρ 8) (ρ 7) (ρ 1) (ρ 0) m) (tr (blockQ (loopQ (fun i ρ m => s_slices_IndexFuncLLJapi_FilterCapi_FilterJ_3 G i (ρ 8) (ρ 7) (ρ 1) (ρ 0) m) (fun _ _ => rfl) (fun i0 => fun ρ m => by kernel_rfl))) (fun ρ m => by kernel_rfl)))) (fun ρ m => by kernel_rfl))) (fun ρ m => by kernel_rfl)) m
noncomputable def E_slices_IndexFuncLLJapi_FilterCapi_FilterJ : Entry Go.Proofs.Tryz.prog := ⟨F_slices_IndexFuncLLJapi_FilterCapi_FilterJ, Go.Proofs.Tryz.f207, Go.Proofs.Tryz.func207, by kernel_rfl, arg2 (fun G a0 a1 m => s_slices_IndexFuncLLJapi_FilterCapi_FilterJ G a0 a1 m), okarg2 e_slices_IndexFuncLLJapi_FilterCapi_FilterJ⟩
/-! 208 waymark/model.first[waymark/api.Filter]$1 -/
noncomputable def s_model_firstLapi_FilterJS1 (G : Gt) (p0 p1 p2 p3 : Value) (m : Mem) : Option Rs :=
  bp (some (aNew T_api_Filter (Value.cells p0).toList m)) fun x0 m =>
  bp (pur (aLoad false 1 p1 m) m) fun x1 m =>
  bp (pur (aLoad true 2 x0 m) m) fun x2 m =>
  bp (pur (aLoad false 1 p1 m) m) fun x3 m =>
  bp (pur (aLoad false 1 p2 m) m) fun x4 m =>
  bp (pur (aLoad false 1 p3 m) m) fun x5 m =>
  bp (pur (aIndexAddrSl 2 x4 x5) m) fun x6 m =>
  bp (pur (aLoad true 2 x6 m) m) fun x7 m =>
  bp (evCall G.tab x1 [x2] m) fun x8 m =>
  ckB (again (pur (aLoad false 1 p1 m) m) x3 && (again (pur (aLoad false 1 p2 m) m) x4 && (again (pur (aLoad false 1 p3 m) m) x5 && (again (pur (aLoad true 2 x6 m) m) x7 && true))))
    (bp (evCall G.tab x3 [x7] m) fun x9 m =>
  bp (pur (bin .eql false true .str x8 x9) m) fun x10 m =>
  some (x10, m))
theorem e_model_firstLapi_FilterJS1 (G : Gt) (a0 a1 a2 a3 : Value) (m : Mem) : evFn Go.Proofs.Tryz.prog G.tab G.rds (drOf Go.Proofs.Tryz.prog G.tab) Go.Proofs.Tryz.f208 [a0, a1, a2, a3] m = s_model_firstLapi_FilterJS1 G a0 a1 a2 a3 m :=
  evFn_of (r := fun ρ m => s_model_firstLapi_FilterJS1 G (ρ 0) (ρ 1) (ρ 2) (ρ 3) m) rfl rfl (fun ρ m => by kernel_rfl) m
noncomputable def E_model_firstLapi_FilterJS1 : Entry Go.Proofs.Tryz.prog := ⟨F_model_firstLapi_FilterJS1, Go.Proofs.Tryz.f208, Go.Proofs.Tryz.func208, by kernel_rfl, arg4 (fun G a0 a1 a2 a3 m => s_model_firstLapi_FilterJS1 G a0 a1 a2 a3 m), okarg4 e_model_firstLapi_FilterJS1⟩
/-! 209 slices.ContainsFunc[[]waymark/api.Rule,waymark/api.Rule] -/
noncomputable def s_slices_ContainsFuncLLJapi_RuleCapi_RuleJ (G : Gt) (p0 p1 : Value) (m : Mem) : Option Rs :=
  bp (G.tab F_slices_IndexFuncLLJapi_RuleCapi_RuleJ [p0, p1] m) fun x0 m =>
  bp (pur (bin .geq true true .int x0 (.int .i64 0)) m) fun x1 m =>
  some (x1, m)
theorem e_slices_ContainsFuncLLJapi_RuleCapi_RuleJ (G : Gt) (a0 a1 : Value) (m : Mem) : evFn Go.Proofs.Tryz.prog G.tab G.rds (drOf Go.Proofs.Tryz.prog G.tab) Go.Proofs.Tryz.f209 [a0, a1] m = s_slices_ContainsFuncLLJapi_RuleCapi_RuleJ G a0 a1 m :=
  evFn_of (r := fun ρ m => s_slices_ContainsFuncLLJapi_RuleCapi_RuleJ G (ρ 0) (ρ 1) m) rfl rfl (fun ρ m => by kernel_rfl) m
noncomputable def E_slices_ContainsFuncLLJapi_RuleCapi_RuleJ : Entry Go.Proofs.Tryz.prog := ⟨F_slices_ContainsFuncLLJapi_RuleCapi_RuleJ, Go.Proofs.Tryz.f209, Go.Proofs.Tryz.func209, by kernel_rfl, arg2 (fun G a0 a1 m => s_slices_ContainsFuncLLJapi_RuleCapi_RuleJ G a0 a1 m), okarg2 e_slices_ContainsFuncLLJapi_RuleCapi_RuleJ⟩
/-! 210 waymark/filter.Check$1 -/
noncomputable def s_filter_CheckS1 (G : Gt) (p0 : Value) (m : Mem) : Option Rs :=
  bp (some (aNew T_api_Rule (Value.cells p0).toList m)) fun x0 m =>
  bp (pur (aLoad true 10 x0 m) m) fun x1 m =>
  bp (G.tab F_filter_may [x1] m) fun x2 m =>
  bp (pur (un .not x2) m) fun x3 m =>
  some (x3, m)
theorem e_filter_CheckS1 (G : Gt) (a0 : Value) (m : Mem) : evFn Go.Proofs.Tryz.prog G.tab G.rds (drOf Go.Proofs.Tryz.prog G.tab) Go.Proofs.Tryz.f210 [a0] m = s_filter_CheckS1 G a0 m :=
  evFn_of (r := fun ρ m => s_filter_CheckS1 G (ρ 0) m) rfl rfl (fun ρ m => by kernel_rfl) m
noncomputable def E_filter_CheckS1 : Entry Go.Proofs.Tryz.prog := ⟨F_filter_CheckS1, Go.Proofs.Tryz.f210, Go.Proofs.Tryz.func210, by kernel_rfl, arg1 (fun G a0 m => s_filter_CheckS1 G a0 m), okarg1 e_filter_CheckS1⟩
/-! 211 waymark/filter.may -/
noncomputable def s_filter_may_1 (G : Gt) (p2 : Value) (m : Mem) : Option Rs :=
  some (p2, m)
noncomputable def s_filter_may_0 (G : Gt) (p1 : Value) (m : Mem) : Option Rs :=
  bp (pur (aFieldAddr 1 p1) m) fun x0 m =>
  bp (pur (aLoad false 1 x0 m) m) fun x1 m =>
  bp (pur (bin .geq true true .int x1 (.int .i64 (-1))) m) fun x2 m =>
  brb x2
    (bp (pur (aFieldAddr 1 p1) m) fun x3 m =>
  bp (pur (aLoad false 1 x3 m) m) fun x4 m =>
  bp (pur (bin .leq true true .int x4 (.int .i64 255)) m) fun x5 m =>
  brb x5
    (bp (pur (aFieldAddr 2 p1) m) fun x6 m =>
  bp (pur (aLoad true 2 x6 m) m) fun x7 m =>
  bp (G.tab F_addr_Check [x7] m) fun x8 m =>
  bp (pur (bin .eql true true .int x8 (.int .i64 0)) m) fun x9 m =>
  brb x9
    (bp (pur (aFieldAddr 4 p1) m) fun x10 m =>
  bp (pur (aLoad true 2 x10 m) m) fun x11 m =>
  bp (G.tab F_addr_Check [x11] m) fun x12 m =>
  bp (pur (bin .eql true true .int x12 (.int .i64 0)) m) fun x13 m =>
  brb x13
    (bp (pur (aFieldAddr 6 p1) m) fun x14 m =>
  bp (pur (aLoad true 2 x14 m) m) fun x15 m =>
  bp (G.tab F_filter_ports [x15] m) fun x16 m =>
  brb x16
    (bp (pur (aFieldAddr 8 p1) m) fun x17 m =>
  bp (pur (aLoad true 2 x17 m) m) fun x18 m =>
  bp (G.tab F_filter_ports [x18] m) fun x19 m =>
  s_filter_may_1 G x19 m)
    (s_filter_may_1 G (.bool false) m))
    (s_filter_may_1 G (.bool false) m))
    (s_filter_may_1 G (.bool false) m))
    (s_filter_may_1 G (.bool false) m))
    (s_filter_may_1 G (.bool false) m)
noncomputable def s_filter_may (G : Gt) (p0 : Value) (m : Mem) : Option Rs :=
  bp (some (aNew T_api_Rule (Value.cells p0).toList m)) fun x20 m =>
  s_filter_may_0 G x20 m
theorem e_filter_may (G : Gt) (a0 : Value) (m : Mem) : evFn Go.Proofs.Tryz.prog G.tab G.rds (drOf Go.Proofs.Tryz.prog G.tab) Go.Proofs.Tryz.f211 [a0] m = s_filter_may G a0 m :=
  evFn_of (r := fun ρ m => s_filter_may G (ρ 0) m) rfl rfl (tr (seqQ (f := fun ρ m => s_filter_may_0 G (ρ 1) m) (tr (seqQ (f := fun ρ m => s_filter_may_1 G (ρ 2) m) (fun ρ m => by kernel_rfl)) (fun ρ m => by kernel_rfl))) (fun ρ m => by kernel_rfl)) m
noncomputable def E_filter_may : Entry Go.Proofs.Tryz.prog := ⟨F_filter_may, Go.Proofs.Tryz.f211, Go.Proofs.Tryz.func211, by kernel_rfl, arg1 (fun G a0 m => s_filter_may G a0 m), okarg1 e_filter_may⟩
/-! 212 waymark/model.first[waymark/api.PrefixList]$1 -/
noncomputable def s_model_firstLapi_PrefixListJS1 (G : Gt) (p0 p1 p2 p3 : Value) (m : Mem) : Option Rs :=
  bp (some (aNew T_api_PrefixList (Value.cells p0).toList m)) fun x0 m =>
  bp (pur (aLoad false 1 p1 m) m) fun x1 m =>
  bp (pur (aLoad true 2 x0 m) m) fun x2 m =>
  bp (pur (aLoad false 1 p1 m) m) fun x3 m =>
  bp (pur (aLoad false 1 p2 m) m) fun x4 m =>
  bp (pur (aLoad false 1 p3 m) m) fun x5 m =>
  bp (pur (aIndexAddrSl 2 x4 x5) m) fun x6 m =>
  bp (pur (aLoad true 2 x6 m) m) fun x7 m =>
  bp (evCall G.tab x1 [x2] m) fun x8 m =>
  ckB (again (pur (aLoad false 1 p1 m) m) x3 && (again (pur (aLoad false 1 p2 m) m) x4 && (again (pur (aLoad false 1 p3 m) m) x5 && (again (pur (aLoad true 2 x6 m) m) x7 && true))))
    (bp (evCall G.tab x3 [x7] m) fun x9 m =>
  bp (pur (bin .eql false true .str x8 x9) m) fun x10 m =>
  some (x10, m))
theorem e_model_firstLapi_PrefixListJS1 (G : Gt) (a0 a1 a2 a3 : Value) (m : Mem) : evFn Go.Proofs.Tryz.prog G.tab G.rds (drOf Go.Proofs.Tryz.prog G.tab) Go.Proofs.Tryz.f212 [a0, a1, a2, a3] m = s_model_firstLapi_PrefixListJS1 G a0 a1 a2 a3 m :=
  evFn_of (r := fun ρ m => s_model_firstLapi_PrefixListJS1 G (ρ 0) (ρ 1) (ρ 2) (ρ 3) m) rfl rfl (fun ρ m => by kernel_rfl) m
noncomputable def E_model_firstLapi_PrefixListJS1 : Entry Go.Proofs.Tryz.prog := ⟨F_model_firstLapi_PrefixListJS1, Go.Proofs.Tryz.f212, Go.Proofs.Tryz.func212, by kernel_rfl, arg4 (fun G a0 a1 a2 a3 m => s_model_firstLapi_PrefixListJS1 G a0 a1 a2 a3 m), okarg4 e_model_firstLapi_PrefixListJS1⟩
/-! 213 slices.ContainsFunc[[]waymark/api.Entry,waymark/api.Entry] -/
noncomputable def s_slices_ContainsFuncLLJapi_EntryCapi_EntryJ (G : Gt) (p0 p1 : Value) (m : Mem) : Option Rs :=
  bp (G.tab F_slices_IndexFuncLLJapi_EntryCapi_EntryJ [p0, p1] m) fun x0 m =>
  bp (pur (bin .geq true true .int x0 (.int .i64 0)) m) fun x1 m =>
  some (x1, m)
theorem e_slices_ContainsFuncLLJapi_EntryCapi_EntryJ (G : Gt) (a0 a1 : Value) (m : Mem) : evFn Go.Proofs.Tryz.prog G.tab G.rds (drOf Go.Proofs.Tryz.prog G.tab) Go.Proofs.Tryz.f213 [a0, a1] m = s_slices_ContainsFuncLLJapi_EntryCapi_EntryJ G a0 a1 m :=
  evFn_of (r := fun ρ m => s_slices_ContainsFuncLLJapi_EntryCapi_EntryJ G (ρ 0) (ρ 1) m) rfl rfl (fun ρ m => by kernel_rfl) m
noncomputable def E_slices_ContainsFuncLLJapi_EntryCapi_EntryJ : Entry Go.Proofs.Tryz.prog := ⟨F_slices_ContainsFuncLLJapi_EntryCapi_EntryJ, Go.Proofs.Tryz.f213, Go.Proofs.Tryz.func213, by kernel_rfl, arg2 (fun G a0 a1 m => s_slices_ContainsFuncLLJapi_EntryCapi_EntryJ G a0 a1 m), okarg2 e_slices_ContainsFuncLLJapi_EntryCapi_EntryJ⟩
/-! 214 waymark/model.entries$1 -/
noncomputable def s_model_entriesS1_1 (G : Gt) (p2 : Value) (m : Mem) : Option Rs :=
  some (p2, m)
noncomputable def s_model_entriesS1_0 (G : Gt) (p1 : Value) (m : Mem) : Option Rs :=
  bp (pur (aFieldAddr 1 p1) m) fun x0 m =>
  bp (pur (aLoad true 2 x0 m) m) fun x1 m =>
  bp (G.tab F_addr_Check [x1] m) fun x2 m =>
  bp (pur (bin .neq true true .int x2 (.int .i64 0)) m) fun x3 m =>
  brb x3
    (s_model_entriesS1_1 G (.bool true) m)
    (bp (pur (aFieldAddr 1 p1) m) fun x4 m =>
  bp (pur (aFieldAddr 1 x4) m) fun x5 m =>
  bp (pur (aLoad false 1 x5 m) m) fun x6 m =>
  bp (pur (aFieldAddr 3 p1) m) fun x7 m =>
  bp (pur (aLoad false 1 x7 m) m) fun x8 m =>
  bp (pur (bin .gtr false true .int x6 x8) m) fun x9 m =>
  brb x9
    (s_model_entriesS1_1 G (.bool true) m)
    (bp (pur (aFieldAddr 3 p1) m) fun x10 m =>
  bp (pur (aLoad false 1 x10 m) m) fun x11 m =>
  bp (pur (aFieldAddr 4 p1) m) fun x12 m =>
  bp (pur (aLoad false 1 x12 m) m) fun x13 m =>
  bp (pur (bin .gtr false true .int x11 x13) m) fun x14 m =>
  brb x14
    (s_model_entriesS1_1 G (.bool true) m)
    (bp (pur (aFieldAddr 4 p1) m) fun x15 m =>
  bp (pur (aLoad false 1 x15 m) m) fun x16 m =>
  bp (pur (bin .gtr true true .int x16 (.int .i64 32)) m) fun x17 m =>
  s_model_entriesS1_1 G x17 m)))
noncomputable def s_model_entriesS1 (G : Gt) (p0 : Value) (m : Mem) : Option Rs :=
  bp (some (aNew T_api_Entry (Value.cells p0).toList m)) fun x18 m =>
  s_model_entriesS1_0 G x18 m
theorem e_model_entriesS1 (G : Gt) (a0 : Value) (m : Mem) : evFn Go.Proofs.Tryz.prog G.tab G.rds (drOf Go.Proofs.Tryz.prog G.tab) Go.Proofs.Tryz.f214 [a0] m = s_model_entriesS1 G a0 m :=
  evFn_of (r := fun ρ m => s_model_entriesS1 G (ρ 0) m) rfl rfl (tr (seqQ (f := fun ρ m => s_model_entriesS1_0 G (ρ 1) m) (tr (seqQ (f := fun ρ m => s_model_entriesS1_1 G (ρ 2) m) (fun ρ m => by kernel_rfl)) (fun ρ m => by kernel_rfl))) (fun ρ m => by kernel_rfl)) m
noncomputable def E_model_entriesS1 : Entry Go.Proofs.Tryz.prog := ⟨F_model_entriesS1, Go.Proofs.Tryz.f214, Go.Proofs.Tryz.func214, by kernel_rfl, arg1 (fun G a0 m => s_model_entriesS1 G a0 m), okarg1 e_model_entriesS1⟩
end Go.Ab.Sh

set_option linter.unusedVariables false
set_option maxRecDepth 100000
namespace Go.Ab.Sh
open Go Go.Ab
/-! 215 waymark/model.first[waymark/api.CommunityList]$1 -/
noncomputable def s_model_firstLapi_CommunityListJS1 (G : Gt) (p0 p1 p2 p3 : Value) (m : Mem) : Option Rs :=
  bp (some (aNew T_api_CommunityList (Value.cells p0).toList m)) fun x0 m =>
  bp (pur (aLoad false 1 p1 m) m) fun x1 m =>
  bp (pur (aLoad true 2 x0 m) m) fun x2 m =>
  bp (pur (aLoad false 1 p1 m) m) fun x3 m =>
  bp (pur (aLoad false 1 p2 m) m) fun x4 m =>
  bp (pur (aLoad false 1 p3 m) m) fun x5 m =>
  bp (pur (aIndexAddrSl 2 x4 x5) m) fun x6 m =>
  bp (pur (aLoad true 2 x6 m) m) fun x7 m =>
  bp (evCall G.tab x1 [x2] m) fun x8 m =>
  ckB (again (pur (aLoad false 1 p1 m) m) x3 && (again (pur (aLoad false 1 p2 m) m) x4 && (again (pur (aLoad false 1 p3 m) m) x5 && (again (pur (aLoad true 2 x6 m) m) x7 && true))))
    (bp (evCall G.tab x3 [x7] m) fun x9 m =>
  bp (pur (bin .eql false true .str x8 x9) m) fun x10 m =>
  some (x10, m))
theorem e_model_firstLapi_CommunityListJS1 (G : Gt) (a0 a1 a2 a3 : Value) (m : Mem) : evFn Go.Proofs.Tryz.prog G.tab G.rds (drOf Go.Proofs.Tryz.prog G.tab) Go.Proofs.Tryz.f215 [a0, a1, a2, a3] m = s_model_firstLapi_CommunityListJS1 G a0 a1 a2 a3 m :=
  evFn_of (r := fun ρ m => s_model_firstLapi_CommunityListJS1 G (ρ 0) (ρ 1) (ρ 2) (ρ 3) m) rfl rfl (fun ρ m => by kernel_rfl) m
noncomputable def E_model_firstLapi_CommunityListJS1 : Entry Go.Proofs.Tryz.prog := ⟨F_model_firstLapi_CommunityListJS1, Go.Proofs.Tryz.f215, Go.Proofs.Tryz.func215, by kernel_rfl, arg4 (fun G a0 a1 a2 a3 m => s_model_firstLapi_CommunityListJS1 G a0 a1 a2 a3 m), okarg4 e_model_firstLapi_CommunityListJS1⟩
/-! 216 slices.ContainsFunc[[]waymark/api.Member,waymark/api.Member] -/
noncomputable def s_slices_ContainsFuncLLJapi_MemberCapi_MemberJ (G : Gt) (p0 p1 : Value) (m : Mem) : Option Rs :=
  bp (G.tab F_slices_IndexFuncLLJapi_MemberCapi_MemberJ [p0, p1] m) fun x0 m =>
  bp (pur (bin .geq true true .int x0 (.int .i64 0)) m) fun x1 m =>
  some (x1, m)
theorem e_slices_ContainsFuncLLJapi_MemberCapi_MemberJ (G : Gt) (a0 a1 : Value) (m : Mem) : evFn Go.Proofs.Tryz.prog G.tab G.rds (drOf Go.Proofs.Tryz.prog G.tab) Go.Proofs.Tryz.f216 [a0, a1] m = s_slices_ContainsFuncLLJapi_MemberCapi_MemberJ G a0 a1 m :=
  evFn_of (r := fun ρ m => s_slices_ContainsFuncLLJapi_MemberCapi_MemberJ G (ρ 0) (ρ 1) m) rfl rfl (fun ρ m => by kernel_rfl) m
noncomputable def E_slices_ContainsFuncLLJapi_MemberCapi_MemberJ : Entry Go.Proofs.Tryz.prog := ⟨F_slices_ContainsFuncLLJapi_MemberCapi_MemberJ, Go.Proofs.Tryz.f216, Go.Proofs.Tryz.func216, by kernel_rfl, arg2 (fun G a0 a1 m => s_slices_ContainsFuncLLJapi_MemberCapi_MemberJ G a0 a1 m), okarg2 e_slices_ContainsFuncLLJapi_MemberCapi_MemberJ⟩
/-! 217 waymark/model.members$1 -/
noncomputable def s_model_membersS1 (G : Gt) (p0 : Value) (m : Mem) : Option Rs :=
  bp (some (aNew T_api_Member (Value.cells p0).toList m)) fun x0 m =>
  bp (pur (aFieldAddr 1 x0) m) fun x1 m =>
  bp (pur (aLoad false 1 x1 m) m) fun x2 m =>
  bp (pur (lenK 1 x2 m) m) fun x3 m =>
  bp (pur (bin .gtr true true .int x3 (.int .i64 64)) m) fun x4 m =>
  some (x4, m)
theorem e_model_membersS1 (G : Gt) (a0 : Value) (m : Mem) : evFn Go.Proofs.Tryz.prog G.tab G.rds (drOf Go.Proofs.Tryz.prog G.tab) Go.Proofs.Tryz.f217 [a0] m = s_model_membersS1 G a0 m :=
  evFn_of (r := fun ρ m => s_model_membersS1 G (ρ 0) m) rfl rfl (fun ρ m => by kernel_rfl) m
noncomputable def E_model_membersS1 : Entry Go.Proofs.Tryz.prog := ⟨F_model_membersS1, Go.Proofs.Tryz.f217, Go.Proofs.Tryz.func217, by kernel_rfl, arg1 (fun G a0 m => s_model_membersS1 G a0 m), okarg1 e_model_membersS1⟩
/-! 218 slices.Contains[[]uint32,uint32] -/
noncomputable def s_slices_ContainsLLJuint32Cuint32J (G : Gt) (p0 p1 : Value) (m : Mem) : Option Rs :=
  bp (G.tab F_slices_IndexLLJuint32Cuint32J [p0, p1] m) fun x0 m =>
  bp (pur (bin .geq true true .int x0 (.int .i64 0)) m) fun x1 m =>
  some (x1, m)
theorem e_slices_ContainsLLJuint32Cuint32J (G : Gt) (a0 a1 : Value) (m : Mem) : evFn Go.Proofs.Tryz.prog G.tab G.rds (drOf Go.Proofs.Tryz.prog G.tab) Go.Proofs.Tryz.f218 [a0, a1] m = s_slices_ContainsLLJuint32Cuint32J G a0 a1 m :=
  evFn_of (r := fun ρ m => s_slices_ContainsLLJuint32Cuint32J G (ρ 0) (ρ 1) m) rfl rfl (fun ρ m => by kernel_rfl) m
noncomputable def E_slices_ContainsLLJuint32Cuint32J : Entry Go.Proofs.Tryz.prog := ⟨F_slices_ContainsLLJuint32Cuint32J, Go.Proofs.Tryz.f218, Go.Proofs.Tryz.func218, by kernel_rfl, arg2 (fun G a0 a1 m => s_slices_ContainsLLJuint32Cuint32J G a0 a1 m), okarg2 e_slices_ContainsLLJuint32Cuint32J⟩
/-! 219 waymark/model.first[waymark/api.Policy]$1 -/
noncomputable def s_model_firstLapi_PolicyJS1 (G : Gt) (p0 p1 p2 p3 : Value) (m : Mem) : Option Rs :=
  bp (some (aNew T_api_Policy (Value.cells p0).toList m)) fun x0 m =>
  bp (pur (aLoad false 1 p1 m) m) fun x1 m =>
  bp (pur (aLoad true 3 x0 m) m) fun x2 m =>
  bp (pur (aLoad false 1 p1 m) m) fun x3 m =>
  bp (pur (aLoad false 1 p2 m) m) fun x4 m =>
  bp (pur (aLoad false 1 p3 m) m) fun x5 m =>
  bp (pur (aIndexAddrSl 3 x4 x5) m) fun x6 m =>
  bp (pur (aLoad true 3 x6 m) m) fun x7 m =>
  bp (evCall G.tab x1 [x2] m) fun x8 m =>
  ckB (again (pur (aLoad false 1 p1 m) m) x3 && (again (pur (aLoad false 1 p2 m) m) x4 && (again (pur (aLoad false 1 p3 m) m) x5 && (again (pur (aLoad true 3 x6 m) m) x7 && true))))
    (bp (evCall G.tab x3 [x7] m) fun x9 m =>
  bp (pur (bin .eql false true .str x8 x9) m) fun x10 m =>
  some (x10, m))
theorem e_model_firstLapi_PolicyJS1 (G : Gt) (a0 a1 a2 a3 : Value) (m : Mem) : evFn Go.Proofs.Tryz.prog G.tab G.rds (drOf Go.Proofs.Tryz.prog G.tab) Go.Proofs.Tryz.f219 [a0, a1, a2, a3] m = s_model_firstLapi_PolicyJS1 G a0 a1 a2 a3 m :=
  evFn_of (r := fun ρ m => s_model_firstLapi_PolicyJS1 G (ρ 0) (ρ 1) (ρ 2) (ρ 3) m) rfl rfl (fun ρ m => by kernel_rfl) m
noncomputable def E_model_firstLapi_PolicyJS1 : Entry Go.Proofs.Tryz.prog := ⟨F_model_firstLapi_PolicyJS1, Go.Proofs.Tryz.f219, Go.Proofs.Tryz.func219, by kernel_rfl, arg4 (fun G a0 a1 a2 a3 m => s_model_firstLapi_PolicyJS1 G a0 a1 a2 a3 m), okarg4 e_model_firstLapi_PolicyJS1⟩
/-! 220 (waymark/model.book).redists -/
noncomputable def s_model_book_redists_2 (G : Gt) (p1 p9 : Value) (m : Mem) : Option Rs :=
  bp (pur (lenK 1 p1 m) m) fun x0 m =>
  bp (pur (bin .leq true true .int x0 (.int .i64 256)) m) fun x1 m =>
  some (.tuple ⟨[x1, p9]⟩, m)
noncomputable def s_model_book_redists_7 (G : Gt) (k0 : Value → Value → Value → Value → Value → Value → Value → Value → Mem → Option Rs) (p15 p14 p13 p3 p2 p9 p4 p1 : Value) (m : Mem) : Option Rs :=
  bp (pur (bin .add true true .int p15 (.int .i64 1)) m) fun x2 m =>
  k0 x2 p14 p13 p3 p2 p9 p4 p1 m
noncomputable def s_model_book_redists_11 (G : Gt) (k0 : Value → Value → Value → Value → Value → Value → Value → Value → Mem → Option Rs) (p50 p9 p4 p11 p15 p14 p13 p3 p2 p1 : Value) (m : Mem) : Option Rs :=
  brb p50
    (some (.tuple ⟨[(.bool false), (.bool true)]⟩, m))
    (brb p9
    (bp (pur (aFieldAddr 4 p4) m) fun x3 m =>
  bp (pur (aLoad false 1 x3 m) m) fun x4 m =>
  bp (pur (aFieldAddr 3 p11) m) fun x5 m =>
  bp (pur (aLoad false 1 x5 m) m) fun x6 m =>
  bp (G.tab F_model_none [x4, x6] m) fun x7 m =>
  s_model_book_redists_7 G k0 p15 p14 p13 p3 p2 x7 p4 p1 m)
    (s_model_book_redists_7 G k0 p15 p14 p13 p3 p2 (.bool false) p4 p1 m))
noncomputable def s_model_book_redists_10 (G : Gt) (k0 : Value → Value → Value → Value → Value → Value → Value → Value → Mem → Option Rs) (p12 p11 p2 p9 p4 p15 p14 p13 p3 p1 : Value) (m : Mem) : Option Rs :=
  bp (pur (un .not p12) m) fun x8 m =>
  brb x8
    (s_model_book_redists_11 G k0 (.bool true) p9 p4 p11 p15 p14 p13 p3 p2 p1 m)
    (bp (pur (aFieldAddr 0 p11) m) fun x9 m =>
  bp (pur (aLoad false 1 x9 m) m) fun x10 m =>
  bp (pur (bin .eql true true .int x10 (.int .u8 0)) m) fun x11 m =>
  brb x11
    (s_model_book_redists_11 G k0 (.bool true) p9 p4 p11 p15 p14 p13 p3 p2 p1 m)
    (bp (pur (aFieldAddr 0 p11) m) fun x12 m =>
  bp (pur (aLoad false 1 x12 m) m) fun x13 m =>
  bp (pur (bin .andNot false true .int x13 p2) m) fun x14 m =>
  bp (pur (bin .neq true true .int x14 (.int .u8 0)) m) fun x15 m =>
  brb x15
    (s_model_book_redists_11 G k0 (.bool true) p9 p4 p11 p15 p14 p13 p3 p2 p1 m)
    (bp (pur (aFieldAddr 1 p11) m) fun x16 m =>
  bp (pur (aLoad false 1 x16 m) m) fun x17 m =>
  bp (G.tab F_model_within [x17, (.int .i64 (-1)), (.int .i64 16777216)] m) fun x18 m =>
  bp (pur (un .not x18) m) fun x19 m =>
  s_model_book_redists_11 G k0 x19 p9 p4 p11 p15 p14 p13 p3 p2 p1 m)))
noncomputable def s_model_book_redists_9 (G : Gt) (k0 : Value → Value → Value → Value → Value → Value → Value → Value → Mem → Option Rs) (p3 p11 p2 p9 p4 p15 p14 p13 p1 p12 : Value) (m : Mem) : Option Rs :=
  brb p3
    (bp (pur (aFieldAddr 2 p11) m) fun x20 m =>
  bp (pur (aLoad false 1 x20 m) m) fun x21 m =>
  bp (pur (bin .eql true true .int x21 (.int .u8 1)) m) fun x22 m =>
  brb x22
    (s_model_book_redists_10 G k0 (.bool true) p11 p2 p9 p4 p15 p14 p13 p3 p1 m)
    (bp (pur (aFieldAddr 2 p11) m) fun x23 m =>
  bp (pur (aLoad false 1 x23 m) m) fun x24 m =>
  bp (pur (bin .eql true true .int x24 (.int .u8 2)) m) fun x25 m =>
  s_model_book_redists_10 G k0 x25 p11 p2 p9 p4 p15 p14 p13 p3 p1 m))
    (s_model_book_redists_10 G k0 p12 p11 p2 p9 p4 p15 p14 p13 p3 p1 m)
noncomputable def s_model_book_redists_8 (G : Gt) (k0 : Value → Value → Value → Value → Value → Value → Value → Value → Mem → Option Rs) (p11 p3 p2 p9 p4 p15 p14 p13 p1 : Value) (m : Mem) : Option Rs :=
  bp (pur (aFieldAddr 2 p11) m) fun x26 m =>
  bp (pur (aLoad false 1 x26 m) m) fun x27 m =>
  bp (pur (bin .eql true true .int x27 (.int .u8 0)) m) fun x28 m =>
  s_model_book_redists_9 G k0 p3 p11 p2 p9 p4 p15 p14 p13 p1 x28 m
noncomputable def s_model_book_redists_6 (G : Gt) (k0 : Value → Value → Value → Value → Value → Value → Value → Value → Mem → Option Rs) (p13 p15 p3 p2 p9 p4 p14 p1 : Value) (m : Mem) : Option Rs :=
  bp (pur (aIndexAddrSl 4 p13 p15) m) fun x29 m =>
  bp (pur (aLoad true 4 x29 m) m) fun x30 m =>
  bp (some (aNew T_api_Redist z_api_Redist m)) fun x31 m =>
  bp (unt (aStore 4 x31 x30 m)) fun _ m =>
  s_model_book_redists_8 G k0 x31 p3 p2 p9 p4 p15 p14 p13 p1 m
noncomputable def s_model_book_redists_5 (G : Gt) (k0 : Value → Value → Value → Value → Value → Value → Value → Value → Mem → Option Rs) (p16 p13 p15 p3 p2 p9 p4 p14 p1 : Value) (m : Mem) : Option Rs :=
  brb p16
    (s_model_book_redists_6 G k0 p13 p15 p3 p2 p9 p4 p14 p1 m)
    (s_model_book_redists_2 G p1 p9 m)
noncomputable def s_model_book_redists_4 (G : Gt) : Nat → Value → Value → Value → Value → Value → Value → Value → Value → Mem → Option Rs
  | 0, _, _, _, _, _, _, _, _, _ => none
  | i + 1, p15, p14, p13, p3, p2, p9, p4, p1, m =>
  bp (pur (bin .lss false true .int p15 p14) m) fun x32 m =>
  s_model_book_redists_5 G (s_model_book_redists_4 G i) x32 p13 p15 p3 p2 p9 p4 p14 p1 m
noncomputable def s_model_book_redists_3 (G : Gt) (p15 p14 p13 p3 p2 p9 p4 p1 : Value) (m : Mem) : Option Rs :=
  s_model_book_redists_4 G G.rds p15 p14 p13 p3 p2 p9 p4 p1 m
noncomputable def s_model_book_redists_1 (G : Gt) (p1 p3 p2 p9 p4 : Value) (m : Mem) : Option Rs :=
  bp (pur (lenK 1 p1 m) m) fun x33 m =>
  s_model_book_redists_3 G (.int .i64 0) x33 p1 p3 p2 p9 p4 p1 m
noncomputable def s_model_book_redists_0 (G : Gt) (p1 p3 p2 p4 : Value) (m : Mem) : Option Rs :=
  s_model_book_redists_1 G p1 p3 p2 (.bool true) p4 m
noncomputable def s_model_book_redists (G : Gt) (p0 p1 p3 p2 : Value) (m : Mem) : Option Rs :=
  bp (some (aNew T_model_book (Value.cells p0).toList m)) fun x34 m =>
  s_model_book_redists_0 G p1 p3 p2 x34 m
theorem e_model_book_redists (G : Gt) (a0 a1 a2 a3 : Value) (m : Mem) : evFn Go.Proofs.Tryz.prog G.tab G.rds (drOf Go.Proofs.Tryz.prog G.tab) Go.Proofs.Tryz.f220 [a0, a1, a2, a3] m = s_model_book_redists G a0 a1 a3 a2 m :=
  evFn_of (r := fun ρ m => s_model_book_redists G (ρ 0) (ρ 1) (ρ 3) (ρ 2) m) rfl rfl (tr (seqQ (f := fun ρ m => s_model_book_redists_0 G (ρ 1) (ρ 3) (ρ 2) (ρ 4) m) (tr (seqQ (f := fun ρ m => s_model_book_redists_1 G (ρ 1) (ρ 3) (ρ 2) (ρ 9) (ρ 4) m) (tr (tr (seqQ (f := fun ρ m => s_model_book_redists_2 G (ρ 1) (ρ 9) m) (fun ρ m => by kernel_rfl)) (seqQ (f := fun ρ m => s_model_book_redists_3 G (ρ 15) (ρ 14) (ρ 13) (ρ 3) (ρ 2) (ρ 9) (ρ 4) (ρ 1) m) (tr (blockQ (loopQ (fun i ρ m => s_model_book_redists_4 G i (ρ 15) (ρ 14) (ρ 13) (ρ 3) (ρ 2) (ρ 9) (ρ 4) (ρ 1) m) (fun _ _ => rfl) (fun i0 => tr (seqQ (f := fun ρ m => s_model_book_redists_5 G (s_model_book_redists_4 G i0) (ρ 16) (ρ 13) (ρ 15) (ρ 3) (ρ 2) (ρ 9) (ρ 4) (ρ 14) (ρ 1) m) (tr (seqQ (f := fun ρ m => s_model_book_redists_6 G (s_model_book_redists_4 G i0) (ρ 13) (ρ 15) (ρ 3) (ρ 2) (ρ 9) (ρ 4) (ρ 14) (ρ 1) m) (tr (tr (seqQ (f := fun ρ m => s_model_book_redists_7 G (s_model_book_redists_4 G i0) (ρ 15) (ρ 14) (ρ 13) (ρ 3) (ρ 2) (ρ 9) (ρ 4) (ρ 1) m) (fun ρ m => by kernel_rfl)) (blockQ (seqQ (f := fun ρ m => s_model_book_redists_8 G (s_model_book_redists_4 G i0) (ρ 11) (ρ 3) (ρ 2) (ρ 9) (ρ 4) (ρ 15) (ρ 14) (ρ 13) (ρ 1) m) (tr (seqQ (f := fun ρ m => s_model_book_redists_9 G (s_model_book_redists_4 G i0) (ρ 3) (ρ 11) (ρ 2) (ρ 9) (ρ 4) (ρ 15) (ρ 14) (ρ 13) (ρ 1) (ρ 12) m) (tr (seqQ (f := fun ρ m => s_model_book_redists_10 G (s_model_book_redists_4 G i0) (ρ 12) (ρ 11) (ρ 2) (ρ 9) (ρ 4) (ρ 15) (ρ 14) (ρ 13) (ρ 3) (ρ 1) m) (tr (tr seqD (seqQ (f := fun ρ m => s_model_book_redists_11 G (s_model_book_redists_4 G i0) (ρ 50) (ρ 9) (ρ 4) (ρ 11) (ρ 15) (ρ 14) (ρ 13) (ρ 3) (ρ 2) (ρ 1) m) (fun ρ m => by kernel_rfl))) (fun ρ m => by kernel_rfl))) (fun ρ m => by kernel_rfl))) (fun ρ m => by kernel_rfl))))) (fun ρ m => by kernel_rfl))) (fun ρ m => by kernel_rfl))) (fun ρ m => by kernel_rfl)))) (fun ρ m => by kernel_rfl)))) (fun ρ m => by kernel_rfl))) (fun ρ m => by kernel_rfl))) (fun ρ m => by kernel_rfl)) m
noncomputable def E_model_book_redists : Entry Go.Proofs.Tryz.prog := ⟨F_model_book_redists, Go.Proofs.Tryz.f220, Go.Proofs.Tryz.func220, by kernel_rfl, arg4 (fun G a0 a1 a2 a3 m => s_model_book_redists G a0 a1 a3 a2 m), okarg4 e_model_book_redists⟩
/-! 221 waymark/model.first[waymark/api.OSPF] -/
noncomputable def s_model_firstLapi_OSPFJ (G : Gt) (p0 p1 p2 : Value) (m : Mem) : Option Rs :=
  bp (some (aNew T_LJapi_OSPF (Value.cells p0).toList m)) fun x0 m =>
  bp (some (aNew T_int (Value.cells p1).toList m)) fun x1 m =>
  bp (some (aNew T_funcapi_OSPF_string (Value.cells p2).toList m)) fun x2 m =>
  bp (pur (aLoad false 1 x0 m) m) fun x3 m =>
  let x4 : Value := (.func (.func F_model_firstLapi_OSPFJS1) ⟨[]⟩ ⟨[x2, x0, x1]⟩)
  bp (pur (aLoad false 1 x1 m) m) fun x5 m =>
  bp (G.tab F_slices_IndexFuncLLJapi_OSPFCapi_OSPFJ [x3, x4] m) fun x6 m =>
  ckB (again (pur (aLoad false 1 x1 m) m) x5 && true)
    (bp (pur (bin .eql false true .int x6 x5) m) fun x7 m =>
  some (x7, m))
theorem e_model_firstLapi_OSPFJ (G : Gt) (a0 a1 a2 : Value) (m : Mem) : evFn Go.Proofs.Tryz.prog G.tab G.rds (drOf Go.Proofs.Tryz.prog G.tab) Go.Proofs.Tryz.f221 [a0, a1, a2] m = s_model_firstLapi_OSPFJ G a0 a1 a2 m :=
  evFn_of (r := fun ρ m => s_model_firstLapi_OSPFJ G (ρ 0) (ρ 1) (ρ 2) m) rfl rfl (fun ρ m => by kernel_rfl) m
noncomputable def E_model_firstLapi_OSPFJ : Entry Go.Proofs.Tryz.prog := ⟨F_model_firstLapi_OSPFJ, Go.Proofs.Tryz.f221, Go.Proofs.Tryz.func221, by kernel_rfl, arg3 (fun G a0 a1 a2 m => s_model_firstLapi_OSPFJ G a0 a1 a2 m), okarg3 e_model_firstLapi_OSPFJ⟩
/-! 222 (waymark/model.book).ospf$1 -/
noncomputable def s_model_book_ospfS1 (G : Gt) (p0 : Value) (m : Mem) : Option Rs :=
  bp (some (aNew T_api_OSPF (Value.cells p0).toList m)) fun x0 m =>
  bp (pur (aFieldAddr 0 x0) m) fun x1 m =>
  bp (pur (aLoad false 1 x1 m) m) fun x2 m =>
  some (x2, m)
theorem e_model_book_ospfS1 (G : Gt) (a0 : Value) (m : Mem) : evFn Go.Proofs.Tryz.prog G.tab G.rds (drOf Go.Proofs.Tryz.prog G.tab) Go.Proofs.Tryz.f222 [a0] m = s_model_book_ospfS1 G a0 m :=
  evFn_of (r := fun ρ m => s_model_book_ospfS1 G (ρ 0) m) rfl rfl (fun ρ m => by kernel_rfl) m
noncomputable def E_model_book_ospfS1 : Entry Go.Proofs.Tryz.prog := ⟨F_model_book_ospfS1, Go.Proofs.Tryz.f222, Go.Proofs.Tryz.func222, by kernel_rfl, arg1 (fun G a0 m => s_model_book_ospfS1 G a0 m), okarg1 e_model_book_ospfS1⟩
/-! 223 waymark/model.first[waymark/api.BGP] -/
noncomputable def s_model_firstLapi_BGPJ (G : Gt) (p0 p1 p2 : Value) (m : Mem) : Option Rs :=
  bp (some (aNew T_LJapi_BGP (Value.cells p0).toList m)) fun x0 m =>
  bp (some (aNew T_int (Value.cells p1).toList m)) fun x1 m =>
  bp (some (aNew T_funcapi_BGP_string (Value.cells p2).toList m)) fun x2 m =>
  bp (pur (aLoad false 1 x0 m) m) fun x3 m =>
  let x4 : Value := (.func (.func F_model_firstLapi_BGPJS1) ⟨[]⟩ ⟨[x2, x0, x1]⟩)
  bp (pur (aLoad false 1 x1 m) m) fun x5 m =>
  bp (G.tab F_slices_IndexFuncLLJapi_BGPCapi_BGPJ [x3, x4] m) fun x6 m =>
  ckB (again (pur (aLoad false 1 x1 m) m) x5 && true)
    (bp (pur (bin .eql false true .int x6 x5) m) fun x7 m =>
  some (x7, m))
theorem e_model_firstLapi_BGPJ (G : Gt) (a0 a1 a2 : Value) (m : Mem) : evFn Go.Proofs.Tryz.prog G.tab G.rds (drOf Go.Proofs.Tryz.prog G.tab) Go.Proofs.Tryz.f223 [a0, a1, a2] m = s_model_firstLapi_BGPJ G a0 a1 a2 m :=
  evFn_of (r := fun ρ m => s_model_firstLapi_BGPJ G (ρ 0) (ρ 1) (ρ 2) m) rfl rfl (fun ρ m => by kernel_rfl) m
noncomputable def E_model_firstLapi_BGPJ : Entry Go.Proofs.Tryz.prog := ⟨F_model_firstLapi_BGPJ, Go.Proofs.Tryz.f223, Go.Proofs.Tryz.func223, by kernel_rfl, arg3 (fun G a0 a1 a2 m => s_model_firstLapi_BGPJ G a0 a1 a2 m), okarg3 e_model_firstLapi_BGPJ⟩
/-! 224 (waymark/model.book).bgp$1 -/
noncomputable def s_model_book_bgpS1 (G : Gt) (p0 : Value) (m : Mem) : Option Rs :=
  bp (some (aNew T_api_BGP (Value.cells p0).toList m)) fun x0 m =>
  bp (pur (aFieldAddr 0 x0) m) fun x1 m =>
  bp (pur (aLoad false 1 x1 m) m) fun x2 m =>
  some (x2, m)
theorem e_model_book_bgpS1 (G : Gt) (a0 : Value) (m : Mem) : evFn Go.Proofs.Tryz.prog G.tab G.rds (drOf Go.Proofs.Tryz.prog G.tab) Go.Proofs.Tryz.f224 [a0] m = s_model_book_bgpS1 G a0 m :=
  evFn_of (r := fun ρ m => s_model_book_bgpS1 G (ρ 0) m) rfl rfl (fun ρ m => by kernel_rfl) m
noncomputable def E_model_book_bgpS1 : Entry Go.Proofs.Tryz.prog := ⟨F_model_book_bgpS1, Go.Proofs.Tryz.f224, Go.Proofs.Tryz.func224, by kernel_rfl, arg1 (fun G a0 m => s_model_book_bgpS1 G a0 m), okarg1 e_model_book_bgpS1⟩
/-! 225 slices.Index[[]waymark/api.Prefix,waymark/api.Prefix] -/
noncomputable def s_slices_IndexLLJapi_PrefixCapi_PrefixJ_1 (G : Gt) (m : Mem) : Option Rs :=
  some ((.int .i64 (-1)), m)
noncomputable def s_slices_IndexLLJapi_PrefixCapi_PrefixJ_3 (G : Gt) : Nat → Value → Value → Value → Value → Mem → Option Rs
  | 0, _, _, _, _, _ => none
  | i + 1, p8, p7, p3, p0, m =>
  bp (pur (bin .lss false true .int p8 p7) m) fun x0 m =>
  brb x0
    (bp (pur (aLoad true 2 p3 m) m) fun x1 m =>
  bp (pur (aIndexAddrSl 2 p0 p8) m) fun x2 m =>
  bp (pur (aLoad true 2 x2 m) m) fun x3 m =>
  bp (pur (bin .eql false true (.struct [(0, 1, false, .int), (1, 1, false, .int)]) x1 x3) m) fun x4 m =>
  brb x4
    (some (p8, m))
    (bp (pur (bin .add true true .int p8 (.int .i64 1)) m) fun x5 m =>
  (s_slices_IndexLLJapi_PrefixCapi_PrefixJ_3 G i) x5 p7 p3 p0 m))
    (s_slices_IndexLLJapi_PrefixCapi_PrefixJ_1 G m)
noncomputable def s_slices_IndexLLJapi_PrefixCapi_PrefixJ_2 (G : Gt) (p8 p7 p3 p0 : Value) (m : Mem) : Option Rs :=
  s_slices_IndexLLJapi_PrefixCapi_PrefixJ_3 G G.rds p8 p7 p3 p0 m
noncomputable def s_slices_IndexLLJapi_PrefixCapi_PrefixJ_0 (G : Gt) (p0 p3 : Value) (m : Mem) : Option Rs :=
  bp (pur (lenK 1 p0 m) m) fun x6 m =>
  s_slices_IndexLLJapi_PrefixCapi_PrefixJ_2 G (.int .i64 0) x6 p3 p0 m
noncomputable def s_slices_IndexLLJapi_PrefixCapi_PrefixJ (G : Gt) (p1 p0 : Value) (m : Mem) : Option Rs :=
  bp (some (aNew T_api_Prefix (Value.cells p1).toList m)) fun x7 m =>
  s_slices_IndexLLJapi_PrefixCapi_PrefixJ_0 G p0 x7 m
theorem e_slices_IndexLLJapi_PrefixCapi_PrefixJ (G : Gt) (a0 a1 : Value) (m : Mem) : evFn Go.Proofs.Tryz.prog G.tab G.rds (drOf Go.Proofs.Tryz.prog G.tab) Go.Proofs.Tryz.f225 [a0, a1] m = s_slices_IndexLLJapi_PrefixCapi_PrefixJ G a1 a0 m :=
  evFn_of (r := fun ρ m => s_slices_IndexLLJapi_PrefixCapi_PrefixJ G (ρ 1) (ρ 0) m) rfl rfl (tr (seqQ (f := fun ρ m => s_slices_IndexLLJapi_PrefixCapi_PrefixJ_0 G (ρ 0) (ρ 3) m) (tr (tr (seqQ (f := fun ρ m => s_slices_IndexLLJapi_PrefixCapi_PrefixJ_1 G m) (fun ρ m => by kernel_rfl)) (seqQ (f := fun ρ m => s_slices_IndexLLJapi_PrefixCapi_PrefixJ_2 G (ρ 8) (ρ 7) (ρ 3) (ρ 0) m) (tr (blockQ (loopQ (fun i ρ m => s_slices_IndexLLJapi_PrefixCapi_PrefixJ_3 G i (ρ 8) (ρ 7) (ρ 3) (ρ 0) m) (fun _ _ => rfl) (fun i0 => fun ρ m => by kernel_rfl))) (fun ρ m => by kernel_rfl)))) (fun ρ m => by kernel_rfl))) (fun ρ m => by kernel_rfl)) m
noncomputable def E_slices_IndexLLJapi_PrefixCapi_PrefixJ : Entry Go.Proofs.Tryz.prog := ⟨F_slices_IndexLLJapi_PrefixCapi_PrefixJ, Go.Proofs.Tryz.f225, Go.Proofs.Tryz.func225, by kernel_rfl, arg2 (fun G a0 a1 m => s_slices_IndexLLJapi_PrefixCapi_PrefixJ G a1 a0 m), okarg2 e_slices_IndexLLJapi_PrefixCapi_PrefixJ⟩
/-! 240 slices.IndexFunc[[]waymark/api.Iface,waymark/api.Iface] -/
noncomputable def s_slices_IndexFuncLLJapi_IfaceCapi_IfaceJ_1 (G : Gt) (m : Mem) : Option Rs :=
  some ((.int .i64 (-1)), m)
noncomputable def s_slices_IndexFuncLLJapi_IfaceCapi_IfaceJ_3 (G : Gt) : Nat → Value → Value → Value → Value → Mem → Option Rs
  | 0, _, _, _, _, _ => none
  | i + 1, p8, p7, p1, p0, m =>
  bp (pur (bin .lss false true .int p8 p7) m) fun x0 m =>
  brb x0
    (bp (pur (aIndexAddrSl 11 p0 p8) m) fun x1 m =>
  bp (pur (aLoad true 11 x1 m) m) fun x2 m =>
  bp (evCall G.tab p1 [x2] m) fun x3 m =>
  brb x3
    (some (p8, m))
    (bp (pur (bin .add true true .int p8 (.int .i64 1)) m) fun x4 m =>
  (s_slices_IndexFuncLLJapi_IfaceCapi_IfaceJ_3 G i) x4 p7 p1 p0 m))
    (s_slices_IndexFuncLLJapi_IfaceCapi_IfaceJ_1 G m)
noncomputable def s_slices_IndexFuncLLJapi_IfaceCapi_IfaceJ_2 (G : Gt) (p8 p7 p1 p0 : Value) (m : Mem) : Option Rs :=
  s_slices_IndexFuncLLJapi_IfaceCapi_IfaceJ_3 G G.rds p8 p7 p1 p0 m
noncomputable def s_slices_IndexFuncLLJapi_IfaceCapi_IfaceJ_0 (G : Gt) (p0 p1 : Value) (m : Mem) : Option Rs :=
  bp (pur (lenK 1 p0 m) m) fun x5 m =>
  s_slices_IndexFuncLLJapi_IfaceCapi_IfaceJ_2 G (.int .i64 0) x5 p1 p0 m
noncomputable def s_slices_IndexFuncLLJapi_IfaceCapi_IfaceJ (G : Gt) (p0 p1 : Value) (m : Mem) : Option Rs :=
  s_slices_IndexFuncLLJapi_IfaceCapi_IfaceJ_0 G p0 p1 m
theorem e_slices_IndexFuncLLJapi_IfaceCapi_IfaceJ (G : Gt) (a0 a1 : Value) (m : Mem) : evFn Go.Proofs.Tryz.prog G.tab G.rds (drOf Go.Proofs.Tryz.prog G.tab) Go.Proofs.Tryz.f240 [a0, a1] m = s_slices_IndexFuncLLJapi_IfaceCapi_IfaceJ G a0 a1 m :=
  evFn_of (r := fun ρ m => s_slices_IndexFuncLLJapi_IfaceCapi_IfaceJ G (ρ 0) (ρ 1) m) rfl rfl (tr (seqQ (f := fun ρ m => s_slices_IndexFuncLLJapi_IfaceCapi_IfaceJ_0 G (ρ 0) (ρ 1) m) (tr (tr (seqQ (f := fun ρ m => s_slices_IndexFuncLLJapi_IfaceCapi_IfaceJ_1 G m) (fun ρ m => by kernel_rfl)) (seqQ (f := fun ρ m => s_slices_IndexFuncLLJapi_IfaceCapi_IfaceJ_2 G (ρ 8) (ρ 7) (ρ 1) (ρ 0) m) (tr (blockQ (loopQ (fun i ρ m => s_slices_IndexFuncLLJapi_IfaceCapi_IfaceJ_3 G i (ρ 8) (ρ 7) (ρ 1) (ρ 0) m) (fun _ _ => rfl) (fun i0 => fun ρ m => by kernel_rfl))) (fun ρ m => by kernel_rfl)))) (fun ρ m => by kernel_rfl))) (fun ρ m => by kernel_rfl)) m
noncomputable def E_slices_IndexFuncLLJapi_IfaceCapi_IfaceJ : Entry Go.Proofs.Tryz.prog := ⟨F_slices_IndexFuncLLJapi_IfaceCapi_IfaceJ, Go.Proofs.Tryz.f240, Go.Proofs.Tryz.func240, by kernel_rfl, arg2 (fun G a0 a1 m => s_slices_IndexFuncLLJapi_IfaceCapi_IfaceJ G a0 a1 m), okarg2 e_slices_IndexFuncLLJapi_IfaceCapi_IfaceJ⟩
/-! 241 waymark/model.first[waymark/api.Iface]$1 -/
noncomputable def s_model_firstLapi_IfaceJS1 (G : Gt) (p0 p1 p2 p3 : Value) (m : Mem) : Option Rs :=
  bp (some (aNew T_api_Iface (Value.cells p0).toList m)) fun x0 m =>
  bp (pur (aLoad false 1 p1 m) m) fun x1 m =>
  bp (pur (aLoad true 11 x0 m) m) fun x2 m =>
  bp (pur (aLoad false 1 p1 m) m) fun x3 m =>
  bp (pur (aLoad false 1 p2 m) m) fun x4 m =>
  bp (pur (aLoad false 1 p3 m) m) fun x5 m =>
  bp (pur (aIndexAddrSl 11 x4 x5) m) fun x6 m =>
  bp (pur (aLoad true 11 x6 m) m) fun x7 m =>
  bp (evCall G.tab x1 [x2] m) fun x8 m =>
  ckB (again (pur (aLoad false 1 p1 m) m) x3 && (again (pur (aLoad false 1 p2 m) m) x4 && (again (pur (aLoad false 1 p3 m) m) x5 && (again (pur (aLoad true 11 x6 m) m) x7 && true))))
    (bp (evCall G.tab x3 [x7] m) fun x9 m =>
  bp (pur (bin .eql false true .str x8 x9) m) fun x10 m =>
  some (x10, m))
theorem e_model_firstLapi_IfaceJS1 (G : Gt) (a0 a1 a2 a3 : Value) (m : Mem) : evFn Go.Proofs.Tryz.prog G.tab G.rds (drOf Go.Proofs.Tryz.prog G.tab) Go.Proofs.Tryz.f241 [a0, a1, a2, a3] m = s_model_firstLapi_IfaceJS1 G a0 a1 a2 a3 m :=
  evFn_of (r := fun ρ m => s_model_firstLapi_IfaceJS1 G (ρ 0) (ρ 1) (ρ 2) (ρ 3) m) rfl rfl (fun ρ m => by kernel_rfl) m
noncomputable def E_model_firstLapi_IfaceJS1 : Entry Go.Proofs.Tryz.prog := ⟨F_model_firstLapi_IfaceJS1, Go.Proofs.Tryz.f241, Go.Proofs.Tryz.func241, by kernel_rfl, arg4 (fun G a0 a1 a2 a3 m => s_model_firstLapi_IfaceJS1 G a0 a1 a2 a3 m), okarg4 e_model_firstLapi_IfaceJS1⟩
/-! 242 slices.IndexFunc[[]waymark/api.Rule,waymark/api.Rule] -/
noncomputable def s_slices_IndexFuncLLJapi_RuleCapi_RuleJ_1 (G : Gt) (m : Mem) : Option Rs :=
  some ((.int .i64 (-1)), m)
noncomputable def s_slices_IndexFuncLLJapi_RuleCapi_RuleJ_3 (G : Gt) : Nat → Value → Value → Value → Value → Mem → Option Rs
  | 0, _, _, _, _, _ => none
  | i + 1, p8, p7, p1, p0, m =>
  bp (pur (bin .lss false true .int p8 p7) m) fun x0 m =>
  brb x0
    (bp (pur (aIndexAddrSl 10 p0 p8) m) fun x1 m =>
  bp (pur (aLoad true 10 x1 m) m) fun x2 m =>
  bp (evCall G.tab p1 [x2] m) fun x3 m =>
  brb x3
    (some (p8, m))
    (bp (pur (bin .add true true .int p8 (.int .i64 1)) m) fun x4 m =>
  (s_slices_IndexFuncLLJapi_RuleCapi_RuleJ_3 G i) x4 p7 p1 p0 m))
    (s_slices_IndexFuncLLJapi_RuleCapi_RuleJ_1 G m)
noncomputable def s_slices_IndexFuncLLJapi_RuleCapi_RuleJ_2 (G : Gt) (p8 p7 p1 p0 : Value) (m : Mem) : Option Rs :=
  s_slices_IndexFuncLLJapi_RuleCapi_RuleJ_3 G G.rds p8 p7 p1 p0 m
noncomputable def s_slices_IndexFuncLLJapi_RuleCapi_RuleJ_0 (G : Gt) (p0 p1 : Value) (m : Mem) : Option Rs :=
  bp (pur (lenK 1 p0 m) m) fun x5 m =>
  s_slices_IndexFuncLLJapi_RuleCapi_RuleJ_2 G (.int .i64 0) x5 p1 p0 m
noncomputable def s_slices_IndexFuncLLJapi_RuleCapi_RuleJ (G : Gt) (p0 p1 : Value) (m : Mem) : Option Rs :=
  s_slices_IndexFuncLLJapi_RuleCapi_RuleJ_0 G p0 p1 m
theorem e_slices_IndexFuncLLJapi_RuleCapi_RuleJ (G : Gt) (a0 a1 : Value) (m : Mem) : evFn Go.Proofs.Tryz.prog G.tab G.rds (drOf Go.Proofs.Tryz.prog G.tab) Go.Proofs.Tryz.f242 [a0, a1] m = s_slices_IndexFuncLLJapi_RuleCapi_RuleJ G a0 a1 m :=
  evFn_of (r := fun ρ m => s_slices_IndexFuncLLJapi_RuleCapi_RuleJ G (ρ 0) (ρ 1) m) rfl rfl (tr (seqQ (f := fun ρ m => s_slices_IndexFuncLLJapi_RuleCapi_RuleJ_0 G (ρ 0) (ρ 1) m) (tr (tr (seqQ (f := fun ρ m => s_slices_IndexFuncLLJapi_RuleCapi_RuleJ_1 G m) (fun ρ m => by kernel_rfl)) (seqQ (f := fun ρ m => s_slices_IndexFuncLLJapi_RuleCapi_RuleJ_2 G (ρ 8) (ρ 7) (ρ 1) (ρ 0) m) (tr (blockQ (loopQ (fun i ρ m => s_slices_IndexFuncLLJapi_RuleCapi_RuleJ_3 G i (ρ 8) (ρ 7) (ρ 1) (ρ 0) m) (fun _ _ => rfl) (fun i0 => fun ρ m => by kernel_rfl))) (fun ρ m => by kernel_rfl)))) (fun ρ m => by kernel_rfl))) (fun ρ m => by kernel_rfl)) m
noncomputable def E_slices_IndexFuncLLJapi_RuleCapi_RuleJ : Entry Go.Proofs.Tryz.prog := ⟨F_slices_IndexFuncLLJapi_RuleCapi_RuleJ, Go.Proofs.Tryz.f242, Go.Proofs.Tryz.func242, by kernel_rfl, arg2 (fun G a0 a1 m => s_slices_IndexFuncLLJapi_RuleCapi_RuleJ G a0 a1 m), okarg2 e_slices_IndexFuncLLJapi_RuleCapi_RuleJ⟩
/-! 243 waymark/filter.ports -/
noncomputable def s_filter_ports_1 (G : Gt) (p2 : Value) (m : Mem) : Option Rs :=
  some (p2, m)
noncomputable def s_filter_ports_0 (G : Gt) (p1 : Value) (m : Mem) : Option Rs :=
  bp (pur (aFieldAddr 0 p1) m) fun x0 m =>
  bp (pur (aLoad false 1 x0 m) m) fun x1 m =>
  bp (pur (aFieldAddr 1 p1) m) fun x2 m =>
  bp (pur (aLoad false 1 x2 m) m) fun x3 m =>
  bp (pur (bin .leq false true .int x1 x3) m) fun x4 m =>
  brb x4
    (bp (pur (aFieldAddr 1 p1) m) fun x5 m =>
  bp (pur (aLoad false 1 x5 m) m) fun x6 m =>
  bp (pur (bin .leq true true .int x6 (.int .u32 65535)) m) fun x7 m =>
  s_filter_ports_1 G x7 m)
    (s_filter_ports_1 G (.bool false) m)
noncomputable def s_filter_ports (G : Gt) (p0 : Value) (m : Mem) : Option Rs :=
  bp (some (aNew T_api_Span (Value.cells p0).toList m)) fun x8 m =>
  s_filter_ports_0 G x8 m
theorem e_filter_ports (G : Gt) (a0 : Value) (m : Mem) : evFn Go.Proofs.Tryz.prog G.tab G.rds (drOf Go.Proofs.Tryz.prog G.tab) Go.Proofs.Tryz.f243 [a0] m = s_filter_ports G a0 m :=
  evFn_of (r := fun ρ m => s_filter_ports G (ρ 0) m) rfl rfl (tr (seqQ (f := fun ρ m => s_filter_ports_0 G (ρ 1) m) (tr (seqQ (f := fun ρ m => s_filter_ports_1 G (ρ 2) m) (fun ρ m => by kernel_rfl)) (fun ρ m => by kernel_rfl))) (fun ρ m => by kernel_rfl)) m
noncomputable def E_filter_ports : Entry Go.Proofs.Tryz.prog := ⟨F_filter_ports, Go.Proofs.Tryz.f243, Go.Proofs.Tryz.func243, by kernel_rfl, arg1 (fun G a0 m => s_filter_ports G a0 m), okarg1 e_filter_ports⟩
end Go.Ab.Sh
