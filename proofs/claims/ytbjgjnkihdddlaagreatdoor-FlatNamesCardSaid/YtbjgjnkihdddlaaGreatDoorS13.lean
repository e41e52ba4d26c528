/-
  Functions of the program as plain definitions, each with the theorem that it is what the evaluator makes of the code. No conditions.
-/
import Derived.Test.YtbjgjnkihdddlaaGreatDoorAb4
import Derived.Test.YtbjgjnkihdddlaaGreatDoorZ
import Derived.KernelRfl
import Derived.Test.YtbjgjnkihdddlaaGreatDoorProg
set_option linter.unusedVariables false
set_option maxRecDepth 100000
namespace Go.Ab.Sh
open Go Go.Ab
/-! 244 slices.IndexFunc[[]waymark/api.Entry,waymark/api.Entry] -/
noncomputable def s_slices_IndexFuncLLJapi_EntryCapi_EntryJ_1 (G : Gt) (m : Mem) : Option Rs :=
  some ((.int .i64 (-1)), m)
noncomputable def s_slices_IndexFuncLLJapi_EntryCapi_EntryJ_3 (G : Gt) : Nat → Value → Value → Value → Value → Mem → Option Rs
  | 0, _, _, _, _, _ => none
  | i + 1, p8, p7, p1, p0, m =>
  bp (pur (bin .lss false true .int p8 p7) m) fun x0 m =>
  brb x0
    (bp (pur (aIndexAddrSl 5 p0 p8) m) fun x1 m =>
  bp (pur (aLoad true 5 x1 m) m) fun x2 m =>
  bp (evCall G.tab p1 [x2] m) fun x3 m =>
  brb x3
    (some (p8, m))
    (bp (pur (bin .add true true .int p8 (.int .i64 1)) m) fun x4 m =>
  (s_slices_IndexFuncLLJapi_EntryCapi_EntryJ_3 G i) x4 p7 p1 p0 m))
    (s_slices_IndexFuncLLJapi_EntryCapi_EntryJ_1 G m)
noncomputable def s_slices_IndexFuncLLJapi_EntryCapi_EntryJ_2 (G : Gt) (p8 p7 p1 p0 : Value) (m : Mem) : Option Rs :=
  s_slices_IndexFuncLLJapi_EntryCapi_EntryJ_3 G G.rds p8 p7 p1 p0 m
noncomputable def s_slices_IndexFuncLLJapi_EntryCapi_EntryJ_0 (G : Gt) (p0 p1 : Value) (m : Mem) : Option Rs :=
  bp (pur (lenK 1 p0 m) m) fun x5 m =>
  s_slices_IndexFuncLLJapi_EntryCapi_EntryJ_2 G (.int .i64 0) x5 p1 p0 m
noncomputable def s_slices_IndexFuncLLJapi_EntryCapi_EntryJ (G : Gt) (p0 p1 : Value) (m : Mem) : Option Rs :=
  s_slices_IndexFuncLLJapi_EntryCapi_EntryJ_0 G p0 p1 m
theorem e_slices_IndexFuncLLJapi_EntryCapi_EntryJ (G : Gt) (a0 a1 : Value) (m : Mem) : evFn Go.Proofs.Tryz.prog G.tab G.rds (drOf Go.Proofs.Tryz.prog G.tab) Go.Proofs.Tryz.f244 [a0, a1] m = s_slices_IndexFuncLLJapi_EntryCapi_EntryJ G a0 a1 m :=
  evFn_of (r := fun ρ m => s_slices_IndexFuncLLJapi_EntryCapi_EntryJ G (ρ 0) (ρ 1) m) rfl rfl (tr (seqQ (f := fun ρ m => s_slices_IndexFuncLLJapi_EntryCapi_EntryJ_0 G (ρ 0) (ρ 1) m) (tr (tr (seqQ (f := fun ρ m => s_slices_IndexFuncLLJapi_EntryCapi_EntryJ_1 G m) (fun ρ m => by kernel_rfl)) (seqQ (f := fun ρ m => s_slices_IndexFuncLLJapi_EntryCapi_EntryJ_2 G (ρ 8) (ρ 7) (ρ 1) (ρ 0) m) (tr (blockQ (loopQ (fun i ρ m => s_slices_IndexFuncLLJapi_EntryCapi_EntryJ_3 G i (ρ 8) (ρ 7) (ρ 1) (ρ 0) m) (fun _ _ => rfl) (fun i0 => fun ρ m => by kernel_rfl))) (fun ρ m => by kernel_rfl)))) (fun ρ m => by kernel_rfl))) (fun ρ m => by kernel_rfl)) m
noncomputable def E_slices_IndexFuncLLJapi_EntryCapi_EntryJ : Entry Go.Proofs.Tryz.prog := ⟨F_slices_IndexFuncLLJapi_EntryCapi_EntryJ, Go.Proofs.Tryz.f244, Go.Proofs.Tryz.func244, by kernel_rfl, arg2 (fun G a0 a1 m => s_slices_IndexFuncLLJapi_EntryCapi_EntryJ G a0 a1 m), okarg2 e_slices_IndexFuncLLJapi_EntryCapi_EntryJ⟩
/-! 245 slices.IndexFunc[[]waymark/api.Member,waymark/api.Member] -/
noncomputable def s_slices_IndexFuncLLJapi_MemberCapi_MemberJ_1 (G : Gt) (m : Mem) : Option Rs :=
  some ((.int .i64 (-1)), m)
noncomputable def s_slices_IndexFuncLLJapi_MemberCapi_MemberJ_3 (G : Gt) : Nat → Value → Value → Value → Value → Mem → Option Rs
  | 0, _, _, _, _, _ => none
  | i + 1, p8, p7, p1, p0, m =>
  bp (pur (bin .lss false true .int p8 p7) m) fun x0 m =>
  brb x0
    (bp (pur (aIndexAddrSl 2 p0 p8) m) fun x1 m =>
  bp (pur (aLoad true 2 x1 m) m) fun x2 m =>
  bp (evCall G.tab p1 [x2] m) fun x3 m =>
  brb x3
    (some (p8, m))
    (bp (pur (bin .add true true .int p8 (.int .i64 1)) m) fun x4 m =>
  (s_slices_IndexFuncLLJapi_MemberCapi_MemberJ_3 G i) x4 p7 p1 p0 m))
    (s_slices_IndexFuncLLJapi_MemberCapi_MemberJ_1 G m)
noncomputable def s_slices_IndexFuncLLJapi_MemberCapi_MemberJ_2 (G : Gt) (p8 p7 p1 p0 : Value) (m : Mem) : Option Rs :=
  s_slices_IndexFuncLLJapi_MemberCapi_MemberJ_3 G G.rds p8 p7 p1 p0 m
noncomputable def s_slices_IndexFuncLLJapi_MemberCapi_MemberJ_0 (G : Gt) (p0 p1 : Value) (m : Mem) : Option Rs :=
  bp (pur (lenK 1 p0 m) m) fun x5 m =>
  s_slices_IndexFuncLLJapi_MemberCapi_MemberJ_2 G (.int .i64 0) x5 p1 p0 m
noncomputable def s_slices_IndexFuncLLJapi_MemberCapi_MemberJ (G : Gt) (p0 p1 : Value) (m : Mem) : Option Rs :=
  s_slices_IndexFuncLLJapi_MemberCapi_MemberJ_0 G p0 p1 m
theorem e_slices_IndexFuncLLJapi_MemberCapi_MemberJ (G : Gt) (a0 a1 : Value) (m : Mem) : evFn Go.Proofs.Tryz.prog G.tab G.rds (drOf Go.Proofs.Tryz.prog G.tab) Go.Proofs.Tryz.f245 [a0, a1] m = s_slices_IndexFuncLLJapi_MemberCapi_MemberJ G a0 a1 m :=
  evFn_of (r := fun ρ m => s_slices_IndexFuncLLJapi_MemberCapi_MemberJ G (ρ 0) (ρ 1) m) rfl rfl (tr (seqQ (f := fun ρ m => s_slices_IndexFuncLLJapi_MemberCapi_MemberJ_0 G (ρ 0) (ρ 1) m) (tr (tr (seqQ (f := fun ρ m => s_slices_IndexFuncLLJapi_MemberCapi_MemberJ_1 G m) (fun ρ m => by kernel_rfl)) (seqQ (f := fun ρ m => s_slices_IndexFuncLLJapi_MemberCapi_MemberJ_2 G (ρ 8) (ρ 7) (ρ 1) (ρ 0) m) (tr (blockQ (loopQ (fun i ρ m => s_slices_IndexFuncLLJapi_MemberCapi_MemberJ_3 G i (ρ 8) (ρ 7) (ρ 1) (ρ 0) m) (fun _ _ => rfl) (fun i0 => fun ρ m => by kernel_rfl))) (fun ρ m => by kernel_rfl)))) (fun ρ m => by kernel_rfl))) (fun ρ m => by kernel_rfl)) m
noncomputable def E_slices_IndexFuncLLJapi_MemberCapi_MemberJ : Entry Go.Proofs.Tryz.prog := ⟨F_slices_IndexFuncLLJapi_MemberCapi_MemberJ, Go.Proofs.Tryz.f245, Go.Proofs.Tryz.func245, by kernel_rfl, arg2 (fun G a0 a1 m => s_slices_IndexFuncLLJapi_MemberCapi_MemberJ G a0 a1 m), okarg2 e_slices_IndexFuncLLJapi_MemberCapi_MemberJ⟩
/-! 246 slices.Index[[]uint32,uint32] -/
noncomputable def s_slices_IndexLLJuint32Cuint32J_1 (G : Gt) (m : Mem) : Option Rs :=
  some ((.int .i64 (-1)), m)
noncomputable def s_slices_IndexLLJuint32Cuint32J_3 (G : Gt) : Nat → Value → Value → Value → Value → Mem → Option Rs
  | 0, _, _, _, _, _ => none
  | i + 1, p8, p7, p1, p0, m =>
  bp (pur (bin .lss false true .int p8 p7) m) fun x0 m =>
  brb x0
    (bp (pur (aIndexAddrSl 1 p0 p8) m) fun x1 m =>
  bp (pur (aLoad false 1 x1 m) m) fun x2 m =>
  bp (pur (bin .eql false true .int p1 x2) m) fun x3 m =>
  brb x3
    (some (p8, m))
    (bp (pur (bin .add true true .int p8 (.int .i64 1)) m) fun x4 m =>
  (s_slices_IndexLLJuint32Cuint32J_3 G i) x4 p7 p1 p0 m))
    (s_slices_IndexLLJuint32Cuint32J_1 G m)
noncomputable def s_slices_IndexLLJuint32Cuint32J_2 (G : Gt) (p8 p7 p1 p0 : Value) (m : Mem) : Option Rs :=
  s_slices_IndexLLJuint32Cuint32J_3 G G.rds p8 p7 p1 p0 m
noncomputable def s_slices_IndexLLJuint32Cuint32J_0 (G : Gt) (p0 p1 : Value) (m : Mem) : Option Rs :=
  bp (pur (lenK 1 p0 m) m) fun x5 m =>
  s_slices_IndexLLJuint32Cuint32J_2 G (.int .i64 0) x5 p1 p0 m
noncomputable def s_slices_IndexLLJuint32Cuint32J (G : Gt) (p0 p1 : Value) (m : Mem) : Option Rs :=
  s_slices_IndexLLJuint32Cuint32J_0 G p0 p1 m
theorem e_slices_IndexLLJuint32Cuint32J (G : Gt) (a0 a1 : Value) (m : Mem) : evFn Go.Proofs.Tryz.prog G.tab G.rds (drOf Go.Proofs.Tryz.prog G.tab) Go.Proofs.Tryz.f246 [a0, a1] m = s_slices_IndexLLJuint32Cuint32J G a0 a1 m :=
  evFn_of (r := fun ρ m => s_slices_IndexLLJuint32Cuint32J G (ρ 0) (ρ 1) m) rfl rfl (tr (seqQ (f := fun ρ m => s_slices_IndexLLJuint32Cuint32J_0 G (ρ 0) (ρ 1) m) (tr (tr (seqQ (f := fun ρ m => s_slices_IndexLLJuint32Cuint32J_1 G m) (fun ρ m => by kernel_rfl)) (seqQ (f := fun ρ m => s_slices_IndexLLJuint32Cuint32J_2 G (ρ 8) (ρ 7) (ρ 1) (ρ 0) m) (tr (blockQ (loopQ (fun i ρ m => s_slices_IndexLLJuint32Cuint32J_3 G i (ρ 8) (ρ 7) (ρ 1) (ρ 0) m) (fun _ _ => rfl) (fun i0 => fun ρ m => by kernel_rfl))) (fun ρ m => by kernel_rfl)))) (fun ρ m => by kernel_rfl))) (fun ρ m => by kernel_rfl)) m
noncomputable def E_slices_IndexLLJuint32Cuint32J : Entry Go.Proofs.Tryz.prog := ⟨F_slices_IndexLLJuint32Cuint32J, Go.Proofs.Tryz.f246, Go.Proofs.Tryz.func246, by kernel_rfl, arg2 (fun G a0 a1 m => s_slices_IndexLLJuint32Cuint32J G a0 a1 m), okarg2 e_slices_IndexLLJuint32Cuint32J⟩
/-! 247 slices.IndexFunc[[]waymark/api.OSPF,waymark/api.OSPF] -/
noncomputable def s_slices_IndexFuncLLJapi_OSPFCapi_OSPFJ_1 (G : Gt) (m : Mem) : Option Rs :=
  some ((.int .i64 (-1)), m)
noncomputable def s_slices_IndexFuncLLJapi_OSPFCapi_OSPFJ_3 (G : Gt) : Nat → Value → Value → Value → Value → Mem → Option Rs
  | 0, _, _, _, _, _ => none
  | i + 1, p8, p7, p1, p0, m =>
  bp (pur (bin .lss false true .int p8 p7) m) fun x0 m =>
  brb x0
    (bp (pur (aIndexAddrSl 3 p0 p8) m) fun x1 m =>
  bp (pur (aLoad true 3 x1 m) m) fun x2 m =>
  bp (evCall G.tab p1 [x2] m) fun x3 m =>
  brb x3
    (some (p8, m))
    (bp (pur (bin .add true true .int p8 (.int .i64 1)) m) fun x4 m =>
  (s_slices_IndexFuncLLJapi_OSPFCapi_OSPFJ_3 G i) x4 p7 p1 p0 m))
    (s_slices_IndexFuncLLJapi_OSPFCapi_OSPFJ_1 G m)
noncomputable def s_slices_IndexFuncLLJapi_OSPFCapi_OSPFJ_2 (G : Gt) (p8 p7 p1 p0 : Value) (m : Mem) : Option Rs :=
  s_slices_IndexFuncLLJapi_OSPFCapi_OSPFJ_3 G G.rds p8 p7 p1 p0 m
noncomputable def s_slices_IndexFuncLLJapi_OSPFCapi_OSPFJ_0 (G : Gt) (p0 p1 : Value) (m : Mem) : Option Rs :=
  bp (pur (lenK 1 p0 m) m) fun x5 m =>
  s_slices_IndexFuncLLJapi_OSPFCapi_OSPFJ_2 G (.int .i64 0) x5 p1 p0 m
noncomputable def s_slices_IndexFuncLLJapi_OSPFCapi_OSPFJ (G : Gt) (p0 p1 : Value) (m : Mem) : Option Rs :=
  s_slices_IndexFuncLLJapi_OSPFCapi_OSPFJ_0 G p0 p1 m
theorem e_slices_IndexFuncLLJapi_OSPFCapi_OSPFJ (G : Gt) (a0 a1 : Value) (m : Mem) : evFn Go.Proofs.Tryz.prog G.tab G.rds (drOf Go.Proofs.Tryz.prog G.tab) Go.Proofs.Tryz.f247 [a0, a1] m = s_slices_IndexFuncLLJapi_OSPFCapi_OSPFJ G a0 a1 m :=
  evFn_of (r := fun ρ m => s_slices_IndexFuncLLJapi_OSPFCapi_OSPFJ G (ρ 0) (ρ 1) m) rfl rfl (tr (seqQ (f := fun ρ m => s_slices_IndexFuncLLJapi_OSPFCapi_OSPFJ_0 G (ρ 0) (ρ 1) m) (tr (tr (seqQ (f := fun ρ m => s_slices_IndexFuncLLJapi_OSPFCapi_OSPFJ_1 G m) (fun ρ m => by kernel_rfl)) (seqQ (f := fun ρ m => s_slices_IndexFuncLLJapi_OSPFCapi_OSPFJ_2 G (ρ 8) (ρ 7) (ρ 1) (ρ 0) m) (tr (blockQ (loopQ (fun i ρ m => s_slices_IndexFuncLLJapi_OSPFCapi_OSPFJ_3 G i (ρ 8) (ρ 7) (ρ 1) (ρ 0) m) (fun _ _ => rfl) (fun i0 => fun ρ m => by kernel_rfl))) (fun ρ m => by kernel_rfl)))) (fun ρ m => by kernel_rfl))) (fun ρ m => by kernel_rfl)) m
noncomputable def E_slices_IndexFuncLLJapi_OSPFCapi_OSPFJ : Entry Go.Proofs.Tryz.prog := ⟨F_slices_IndexFuncLLJapi_OSPFCapi_OSPFJ, Go.Proofs.Tryz.f247, Go.Proofs.Tryz.func247, by kernel_rfl, arg2 (fun G a0 a1 m => s_slices_IndexFuncLLJapi_OSPFCapi_OSPFJ G a0 a1 m), okarg2 e_slices_IndexFuncLLJapi_OSPFCapi_OSPFJ⟩
/-! 248 waymark/model.first[waymark/api.OSPF]$1 -/
noncomputable def s_model_firstLapi_OSPFJS1 (G : Gt) (p0 p1 p2 p3 : Value) (m : Mem) : Option Rs :=
  bp (some (aNew T_api_OSPF (Value.cells p0).toList m)) fun x0 m =>
  bp (pur (aLoad false 1 p1 m) m) fun x1 m =>
  bp (pur (aLoad true 3 x0 m) m) fun x2 m =>
  bp (pur (aLoad false 1 p1 m) m) fun x3 m =>
  bp (pur (aLoad false 1 p2 m) m) fun x4 m =>
  bp (pur (aLoad false 1 p3 m) m) fun x5 m =>
  bp (pur (aIndexAddrSl 3 x4 x5) m) fun x6 m =>
  bp (pur (aLoad true 3 x6 m) m) fun x7 m =>
  bp (evCall G.tab x1 [x2] m) fun x8 m =>
  ckB (again (pur (aLoad false 1 p1 m) m) x3 && (again (pur (aLoad false 1 p2 m) m) x4 && (again (pur (aLoad false 1 p3 m) m) x5 && (again (pur (aLoad true 3 x6 m) m) x7 && true))))
    (bp (evCall G.tab x3 [x7] m) fun x9 m =>
  bp (pur (bin .eql false true .str x8 x9) m) fun x10 m =>
  some (x10, m))
theorem e_model_firstLapi_OSPFJS1 (G : Gt) (a0 a1 a2 a3 : Value) (m : Mem) : evFn Go.Proofs.Tryz.prog G.tab G.rds (drOf Go.Proofs.Tryz.prog G.tab) Go.Proofs.Tryz.f248 [a0, a1, a2, a3] m = s_model_firstLapi_OSPFJS1 G a0 a1 a2 a3 m :=
  evFn_of (r := fun ρ m => s_model_firstLapi_OSPFJS1 G (ρ 0) (ρ 1) (ρ 2) (ρ 3) m) rfl rfl (fun ρ m => by kernel_rfl) m
noncomputable def E_model_firstLapi_OSPFJS1 : Entry Go.Proofs.Tryz.prog := ⟨F_model_firstLapi_OSPFJS1, Go.Proofs.Tryz.f248, Go.Proofs.Tryz.func248, by kernel_rfl, arg4 (fun G a0 a1 a2 a3 m => s_model_firstLapi_OSPFJS1 G a0 a1 a2 a3 m), okarg4 e_model_firstLapi_OSPFJS1⟩
/-! 249 slices.IndexFunc[[]waymark/api.BGP,waymark/api.BGP] -/
noncomputable def s_slices_IndexFuncLLJapi_BGPCapi_BGPJ_1 (G : Gt) (m : Mem) : Option Rs :=
  some ((.int .i64 (-1)), m)
noncomputable def s_slices_IndexFuncLLJapi_BGPCapi_BGPJ_3 (G : Gt) : Nat → Value → Value → Value → Value → Mem → Option Rs
  | 0, _, _, _, _, _ => none
  | i + 1, p8, p7, p1, p0, m =>
  bp (pur (bin .lss false true .int p8 p7) m) fun x0 m =>
  brb x0
    (bp (pur (aIndexAddrSl 6 p0 p8) m) fun x1 m =>
  bp (pur (aLoad true 6 x1 m) m) fun x2 m =>
  bp (evCall G.tab p1 [x2] m) fun x3 m =>
  brb x3
    (some (p8, m))
    (bp (pur (bin .add true true .int p8 (.int .i64 1)) m) fun x4 m =>
  (s_slices_IndexFuncLLJapi_BGPCapi_BGPJ_3 G i) x4 p7 p1 p0 m))
    (s_slices_IndexFuncLLJapi_BGPCapi_BGPJ_1 G m)
noncomputable def s_slices_IndexFuncLLJapi_BGPCapi_BGPJ_2 (G : Gt) (p8 p7 p1 p0 : Value) (m : Mem) : Option Rs :=
  s_slices_IndexFuncLLJapi_BGPCapi_BGPJ_3 G G.rds p8 p7 p1 p0 m
noncomputable def s_slices_IndexFuncLLJapi_BGPCapi_BGPJ_0 (G : Gt) (p0 p1 : Value) (m : Mem) : Option Rs :=
  bp (pur (lenK 1 p0 m) m) fun x5 m =>
  s_slices_IndexFuncLLJapi_BGPCapi_BGPJ_2 G (.int .i64 0) x5 p1 p0 m
noncomputable def s_slices_IndexFuncLLJapi_BGPCapi_BGPJ (G : Gt) (p0 p1 : Value) (m : Mem) : Option Rs :=
  s_slices_IndexFuncLLJapi_BGPCapi_BGPJ_0 G p0 p1 m
theorem e_slices_IndexFuncLLJapi_BGPCapi_BGPJ (G : Gt) (a0 a1 : Value) (m : Mem) : evFn Go.Proofs.Tryz.prog G.tab G.rds (drOf Go.Proofs.Tryz.prog G.tab) Go.Proofs.Tryz.f249 [a0, a1] m = s_slices_IndexFuncLLJapi_BGPCapi_BGPJ G a0 a1 m :=
  evFn_of (r := fun ρ m => s_slices_IndexFuncLLJapi_BGPCapi_BGPJ G (ρ 0) (ρ 1) m) rfl rfl (tr (seqQ (f := fun ρ m => s_slices_IndexFuncLLJapi_BGPCapi_BGPJ_0 G (ρ 0) (ρ 1) m) (tr (tr (seqQ (f := fun ρ m => s_slices_IndexFuncLLJapi_BGPCapi_BGPJ_1 G m) (fun ρ m => by kernel_rfl)) (seqQ (f := fun ρ m => s_slices_IndexFuncLLJapi_BGPCapi_BGPJ_2 G (ρ 8) (ρ 7) (ρ 1) (ρ 0) m) (tr (blockQ (loopQ (fun i ρ m => s_slices_IndexFuncLLJapi_BGPCapi_BGPJ_3 G i (ρ 8) (ρ 7) (ρ 1) (ρ 0) m) (fun _ _ => rfl) (fun i0 => fun ρ m => by kernel_rfl))) (fun ρ m => by kernel_rfl)))) (fun ρ m => by kernel_rfl))) (fun ρ m => by kernel_rfl)) m
noncomputable def E_slices_IndexFuncLLJapi_BGPCapi_BGPJ : Entry Go.Proofs.Tryz.prog := ⟨F_slices_IndexFuncLLJapi_BGPCapi_BGPJ, Go.Proofs.Tryz.f249, Go.Proofs.Tryz.func249, by kernel_rfl, arg2 (fun G a0 a1 m => s_slices_IndexFuncLLJapi_BGPCapi_BGPJ G a0 a1 m), okarg2 e_slices_IndexFuncLLJapi_BGPCapi_BGPJ⟩
/-! 250 waymark/model.first[waymark/api.BGP]$1 -/
noncomputable def s_model_firstLapi_BGPJS1 (G : Gt) (p0 p1 p2 p3 : Value) (m : Mem) : Option Rs :=
  bp (some (aNew T_api_BGP (Value.cells p0).toList m)) fun x0 m =>
  bp (pur (aLoad false 1 p1 m) m) fun x1 m =>
  bp (pur (aLoad true 6 x0 m) m) fun x2 m =>
  bp (pur (aLoad false 1 p1 m) m) fun x3 m =>
  bp (pur (aLoad false 1 p2 m) m) fun x4 m =>
  bp (pur (aLoad false 1 p3 m) m) fun x5 m =>
  bp (pur (aIndexAddrSl 6 x4 x5) m) fun x6 m =>
  bp (pur (aLoad true 6 x6 m) m) fun x7 m =>
  bp (evCall G.tab x1 [x2] m) fun x8 m =>
  ckB (again (pur (aLoad false 1 p1 m) m) x3 && (again (pur (aLoad false 1 p2 m) m) x4 && (again (pur (aLoad false 1 p3 m) m) x5 && (again (pur (aLoad true 6 x6 m) m) x7 && true))))
    (bp (evCall G.tab x3 [x7] m) fun x9 m =>
  bp (pur (bin .eql false true .str x8 x9) m) fun x10 m =>
  some (x10, m))
theorem e_model_firstLapi_BGPJS1 (G : Gt) (a0 a1 a2 a3 : Value) (m : Mem) : evFn Go.Proofs.Tryz.prog G.tab G.rds (drOf Go.Proofs.Tryz.prog G.tab) Go.Proofs.Tryz.f250 [a0, a1, a2, a3] m = s_model_firstLapi_BGPJS1 G a0 a1 a2 a3 m :=
  evFn_of (r := fun ρ m => s_model_firstLapi_BGPJS1 G (ρ 0) (ρ 1) (ρ 2) (ρ 3) m) rfl rfl (fun ρ m => by kernel_rfl) m
noncomputable def E_model_firstLapi_BGPJS1 : Entry Go.Proofs.Tryz.prog := ⟨F_model_firstLapi_BGPJS1, Go.Proofs.Tryz.f250, Go.Proofs.Tryz.func250, by kernel_rfl, arg4 (fun G a0 a1 a2 a3 m => s_model_firstLapi_BGPJS1 G a0 a1 a2 a3 m), okarg4 e_model_firstLapi_BGPJS1⟩
end Go.Ab.Sh
