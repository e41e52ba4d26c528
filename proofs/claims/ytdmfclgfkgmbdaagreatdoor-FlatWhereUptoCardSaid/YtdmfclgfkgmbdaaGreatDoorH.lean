/-
  The call waymarklaw13.FlatWhere returns true at every two texts, changes nothing and panics nowhere (FlatWhereUptoCardSaid). Condition: the given second form's, that what comes in is of bulk at most 1048576.
-/
import Derived.Test.YtdmfclgfkgmbdaaGreatDoorI
import Derived.Test.YtdmfclgfkgmbdaaGreatDoorN
import Derived.Test.YtdmfclgfkgmbdaaGreatDoorL
set_option linter.unusedSimpArgs false
set_option linter.unusedVariables false
namespace Go.Proofs.YtdmfclgfkgmbdaaGreatDoor
open Go.RowKit Go.ChangeShapes Go.WideShapes Go.ChangeAt
set_option maxRecDepth 100000

theorem flatWhere_holds : Rows.FlatWhereUptoSaid :=
  OpenClaim.holds_of_cond 3 Tryz.f3 rfl rfl rfl rfl rfl rfl rfl ⟨rfl, rfl, rfl, rfl, rfl⟩ rfl rfl rfl rfl rfl (by kernel_rfl) Tryz.func3 joined
    (of_decide_eq_true (by kernel_rfl)) (by unfold Func.isWrapper; first | (rw [if_pos (by decide +kernel)]; kernel_rfl) | (rw [if_neg (by decide +kernel)]; exact ⟨rfl, rfl⟩))
    (fun os started H enc _ F => by rw [OpenClaim.pre_eq_preRow]; exact lifted os started H enc F)

theorem flatWhere_card : Rows.FlatWhereUptoCardSaid :=
  Claim7.holds_tied_plain_at .later [] [.data, .data, .data, .data, .sentinel, .sentinel, .pinned] true (true, "ea2d96ed2de2447ea7d079e05fb665d7d9c4f85d5c5632150a3f0d16a4ae397f") true
    flatWhere_holds (fun _ h => by cases h) c_wf (fun _ h => by cases h) flatWhereUpto_row_tie rfl ⟨rfl, rfl⟩ c_main rfl
    (fun f fn hf hfn => by
      obtain rfl : f = 3 := Option.some.inj ((show Tryz.prog.funcNamed "waymark/waymarklaw13.FlatWhere" = some 3 by kernel_rfl).symm.trans hf) |>.symm
      obtain rfl : fn = Tryz.f3 := (Option.some.inj (Tryz.func3.symm.trans hfn)).symm
      refine ⟨c_looks, fun j t ht => ?_⟩
      rw [Tryz.params3] at ht
      have : t = 9 := by simpa using Array.mem_of_getElem? ht
      subst this
      exact (show Tryz.prog.wantsStandIn 9 = false by kernel_rfl))
    c_goes
#print axioms flatWhere_card

end Go.Proofs.YtdmfclgfkgmbdaaGreatDoor
