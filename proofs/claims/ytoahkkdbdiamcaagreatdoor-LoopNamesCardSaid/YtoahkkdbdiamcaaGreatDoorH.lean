/-
  waymarklaw27.LoopNames returns true. No conditions.
-/
import Derived.Test.YtoahkkdbdiamcaaGreatDoorI
import Derived.Test.YtoahkkdbdiamcaaGreatDoorN
import Derived.Test.YtoahkkdbdiamcaaGreatDoorL
namespace Go.Proofs.YtoahkkdbdiamcaaGreatDoor
open Go.RowKit Go.ChangeShapes Go.WideShapes Go.ChangeAt
set_option maxRecDepth 100000

theorem loopNames_holds : Rows.LoopNamesSaid :=
  OpenClaim.holds_of_wide 3 Tryz.f3 rfl rfl rfl rfl rfl rfl rfl ⟨rfl, rfl, rfl, rfl, rfl⟩ rfl rfl rfl rfl rfl (by kernel_rfl) Tryz.func3 joined
    (of_decide_eq_true (by kernel_rfl)) (by unfold Func.isWrapper; first | (rw [if_pos (by decide +kernel)]; kernel_rfl) | (rw [if_neg (by decide +kernel)]; exact ⟨rfl, rfl⟩))
    (fun os started H enc _ => lifted os started H enc)

theorem loopNames_card : Rows.LoopNamesCardSaid :=
  Claim7.holds_tied_plain_at .later [] [.data, .data, .data] true (true, "81b99ff88c4442a3a924bac2509652fde740004cf05e4bb7be2996f716de363a") false
    loopNames_holds (fun _ h => by cases h) c_wf (fun _ h => by cases h) loopNames_row_tie rfl ⟨rfl, rfl⟩ c_main rfl
    (fun f fn hf hfn => by
      obtain rfl : f = 3 := Option.some.inj ((show Tryz.prog.funcNamed "waymark/waymarklaw27.LoopNames" = some 3 by kernel_rfl).symm.trans hf) |>.symm
      obtain rfl : fn = Tryz.f3 := (Option.some.inj (Tryz.func3.symm.trans hfn)).symm
      exact ⟨c_looks, fun j t ht => by
        rw [Tryz.params3] at ht
        simp at ht⟩)
    c_goes
#print axioms loopNames_card

end Go.Proofs.YtoahkkdbdiamcaaGreatDoor
