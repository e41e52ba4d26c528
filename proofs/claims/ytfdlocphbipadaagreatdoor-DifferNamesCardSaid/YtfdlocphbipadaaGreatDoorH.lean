/-
  waymarklaw28.DifferNames returns true. No conditions.
-/
import Derived.Test.YtfdlocphbipadaaGreatDoorI
import Derived.Test.YtfdlocphbipadaaGreatDoorN
import Derived.Test.YtfdlocphbipadaaGreatDoorL
namespace Go.Proofs.YtfdlocphbipadaaGreatDoor
open Go.RowKit Go.ChangeShapes Go.WideShapes Go.ChangeAt
set_option maxRecDepth 100000

theorem differNames_holds : Rows.DifferNamesSaid :=
  OpenClaim.holds_of_wide 3 Tryz.f3 rfl rfl rfl rfl rfl rfl rfl ⟨rfl, rfl, rfl, rfl, rfl⟩ rfl rfl rfl rfl rfl (by kernel_rfl) Tryz.func3 joined
    (of_decide_eq_true (by kernel_rfl)) (by unfold Func.isWrapper; first | (rw [if_pos (by decide +kernel)]; kernel_rfl) | (rw [if_neg (by decide +kernel)]; exact ⟨rfl, rfl⟩))
    (fun os started H enc _ => lifted os started H enc)

theorem differNames_card : Rows.DifferNamesCardSaid :=
  Claim7.holds_tied_plain_at .later [] [.data, .data, .data] true (true, "245f4af06b5aa8d225a251d3c47f64f872df7bbbf899f545e7ff6bc2ad53ec7e") false
    differNames_holds (fun _ h => by cases h) c_wf (fun _ h => by cases h) differNames_row_tie rfl ⟨rfl, rfl⟩ c_main rfl
    (fun f fn hf hfn => by
      obtain rfl : f = 3 := Option.some.inj ((show Tryz.prog.funcNamed "waymark/waymarklaw28.DifferNames" = some 3 by kernel_rfl).symm.trans hf) |>.symm
      obtain rfl : fn = Tryz.f3 := (Option.some.inj (Tryz.func3.symm.trans hfn)).symm
      exact ⟨c_looks, fun j t ht => by
        rw [Tryz.params3] at ht
        simp at ht⟩)
    c_goes
#print axioms differNames_card

end Go.Proofs.YtfdlocphbipadaaGreatDoor
