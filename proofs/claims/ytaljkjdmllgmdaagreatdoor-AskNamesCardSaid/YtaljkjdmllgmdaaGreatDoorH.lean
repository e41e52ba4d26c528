/-
  waymarklaw29.AskNames returns true. No conditions.
-/
import Derived.Test.YtaljkjdmllgmdaaGreatDoorI
import Derived.Test.YtaljkjdmllgmdaaGreatDoorN
import Derived.Test.YtaljkjdmllgmdaaGreatDoorL
set_option linter.unusedSimpArgs false
set_option linter.unusedVariables false
namespace Go.Proofs.YtaljkjdmllgmdaaGreatDoor
open Go.RowKit Go.ChangeShapes Go.WideShapes Go.ChangeAt
set_option maxRecDepth 100000

theorem askNames_holds : Rows.AskNamesSaid :=
  OpenClaim.holds_of_wide 3 Tryz.f3 rfl rfl rfl rfl rfl rfl rfl ⟨rfl, rfl, rfl, rfl, rfl⟩ rfl rfl rfl rfl rfl (by kernel_rfl) Tryz.func3 joined
    (of_decide_eq_true (by kernel_rfl)) (by unfold Func.isWrapper; first | (rw [if_pos (by decide +kernel)]; kernel_rfl) | (rw [if_neg (by decide +kernel)]; exact ⟨rfl, rfl⟩))
    (fun os started H enc _ => lifted os started H enc)

theorem askNames_card : Rows.AskNamesCardSaid :=
  Claim7.holds_tied_plain_at .later [] [.data, .data, .data, .pinned, .data, .sentinel, .sentinel, .data, .listed] true (true, "d02b5a5a2fe801bd33b99a12e8b245a8f23266854dc901dc3fe3fdec8c5e18da") true
    askNames_holds (fun _ h => by cases h) c_wf (fun _ h => by cases h) askNames_row_tie rfl ⟨rfl, rfl⟩ c_main rfl
    (fun f fn hf hfn => by
      obtain rfl : f = 3 := Option.some.inj ((show Tryz.prog.funcNamed "waymark/waymarklaw29.AskNames" = some 3 by kernel_rfl).symm.trans hf) |>.symm
      obtain rfl : fn = Tryz.f3 := (Option.some.inj (Tryz.func3.symm.trans hfn)).symm
      exact ⟨c_looks, fun j t ht => by
        rw [Tryz.params3] at ht
        simp at ht⟩)
    c_goes
#print axioms askNames_card

end Go.Proofs.YtaljkjdmllgmdaaGreatDoor
