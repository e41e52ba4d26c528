/-
  waymarklaw15.NestedNames returns true. No conditions.
-/
import Derived.Test.YtchdjkidnjfcjaaGreatDoorI
import Derived.Test.YtchdjkidnjfcjaaGreatDoorJ
namespace Go.Proofs.YtchdjkidnjfcjaaGreatDoor
open Go.RowKit Go.ChangeShapes Go.WideShapes Go.ChangeAt
set_option maxRecDepth 100000

theorem nestedNames_holds : Rows.NestedNamesSaid :=
  OpenClaim.holds_of_wide 3 Tryz.f3 rfl rfl rfl rfl rfl rfl rfl ⟨rfl, rfl, rfl, rfl, rfl⟩ rfl rfl rfl rfl rfl (by kernel_rfl) Tryz.func3 joined
    (of_decide_eq_true (by kernel_rfl)) (by unfold Func.isWrapper; first | (rw [if_pos (by decide +kernel)]; kernel_rfl) | (rw [if_neg (by decide +kernel)]; exact ⟨rfl, rfl⟩))
    (fun os started H enc _ => lifted os started H enc)

theorem nestedNames_card : Rows.NestedNamesCardSaid :=
  Claim7.holds_tied_plain_at .later [] [.data, .data, .data, .data, .sentinel, .sentinel, .listed, .data, .pinned] true (true, "86fdde24daad600a73486e2416bef0d7e7d515dc524b004baf666f1c48d15221") true
    nestedNames_holds (fun _ h => by cases h) c_wf (fun _ h => by cases h) nestedNames_row_tie rfl ⟨rfl, rfl⟩ c_main rfl
    (fun f fn hf hfn => by
      obtain rfl : f = 3 := Option.some.inj ((show Tryz.prog.funcNamed "waymark/waymarklaw15.NestedNames" = some 3 by kernel_rfl).symm.trans hf) |>.symm
      obtain rfl : fn = Tryz.f3 := (Option.some.inj (Tryz.func3.symm.trans hfn)).symm
      exact ⟨c_looks, fun j t ht => by
        rw [Tryz.params3] at ht
        simp at ht⟩)
    c_goes
#print axioms nestedNames_card

end Go.Proofs.YtchdjkidnjfcjaaGreatDoor
