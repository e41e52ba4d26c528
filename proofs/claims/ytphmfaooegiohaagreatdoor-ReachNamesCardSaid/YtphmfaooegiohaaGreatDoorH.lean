/-
  waymarklaw26.ReachNames returns true. No conditions.
-/
import Derived.Test.YtphmfaooegiohaaGreatDoorI
import Derived.Test.YtphmfaooegiohaaGreatDoorN
import Derived.Test.YtphmfaooegiohaaGreatDoorL
namespace Go.Proofs.YtphmfaooegiohaaGreatDoor
open Go.RowKit Go.ChangeShapes Go.WideShapes Go.ChangeAt
set_option maxRecDepth 100000

theorem reachNames_holds : Rows.ReachNamesSaid :=
  OpenClaim.holds_of_wide 3 Tryz.f3 rfl rfl rfl rfl rfl rfl rfl ⟨rfl, rfl, rfl, rfl, rfl⟩ rfl rfl rfl rfl rfl (by kernel_rfl) Tryz.func3 joined
    (of_decide_eq_true (by kernel_rfl)) (by unfold Func.isWrapper; first | (rw [if_pos (by decide +kernel)]; kernel_rfl) | (rw [if_neg (by decide +kernel)]; exact ⟨rfl, rfl⟩))
    (fun os started H enc _ => lifted os started H enc)

theorem reachNames_card : Rows.ReachNamesCardSaid :=
  Claim7.holds_tied_plain_at .later [] [.data, .data, .data] true (true, "834d2dd627109f985ab55ae2f5ca1784c75e7a9dc74832b5fc010c3f8db35a25") false
    reachNames_holds (fun _ h => by cases h) c_wf (fun _ h => by cases h) reachNames_row_tie rfl ⟨rfl, rfl⟩ c_main rfl
    (fun f fn hf hfn => by
      obtain rfl : f = 3 := Option.some.inj ((show Tryz.prog.funcNamed "waymark/waymarklaw26.ReachNames" = some 3 by kernel_rfl).symm.trans hf) |>.symm
      obtain rfl : fn = Tryz.f3 := (Option.some.inj (Tryz.func3.symm.trans hfn)).symm
      exact ⟨c_looks, fun j t ht => by
        rw [Tryz.params3] at ht
        simp at ht⟩)
    c_goes
#print axioms reachNames_card

end Go.Proofs.YtphmfaooegiohaaGreatDoor
