/-
  waymarklaw29.AskBack: a question comes back out of its text, and no other text is read as it. Conditions: what comes in is of bulk at most 1048576 (the second form).
-/
import Derived.Test.YtbpkpklaegnkiaaGreatDoorI
import Derived.Test.YtbpkpklaegnkiaaGreatDoorN
import Derived.Test.YtbpkpklaegnkiaaGreatDoorL
set_option linter.unusedSimpArgs false
set_option linter.unusedVariables false
namespace Go.Proofs.YtbpkpklaegnkiaaGreatDoor
open Go.RowKit Go.ChangeShapes Go.WideShapes Go.ChangeAt
set_option maxRecDepth 100000

theorem askBack_holds : Rows.AskBackUptoSaid :=
  OpenClaim.holds_of_cond 3 Tryz.f3 rfl rfl rfl rfl rfl rfl rfl ⟨rfl, rfl, rfl, rfl, rfl⟩ rfl rfl rfl rfl rfl (by kernel_rfl) Tryz.func3 joined
    (of_decide_eq_true (by kernel_rfl)) (by unfold Func.isWrapper; first | (rw [if_pos (by decide +kernel)]; kernel_rfl) | (rw [if_neg (by decide +kernel)]; exact ⟨rfl, rfl⟩))
    (fun os started H enc _ F => by rw [OpenClaim.pre_eq_preRow]; exact lifted os started H enc F)

theorem askBack_card : Rows.AskBackUptoCardSaid :=
  Claim7.holds_tied_plain_at .later [] [.data, .data, .data, .pinned, .data, .sentinel, .sentinel, .data, .listed] true (true, "b4d251f6ce774b0dafcd43c766d65a5397db05ad883c880525805141d5ef3824") true
    askBack_holds (fun _ h => by cases h) c_wf (fun _ h => by cases h) askBackUpto_row_tie rfl ⟨rfl, rfl⟩ c_main rfl
    (fun f fn hf hfn => by
      obtain rfl : f = 3 := Option.some.inj ((show Tryz.prog.funcNamed "waymark/waymarklaw29.AskBack" = some 3 by kernel_rfl).symm.trans hf) |>.symm
      obtain rfl : fn = Tryz.f3 := (Option.some.inj (Tryz.func3.symm.trans hfn)).symm
      refine ⟨c_looks, fun j t ht => ?_⟩
      rw [Tryz.params3] at ht
      have : t = 9 ∨ t = 34 := by simpa using Array.mem_of_getElem? ht
      rcases this with rfl | rfl
      . exact (show Tryz.prog.wantsStandIn 9 = false by kernel_rfl)
      . exact (show Tryz.prog.wantsStandIn 34 = false by kernel_rfl))
    c_goes
#print axioms askBack_card

end Go.Proofs.YtbpkpklaegnkiaaGreatDoor
