/-
  The call waymarklaw13.FlatBlanks returns true at every text and every number, changes nothing and panics nowhere (FlatBlanksUptoCardSaid). Condition: the given second form's, that what comes in is of bulk at most 1048576.
-/
import Derived.Test.YteognfejlpbmoaaGreatDoorI
import Derived.Test.YteognfejlpbmoaaGreatDoorN
import Derived.Test.YteognfejlpbmoaaGreatDoorL
set_option linter.unusedSimpArgs false
set_option linter.unusedVariables false
namespace Go.Proofs.YteognfejlpbmoaaGreatDoor
open Go.RowKit Go.ChangeShapes Go.WideShapes Go.ChangeAt
set_option maxRecDepth 100000

theorem flatBlanks_holds : Rows.FlatBlanksUptoSaid :=
  OpenClaim.holds_of_cond 3 Tryz.f3 rfl rfl rfl rfl rfl rfl rfl ⟨rfl, rfl, rfl, rfl, rfl⟩ rfl rfl rfl rfl rfl (by kernel_rfl) Tryz.func3 joined
    (of_decide_eq_true (by kernel_rfl)) (by unfold Func.isWrapper; first | (rw [if_pos (by decide +kernel)]; kernel_rfl) | (rw [if_neg (by decide +kernel)]; exact ⟨rfl, rfl⟩))
    (fun os started H enc _ F => by rw [OpenClaim.pre_eq_preRow]; exact lifted os started H enc F)

theorem flatBlanks_card : Rows.FlatBlanksUptoCardSaid :=
  Claim7.holds_tied_plain_at .later [] [.data, .data, .data, .data, .sentinel, .sentinel, .pinned] true (true, "81a751da8b1e7d0937cffeff06dc69dfa2140a6e68559b5550a3700fc3d381e9") true
    flatBlanks_holds (fun _ h => by cases h) c_wf (fun _ h => by cases h) flatBlanksUpto_row_tie rfl ⟨rfl, rfl⟩ c_main rfl
    (fun f fn hf hfn => by
      obtain rfl : f = 3 := Option.some.inj ((show Tryz.prog.funcNamed "waymark/waymarklaw13.FlatBlanks" = some 3 by kernel_rfl).symm.trans hf) |>.symm
      obtain rfl : fn = Tryz.f3 := (Option.some.inj (Tryz.func3.symm.trans hfn)).symm
      refine ⟨c_looks, fun j t ht => ?_⟩
      rw [Tryz.params3] at ht
      have : t = 9 ∨ t = 3 := by simpa using Array.mem_of_getElem? ht
      rcases this with rfl | rfl
      . exact (show Tryz.prog.wantsStandIn 9 = false by kernel_rfl)
      . exact (show Tryz.prog.wantsStandIn 3 = false by kernel_rfl))
    c_goes
#print axioms flatBlanks_card

end Go.Proofs.YteognfejlpbmoaaGreatDoor
