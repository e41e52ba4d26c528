/-
  waymarklaw29.AskReads: a text is read as the question that the document says, or as none, and a question is written so; a count has its digits. Conditions: what comes in is of bulk at most 1048576 (the second form).
-/
import Derived.Test.YtjnfcoeninejbaaGreatDoorI
import Derived.Test.YtjnfcoeninejbaaGreatDoorN
import Derived.Test.YtjnfcoeninejbaaGreatDoorL
namespace Go.Proofs.YtjnfcoeninejbaaGreatDoor
open Go.RowKit Go.ChangeShapes Go.WideShapes Go.ChangeAt
set_option maxRecDepth 100000

theorem askReads_holds : Rows.AskReadsUptoSaid :=
  OpenClaim.holds_of_cond 3 Tryz.f3 rfl rfl rfl rfl rfl rfl rfl ⟨rfl, rfl, rfl, rfl, rfl⟩ rfl rfl rfl rfl rfl (by kernel_rfl) Tryz.func3 joined
    (of_decide_eq_true (by kernel_rfl)) (by unfold Func.isWrapper; first | (rw [if_pos (by decide +kernel)]; kernel_rfl) | (rw [if_neg (by decide +kernel)]; exact ⟨rfl, rfl⟩))
    (fun os started H enc _ F => by rw [OpenClaim.pre_eq_preRow]; exact lifted os started H enc F)

theorem askReads_card : Rows.AskReadsUptoCardSaid :=
  Claim7.holds_tied_plain_at .later [] [.data, .data, .data, .data, .sentinel, .sentinel, .listed, .data, .pinned] true (true, "a69ed289f2a4f439a918377ca9b6c62bba576d20ed8fb421ab0365f80cf5fe52") true
    askReads_holds (fun _ h => by cases h) c_wf (fun _ h => by cases h) askReadsUpto_row_tie rfl ⟨rfl, rfl⟩ c_main rfl
    (fun f fn hf hfn => by
      obtain rfl : f = 3 := Option.some.inj ((show Tryz.prog.funcNamed "waymark/waymarklaw29.AskReads" = some 3 by kernel_rfl).symm.trans hf) |>.symm
      obtain rfl : fn = Tryz.f3 := (Option.some.inj (Tryz.func3.symm.trans hfn)).symm
      refine ⟨c_looks, fun j t ht => ?_⟩
      rw [Tryz.params3] at ht
      have : t = 9 ∨ t = 34 ∨ t = 37 := by simpa using Array.mem_of_getElem? ht
      rcases this with rfl | rfl | rfl
      . exact (show Tryz.prog.wantsStandIn 9 = false by kernel_rfl)
      . exact (show Tryz.prog.wantsStandIn 34 = false by kernel_rfl)
      . exact (show Tryz.prog.wantsStandIn 37 = false by kernel_rfl))
    c_goes
#print axioms askReads_card

end Go.Proofs.YtjnfcoeninejbaaGreatDoor
