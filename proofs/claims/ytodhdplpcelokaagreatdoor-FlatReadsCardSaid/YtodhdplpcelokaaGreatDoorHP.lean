/-
  The call waymarklaw13.FlatReads returns true at every text, changes nothing and panics nowhere (FlatReadsCardSaid). Condition: the given second form's, that what comes in is of bulk at most 1048576.
-/
import Derived.Test.YtodhdplpcelokaaGreatDoorIP
import Derived.Test.YtodhdplpcelokaaGreatDoorNP
import Derived.Test.YtodhdplpcelokaaGreatDoorLP
namespace Go.Proofs.YtodhdplpcelokaaGreatDoor
open Go.RowKit Go.ChangeShapes Go.WideShapes Go.ChangeAt
set_option linter.all false
set_option maxRecDepth 100000

theorem XqT : Rows.FlatReadsSaid :=
  OpenClaim.holds_of_cond 3 Tryz.f3 rfl rfl rfl rfl rfl rfl rfl ⟨rfl,rfl,rfl,rfl,rfl⟩ rfl rfl rfl rfl rfl (by kernel_rfl) Tryz.func3 XrD
    (of_decide_eq_true (by kernel_rfl)) (by unfold Func.isWrapper;first|(rw[if_pos (by decide +kernel)];kernel_rfl)|(rw[if_neg (by decide +kernel)];exact⟨rfl,rfl⟩))
    (λos a H b _ F => by rw[OpenClaim.pre_eq_preRow];exact lifted os a H b F)

theorem flatReads_card : Rows.FlatReadsCardSaid :=
  Claim7.holds_tied_plain_at .later [] [.data,.data,.data,.data,.sentinel,.sentinel,.pinned] true (true,"ca661ca5f94a6d691bb90680f37522a7587ce0cc8f9c0f7e0e11d5315fc12572") true
    XqT (λ_ h => by cases h) XqM (λ_ h => by cases h) flatReads_row_tie rfl ⟨rfl,rfl⟩ XpW rfl
    (λf fn hf a => by
      obtain rfl : f = 3 := Option.some.inj ((show Tryz.prog.funcNamed "waymark/waymarklaw13.FlatReads" = some 3 by kernel_rfl).symm.trans hf) |>.symm
      obtain rfl : fn = Tryz.f3 := (Option.some.inj (Tryz.func3.symm.trans a)).symm
      refine⟨XpU,λj t b => ?_⟩
      rw[Tryz.params3]at b
      have : t = 9 := by simpa using Array.mem_of_getElem? b
      subst this
      exact(show Tryz.prog.wantsStandIn 9 = false by kernel_rfl))
    XpJ
#print axioms flatReads_card

end Go.Proofs.YtodhdplpcelokaaGreatDoor
