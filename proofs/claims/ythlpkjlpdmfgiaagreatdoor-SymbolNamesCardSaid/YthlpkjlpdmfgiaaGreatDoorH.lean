/-
  waymarklaw25.SymbolNames returns true. No conditions.
-/
import Derived.Test.YthlpkjlpdmfgiaaGreatDoorI
import Derived.Test.YthlpkjlpdmfgiaaGreatDoorN
import Derived.Test.YthlpkjlpdmfgiaaGreatDoorL
namespace Go.Proofs.YthlpkjlpdmfgiaaGreatDoor
open Go.RowKit Go.ChangeShapes Go.WideShapes Go.ChangeAt
set_option maxRecDepth 100000

theorem symbolNames_holds : Rows.SymbolNamesSaid :=
  OpenClaim.holds_of_wide 3 Tryz.f3 rfl rfl rfl rfl rfl rfl rfl ⟨rfl, rfl, rfl, rfl, rfl⟩ rfl rfl rfl rfl rfl (by kernel_rfl) Tryz.func3 joined
    (of_decide_eq_true (by kernel_rfl)) (by unfold Func.isWrapper; first | (rw [if_pos (by decide +kernel)]; kernel_rfl) | (rw [if_neg (by decide +kernel)]; exact ⟨rfl, rfl⟩))
    (fun os started H enc _ => lifted os started H enc)

theorem symbolNames_card : Rows.SymbolNamesCardSaid :=
  Claim7.holds_tied_plain_at .later [] [.data, .data, .data] true (true, "a015b871c5d34c617622c12a48a2f04892408026f920eaec6d14127c0d84a710") false
    symbolNames_holds (fun _ h => by cases h) c_wf (fun _ h => by cases h) symbolNames_row_tie rfl ⟨rfl, rfl⟩ c_main rfl
    (fun f fn hf hfn => by
      obtain rfl : f = 3 := Option.some.inj ((show Tryz.prog.funcNamed "waymark/waymarklaw25.SymbolNames" = some 3 by kernel_rfl).symm.trans hf) |>.symm
      obtain rfl : fn = Tryz.f3 := (Option.some.inj (Tryz.func3.symm.trans hfn)).symm
      exact ⟨c_looks, fun j t ht => by
        rw [Tryz.params3] at ht
        simp at ht⟩)
    c_goes
#print axioms symbolNames_card

end Go.Proofs.YthlpkjlpdmfgiaaGreatDoor
