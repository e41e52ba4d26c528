/-
  No go statement stands in the program. No conditions.
-/
import Derived.Test.YteognfejlpbmoaaGreatDoorRows
import Derived.Test.YteognfejlpbmoaaGreatDoorCards
import Derived.SevenTiedAt
import Derived.ProofKit
set_option linter.unusedSimpArgs false
set_option linter.unusedVariables false
namespace Go.Proofs.YteognfejlpbmoaaGreatDoor
set_option maxRecDepth 100000
theorem Xqj {P : Program} (h : P.funcs.toList.any Func.goes = false) (f : FuncId) : P.goes f = false := by
  unfold Program.goes
  have h1 := h
  rw [Array.any_toList] at h1
  rw [h1, Bool.and_false, Bool.or_false, List.any_eq_false]
  intro g _
  cases hg : P.funcs[g]? with
  | none => simp
  | some fn =>
    have hm : fn ∈ P.funcs.toList := Array.mem_toList_iff.mpr (Array.mem_of_getElem? hg)
    rw [List.any_eq_false] at h
    simpa using h fn hm
theorem Xst {P : Program} (h : P.funcs.toList.any Func.goes = false) (c : OpenClaim) : false = c.goesBy P := by
  unfold OpenClaim.goesBy Program.goesAt Program.goesFrom
  have h1 : (P.funcNamed c.func).any P.goes = false := by
    cases P.funcNamed c.func with
    | none => rfl
    | some f => exact Xqj h f
  have h2 : P.inits.toList.any P.goes = false := by
    rw [List.any_eq_false]
    intro f _
    rw [Xqj h f]; simp
  rw [h1, h2]
  cases c.start <;> rfl
theorem Xtr : Tryz.prog.funcs.toList.any Func.goes = false := by kernel_rfl
theorem c_goes : false = Rows.flatBlanksUptoRow.goesBy Tryz.prog := Xst Xtr _
end Go.Proofs.YteognfejlpbmoaaGreatDoor
