/-
  No go statement stands in the program. No conditions.
-/
import Derived.Test.YtodhdplpcelokaaGreatDoorRows
import Derived.Test.YtodhdplpcelokaaGreatDoorCards
import Derived.SevenTiedAt
import Derived.ProofKit
namespace Go.Proofs.YtodhdplpcelokaaGreatDoor
set_option linter.all false
set_option maxRecDepth 100000
theorem Xtg{P : Program}(h : P.funcs.toList.any Func.goes = false)(f : FuncId) : P.goes f = false := by
  unfold Program.goes
  have a := h
  rw[Array.any_toList]at a
  rw[a,Bool.and_false,Bool.or_false,List.any_eq_false]
  intro g _
  cases b : P.funcs[g]? with
  |none => simp
  |some fn =>
    have c : fn∈P.funcs.toList := Array.mem_toList_iff.mpr (Array.mem_of_getElem? b)
    rw[List.any_eq_false]at h
    simpa using h fn c
theorem Xws{P : Program}(h : P.funcs.toList.any Func.goes = false)(c : OpenClaim) : false = c.goesBy P := by
  unfold OpenClaim.goesBy Program.goesAt Program.goesFrom
  have a : (P.funcNamed c.func).any P.goes = false := by
    cases P.funcNamed c.func with
    |none => rfl
    |some f => exact Xtg h f
  have b : P.inits.toList.any P.goes = false := by
    rw[List.any_eq_false]
    intro f _
    rw[Xtg h f];simp
  rw[a,b]
  cases c.start<;>rfl
theorem Xxl : Tryz.prog.funcs.toList.any Func.goes = false := by kernel_rfl
theorem XpJ : false = Rows.flatReadsRow.goesBy Tryz.prog := Xws Xxl _
end Go.Proofs.YtodhdplpcelokaaGreatDoor
