/-
  Facts of the row about the program: its types are laid out. No conditions.
-/
import Derived.Test.YtbpkpklaegnkiaaGreatDoorRows
import Derived.ProofKit
import Derived.SevenTiedAt
namespace Go.Proofs.YtbpkpklaegnkiaaGreatDoor
set_option maxRecDepth 100000
theorem u_sz : Tryz.prog.types.size = 841 := by kernel_rfl
theorem u_inf : Tables.info? Tryz.prog.toTables = fun t => bif Nat.blt t 841 then Tryz.prog.types.toList[t]? else Made.infoAt Tryz.prog.toTables Made.depth t := by
  funext t
  unfold Tables.info?
  rw [u_sz, Array.getElem?_toList]
  by_cases h : t < 841
  · rw [if_pos h, Nat.blt_eq.mpr h, cond_true]
  · have e : Nat.blt t 841 = false := by
      cases hb : Nat.blt t 841 with
      | false => rfl
      | true => exact absurd (Nat.blt_eq.mp hb) h
    rw [if_neg h, e, cond_false]
theorem u_l1 : ((List.range 841).take 420).all (rowFine Tryz.prog) = true := by
  unfold rowFine isVar Program.underlying Program.cellsOf
  rw [u_inf]
  kernel_rfl
theorem u_l2 : ((List.range 841).drop 420).all (rowFine Tryz.prog) = true := by
  unfold rowFine isVar Program.underlying Program.cellsOf
  rw [u_inf]
  kernel_rfl
theorem u_l3 : (List.range 841).all (rowFine Tryz.prog) = true := by
  rw [← List.take_append_drop 420 (List.range 841), List.all_append, u_l1, u_l2]
  rfl
theorem j_laid : laidOutB Tryz.prog = true := by
  unfold laidOutB
  rw [u_sz, u_l3]
  kernel_rfl
theorem j_maps : mapsRowed Tryz.prog = true := by
  unfold mapsRowed Program.underlying
  rw [u_inf]
  kernel_rfl
end Go.Proofs.YtbpkpklaegnkiaaGreatDoor
