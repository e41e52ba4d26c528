/-
  That calls answer what was found. No conditions.
-/
import Derived.Test.YtphmfaooegiohaaGreatDoorD
import Derived.Test.YtphmfaooegiohaaGreatDoorK0
set_option maxRecDepth 1000000
set_option maxHeartbeats 400000000
set_option linter.unusedVariables false
namespace Go.Ab.Sh
open Go Go.Ab
noncomputable def P2 : Pre := ⟨Q9e, [(.pointer (some ⟨1999,0,some 0⟩)), (.func (.func 12) ⟨[]⟩ ⟨[]⟩), (.func (.func 13) ⟨[]⟩ ⟨[(.pointer (some ⟨1996,0,some 0⟩)), (.pointer (some ⟨2001,0,some 0⟩)), (.pointer (some ⟨2000,0,some 0⟩))]⟩)], List.append (sel M1.fin [1993, 1995, 1872, 1874, 1373, 1381, 1209, 1217, 451, 455, 313, 311, 310, 309, 308, 346, 312, 314, 463]) ([(2000, .plain (.cells [(.pointer (some ⟨1999,0,some 0⟩))] 0 0 false (some 45))), (2001, .plain (.cells [(.int .u8 1)] 0 0 false (some 11))), (1996, .plain (.cells [(.pointer (some ⟨463,0,some 0⟩))] 0 0 false (some 47))), (1998, .plain (.map [] 0)), (1997, .plain (.map [] 0)), (1999, .plain (.cells [(.pointer (some ⟨463,0,some 0⟩)), (.map (some 1997)), (.map (some 1998))] 0 0 false (some 89)))]), 2002⟩
noncomputable def C2 : Cell (runC P2 (P2.run (T0 1000)) [1996,2001,1998,1997,1993,1995,1872,1874,1373,1381,1209,1217,451,455,313,311,310,309,308,346,312,314,463,1999,2000,2002]) := ⟨_, by go_invoke; rfl⟩
noncomputable def M2 : MemoX := P2.memo C2.1
theorem n2 : X5y C2.1 = true := by kernel_rfl
theorem g2 : M2.good = true := by kernel_rfl
noncomputable def P3 : Pre := ⟨Q9e, [(.pointer (some ⟨1999,0,some 0⟩)), (.func (.func 16) ⟨[]⟩ ⟨[]⟩), (.func (.func 17) ⟨[]⟩ ⟨[(.pointer (some ⟨2000,0,some 0⟩)), (.pointer (some ⟨2001,0,some 0⟩))]⟩)], List.append (sel M2.fin [2001, 2000, 1998, 1997, 1993, 1995, 1872, 1874, 1373, 1381, 1209, 1217, 451, 455, 313, 311, 310, 309, 308, 346, 312, 314, 463, 1999]) ([]), 2419⟩
noncomputable def C3 : Cell (runC P3 (P3.run (T0 1000)) [1998,1997,1993,1995,1872,1874,1373,1381,1209,1217,451,455,313,311,310,309,308,346,312,314,463,1999,2000,2001,2419]) := ⟨_, by go_invoke; rfl⟩
noncomputable def M3 : MemoX := P3.memo C3.1
theorem n3 : X5y C3.1 = true := by kernel_rfl
theorem g3 : M3.good = true := by kernel_rfl
end Go.Ab.Sh
