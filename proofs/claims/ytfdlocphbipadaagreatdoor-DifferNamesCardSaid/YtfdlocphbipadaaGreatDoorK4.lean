/-
  That calls answer what was found. No conditions.
-/
import Derived.Test.YtfdlocphbipadaaGreatDoorD
import Derived.Test.YtfdlocphbipadaaGreatDoorK0
import Derived.Test.YtfdlocphbipadaaGreatDoorK3
set_option maxRecDepth 1000000
set_option maxHeartbeats 400000000
set_option linter.unusedVariables false
namespace Go.Ab.Sh
open Go Go.Ab
noncomputable def P14:Pre:=⟨Q1nr,[(.pointer (some ⟨844,0,some 0⟩))],List.append (sel M13.fin [2374,2376,2253,2255,1754,1762,1590,1598,832,836,690,688,687,686,685,727,689,691,844]) ([]),6361⟩
noncomputable def C14:Cell (runC P14 (P14.run (T0 1000)) [844,836,832,1598,1590,1762,1754,2255,2253,2376,2374,6363,6362,690,688,687,686,685,727,689,691,6364]):=⟨_,by go_invoke; rfl⟩
noncomputable def M14:MemoX:=P14.memo C14.1
theorem n14:X16 C14.1=true:=by kernel_rfl
theorem g14:M14.good=true:=by kernel_rfl
noncomputable def P15:Pre:=⟨Q16u,[(.pointer (some ⟨691,0,some 0⟩)),(.pointer (some ⟨557,0,some 0⟩))],List.append (sel M14.fin [690,688,687,686,685,727,689,691]) (List.append (sel M9.fin [619,609,612,587,577,580,556,554,543,545,474,496,495,473,471,460,462,475,557]) ([])),6841⟩
noncomputable def C15:Cell (runC P15 (P15.run (T0 1000)) [557,475,462,460,471,473,495,496,474,545,543,554,556,580,577,587,612,609,619,7468,7470,7347,7349,7226,7228,7105,7107,6974,6978,690,688,687,686,685,727,689,691,6986]):=⟨_,by go_invoke; rfl⟩
noncomputable def M15:MemoX:=P15.memo C15.1
theorem n15:X16 C15.1=true:=by kernel_rfl
theorem g15:M15.good=true:=by kernel_rfl
end Go.Ab.Sh
