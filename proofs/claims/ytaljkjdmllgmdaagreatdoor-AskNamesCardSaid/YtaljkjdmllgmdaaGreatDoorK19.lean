/-
  That calls answer what was found. No conditions.
-/
import Derived.Test.YtaljkjdmllgmdaaGreatDoorD
import Derived.Test.YtaljkjdmllgmdaaGreatDoorK0
import Derived.Test.YtaljkjdmllgmdaaGreatDoorK15
import Derived.Test.YtaljkjdmllgmdaaGreatDoorK18
set_option linter.unusedSimpArgs false
set_option linter.unusedVariables false
set_option maxRecDepth 1000000
set_option maxHeartbeats 400000000
namespace Go.Ab.Sh
open Go Go.Ab
noncomputable def P87:Pre:=⟨Q5b,[(.pointer (some ⟨550,0,some 0⟩)),(.agg ⟨[(.string ⟨#[]⟩),(.slice (some ⟨6218,0,some 10⟩) 1 1)]⟩)],List.append (sel M86.fin [549,547,546,545,544,584,548,550]) ([(6218,.plain (.cells [(.bool true),(.int .i64 (-1)),(.int .u32 0),(.int .i64 0),(.int .u32 0),(.int .i64 0),(.int .u32 0),(.int .u32 65535),(.int .u32 0),(.int .u32 65535)] 0 0 false (some 68)))]),6219⟩
noncomputable def C87:Cell (runC P87 (P87.run (T0 1000)) [550,548,584,544,545,546,547,549,6218]):=⟨_,by go_invoke; rfl⟩
noncomputable def M87:MemoX:=P87.memo C87.1
theorem n87:Xf C87.1=true:=by kernel_rfl
theorem g87:M87.good=true:=by kernel_rfl
noncomputable def P88:Pre:=⟨Qe3,[(.pointer (some ⟨550,0,some 0⟩)),(.pointer (some ⟨223,0,some 0⟩))],List.append (sel M87.fin [549,547,546,545,544,584,548,550]) (List.append (sel M71.fin [298,288,291,266,257,247,250,222,220,209,211,161,183,182,160,158,147,149,162,223]) ([])),6265⟩
noncomputable def C88:Cell (runC P88 (P88.run (T0 1000)) [223,162,149,147,158,160,182,183,161,211,209,220,222,250,247,257,266,291,288,298,6978,6980,6857,6859,6730,6738,6566,6574,6398,6402,549,547,546,545,544,584,548,550,6410]):=⟨_,by go_invoke; rfl⟩
noncomputable def M88:MemoX:=P88.memo C88.1
theorem n88:Xf C88.1=true:=by kernel_rfl
theorem g88:M88.good=true:=by kernel_rfl
end Go.Ab.Sh
