/-
  That calls answer what was found. No conditions.
-/
import Derived.Test.YtaljkjdmllgmdaaGreatDoorD
import Derived.Test.YtaljkjdmllgmdaaGreatDoorK0
import Derived.Test.YtaljkjdmllgmdaaGreatDoorK1
import Derived.Test.YtaljkjdmllgmdaaGreatDoorK4
set_option linter.unusedSimpArgs false
set_option linter.unusedVariables false
set_option maxRecDepth 1000000
set_option maxHeartbeats 400000000
namespace Go.Ab.Sh
open Go Go.Ab
noncomputable def P17:Pre:=⟨Q5b,[(.pointer (some ⟨360,0,some 0⟩)),(.agg ⟨[(.string ⟨#[]⟩),(.slice (some ⟨6028,0,some 10⟩) 1 1)]⟩)],List.append (sel M16.fin [359,357,356,355,354,394,358,360]) ([(6028,.plain (.cells [(.bool true),(.int .i64 6),(.int .u32 0),(.int .i64 0),(.int .u32 167903488),(.int .i64 24),(.int .u32 0),(.int .u32 65535),(.int .u32 80),(.int .u32 80)] 0 0 false (some 68)))]),6029⟩
noncomputable def C17:Cell (runC P17 (P17.run (T0 1000)) [360,358,394,354,355,356,357,359,6028]):=⟨_,by go_invoke; rfl⟩
noncomputable def M17:MemoX:=P17.memo C17.1
theorem n17:Xf C17.1=true:=by kernel_rfl
theorem g17:M17.good=true:=by kernel_rfl
noncomputable def o2:Tr Over:=(.node none (.node none (.node none (.node none (.node none (.node none .nil (.node none (.node none .nil (.node (some Q15) .nil .nil)) .nil)) (.node none .nil (.node none (.node none (.node (some Q1h) .nil .nil) .nil) .nil))) .nil) (.node none (.node none (.node none (.node (some Q16) .nil (.node (some Q10) .nil .nil)) .nil) .nil) .nil)) (.node none (.node none (.node none (.node none (.node none .nil (.node (some Q17) .nil .nil)) (.node (some (X10 [M16])) .nil .nil)) .nil) (.node none (.node none .nil (.node none (.node none (.node (some Q1i) .nil .nil) .nil) .nil)) (.node none .nil (.node none .nil (.node (some Q4) .nil .nil))))) (.node none (.node none (.node none (.node (some Q1s) .nil (.node (some Q18) .nil .nil)) .nil) (.node none (.node none (.node (some Q1b) .nil .nil) .nil) (.node none (.node none (.node (some Q12) .nil .nil) .nil) .nil))) .nil))) (.node none (.node none (.node none .nil (.node none (.node none (.node none .nil (.node (some Q4o) .nil .nil)) (.node (some Q19) .nil .nil)) .nil)) (.node none (.node none (.node none (.node (some Q1t) (.node none (.node (some Qj) .nil .nil) .nil) (.node (some Q13) .nil .nil)) (.node (some (X10 [M17])) .nil .nil)) .nil) .nil)) (.node none (.node none (.node none (.node none .nil (.node none (.node none .nil (.node (some Q1a) .nil .nil)) .nil)) .nil) (.node none (.node none .nil (.node none .nil (.node none (.node none (.node (some Q1j) .nil .nil) .nil) .nil))) (.node none .nil (.node none .nil (.node none .nil (.node (some Q2) .nil .nil)))))) (.node none (.node none (.node none (.node (some Qw) .nil .nil) .nil) .nil) (.node (some Q1u) .nil (.node none (.node (some (X10 [M1])) .nil .nil) .nil))))))
noncomputable def T2:Nat→Tab:=shT fns (ovTr o2) 18446744073709551616
noncomputable def P18:Pre:=⟨Q9,[(.pointer (some ⟨347,0,some 0⟩)),(.string ⟨#[114,101,97,99,104,32,97,32,108,97,110,32,97,99,99,101,112,116,101,100,32,116,111,32,49,48,46,50,46,49,46,48,47,50,52,32,112,114,111,116,111,32,54,32,100,112,111,114,116,115,32,56,48,45,56,48]⟩)],List.append (sel M1.fin [298,288,291,266,257,247,250,222,220,209,211,223,161,183,182,160,158,147,149,162]) (List.append (sel M0.fin [345,340,342,333,322,324,347]) ([])),348⟩
noncomputable def C18:Cell (runC P18 (P18.run (T2 1000)) [347,324,322,333,161,183,182,160,158,147,149,162,223,211,209,220,222,250,247,257,266,291,288,298,342,340,345]):=⟨_,by go_invoke; rfl⟩
noncomputable def M18:MemoX:=P18.memo C18.1
theorem n18:Xf C18.1=true:=by kernel_rfl
theorem g18:M18.good=true:=by kernel_rfl
noncomputable def P19:Pre:=⟨Q9,[(.pointer (some ⟨347,0,some 0⟩)),(.string ⟨#[116,114,97,99,101,32,97,32,108,97,110,32,50,53,53,32,49,48,46,50,46,48,46,57,58,48,32,49,48,46,50,46,49,46,49,58,48,32,54]⟩)],List.append (sel M18.fin [345,340,342,298,288,291,266,257,247,250,222,220,209,211,223,333,322,324,161,183,182,160,158,147,149,162,347]) ([]),348⟩
noncomputable def C19:Cell (runC P19 (P19.run (T0 1000)) [347,324,322,333,161,183,182,160,158,147,149,162,223,211,209,220,222,250,247,257,266,291,288,298,342,340,345]):=⟨_,by go_invoke; rfl⟩
noncomputable def M19:MemoX:=P19.memo C19.1
theorem n19:Xf C19.1=true:=by kernel_rfl
theorem g19:M19.good=true:=by kernel_rfl
noncomputable def P20:Pre:=⟨Q9,[(.pointer (some ⟨347,0,some 0⟩)),(.string ⟨#[111,119,110,101,114,32,49,48,46,48,46,48,46,50]⟩)],List.append (sel M19.fin [345,340,342,298,288,291,266,257,247,250,222,220,209,211,223,333,322,324,161,183,182,160,158,147,149,162,347]) ([]),348⟩
noncomputable def C20:Cell (runC P20 (P20.run (T0 1000)) [347,324,322,333,161,183,182,160,158,147,149,162,223,211,209,220,222,250,247,257,266,291,288,298,342,340,345]):=⟨_,by go_invoke; rfl⟩
noncomputable def M20:MemoX:=P20.memo C20.1
theorem n20:Xf C20.1=true:=by kernel_rfl
theorem g20:M20.good=true:=by kernel_rfl
noncomputable def P21:Pre:=⟨Q5b,[(.pointer (some ⟨360,0,some 0⟩)),(.agg ⟨[(.string ⟨#[]⟩),(.slice (some ⟨6028,0,some 10⟩) 1 1)]⟩)],List.append (sel M17.fin [360]) (List.append (sel M16.fin [359,357,356,355,354,394,358]) ([(6028,.plain (.cells [(.bool true),(.int .i64 (-1)),(.int .u32 0),(.int .i64 0),(.int .u32 0),(.int .i64 0),(.int .u32 0),(.int .u32 65535),(.int .u32 0),(.int .u32 65535)] 0 0 false (some 68)))])),6029⟩
noncomputable def C21:Cell (runC P21 (P21.run (T0 1000)) [360,358,394,354,355,356,357,359,6028]):=⟨_,by go_invoke; rfl⟩
noncomputable def M21:MemoX:=P21.memo C21.1
theorem n21:Xf C21.1=true:=by kernel_rfl
theorem g21:M21.good=true:=by kernel_rfl
noncomputable def o3:Tr Over:=(.node none (.node none (.node none (.node none (.node none (.node none .nil (.node none (.node none .nil (.node (some Q15) .nil .nil)) .nil)) (.node none .nil (.node none (.node none (.node (some Q1h) .nil .nil) .nil) .nil))) .nil) (.node none (.node none (.node none (.node (some Q16) .nil (.node (some Q10) .nil .nil)) .nil) .nil) .nil)) (.node none (.node none (.node none (.node none (.node none .nil (.node (some Q17) .nil .nil)) (.node (some (X10 [M16])) .nil .nil)) .nil) (.node none (.node none .nil (.node none (.node none (.node (some Q1i) .nil .nil) .nil) .nil)) (.node none .nil (.node none .nil (.node (some Q4) .nil .nil))))) (.node none (.node none (.node none (.node (some Q1s) .nil (.node (some Q18) .nil .nil)) .nil) (.node none (.node none (.node (some Q1b) .nil .nil) .nil) (.node none (.node none (.node (some Q12) .nil .nil) .nil) .nil))) .nil))) (.node none (.node none (.node none .nil (.node none (.node none (.node none .nil (.node (some Q4o) .nil .nil)) (.node (some Q19) .nil .nil)) .nil)) (.node none (.node none (.node none (.node (some Q1t) (.node none (.node (some Qj) .nil .nil) .nil) (.node (some Q13) .nil .nil)) (.node (some (X10 [M21])) .nil .nil)) .nil) .nil)) (.node none (.node none (.node none (.node none .nil (.node none (.node none .nil (.node (some Q1a) .nil .nil)) .nil)) .nil) (.node none (.node none .nil (.node none .nil (.node none (.node none (.node (some Q1j) .nil .nil) .nil) .nil))) (.node none .nil (.node none .nil (.node none .nil (.node (some Q2) .nil .nil)))))) (.node none (.node none (.node none (.node (some Qw) .nil .nil) .nil) .nil) (.node (some Q1u) .nil (.node none (.node (some (X10 [M1])) .nil .nil) .nil))))))
noncomputable def T3:Nat→Tab:=shT fns (ovTr o3) 18446744073709551616
noncomputable def P22:Pre:=⟨Q9,[(.pointer (some ⟨347,0,some 0⟩)),(.string ⟨#[114,101,97,99,104,32,97,32,108,97,110,32,108,111,115,116]⟩)],List.append (sel M20.fin [345,340,342,298,288,291,266,257,247,250,222,220,209,211,223,333,322,324,161,183,182,160,158,147,149,162,347]) ([]),348⟩
noncomputable def C22:Cell (runC P22 (P22.run (T3 1000)) [347,324,322,333,161,183,182,160,158,147,149,162,223,211,209,220,222,250,247,257,266,291,288,298,342,340,345]):=⟨_,by go_invoke; rfl⟩
noncomputable def M22:MemoX:=P22.memo C22.1
theorem n22:Xf C22.1=true:=by kernel_rfl
theorem g22:M22.good=true:=by kernel_rfl
noncomputable def o4:Tr Over:=(.node none (.node none (.node none (.node none (.node none (.node none .nil (.node none (.node none .nil (.node (some Q15) .nil .nil)) .nil)) (.node none .nil (.node none (.node none (.node (some Q1h) .nil .nil) .nil) .nil))) .nil) (.node none (.node none (.node none (.node (some Q16) .nil (.node (some Q10) .nil .nil)) .nil) .nil) .nil)) (.node (some (X10 [M0])) (.node none (.node none (.node none (.node none .nil (.node (some Q17) .nil .nil)) .nil) .nil) (.node none (.node none .nil (.node none (.node none (.node (some Q1i) .nil .nil) .nil) .nil)) (.node none .nil (.node none .nil (.node (some Q4) .nil .nil))))) (.node none (.node none (.node none (.node (some Q1s) .nil (.node (some Q18) .nil .nil)) .nil) (.node none (.node none (.node (some Q1b) .nil .nil) .nil) (.node none (.node none (.node (some Q12) .nil .nil) .nil) .nil))) .nil))) (.node none (.node none (.node none .nil (.node none (.node none (.node none .nil (.node (some Q4o) .nil .nil)) (.node (some Q19) .nil .nil)) .nil)) (.node none (.node none (.node none (.node (some Q1t) (.node none (.node (some Qj) .nil .nil) .nil) (.node (some Q13) .nil .nil)) .nil) .nil) .nil)) (.node (some (X10 [M18,M19,M20,M22])) (.node none (.node none (.node none .nil (.node none (.node none .nil (.node (some Q1a) .nil .nil)) .nil)) .nil) (.node none (.node none .nil (.node none .nil (.node none (.node none (.node (some Q1j) .nil .nil) .nil) .nil))) (.node none .nil (.node none .nil (.node none .nil (.node (some Q2) .nil .nil)))))) (.node none (.node none (.node none (.node (some Qw) .nil .nil) .nil) .nil) (.node (some Q1u) .nil .nil)))))
noncomputable def T4:Nat→Tab:=shT fns (ovTr o4) 18446744073709551616
noncomputable def P23:Pre:=⟨Q10i,[],[],0⟩
noncomputable def C23:Cell (runC P23 (P23.run (T4 1000)) []):=⟨_,by go_invoke; rfl⟩
noncomputable def M23:MemoX:=P23.memo C23.1
theorem n23:Xf C23.1=true:=by kernel_rfl
theorem g23:M23.good=true:=by kernel_rfl
noncomputable def P24:Pre:=⟨Q9,[(.pointer (some ⟨347,0,some 0⟩)),(.string ⟨#[114,101,97,99,104,32,97,32,108,97,110,32,97,99,99,101,112,116,101,100]⟩)],List.append (sel M22.fin [345,340,342,298,288,291,266,257,247,250,222,220,209,211,223,333,322,324,161,183,182,160,158,147,149,162,347]) ([]),348⟩
noncomputable def C24:Cell (runC P24 (P24.run (T3 1000)) [347,324,322,333,161,183,182,160,158,147,149,162,223,211,209,220,222,250,247,257,266,291,288,298,342,340,345]):=⟨_,by go_invoke; rfl⟩
noncomputable def M24:MemoX:=P24.memo C24.1
theorem n24:Xf C24.1=true:=by kernel_rfl
theorem g24:M24.good=true:=by kernel_rfl
end Go.Ab.Sh
