/-
  That calls answer what was found. No conditions.
-/
import Derived.Test.YtaljkjdmllgmdaaGreatDoorD
import Derived.Test.YtaljkjdmllgmdaaGreatDoorK0
import Derived.Test.YtaljkjdmllgmdaaGreatDoorK14
import Derived.Test.YtaljkjdmllgmdaaGreatDoorK15
import Derived.Test.YtaljkjdmllgmdaaGreatDoorK18
import Derived.Test.YtaljkjdmllgmdaaGreatDoorK19
import Derived.Test.YtaljkjdmllgmdaaGreatDoorK20
set_option linter.unusedSimpArgs false
set_option linter.unusedVariables false
set_option maxRecDepth 1000000
set_option maxHeartbeats 400000000
namespace Go.Ab.Sh
open Go Go.Ab
noncomputable def o12:Tr Over:=(.node none (.node none (.node none (.node none (.node none (.node none .nil (.node none (.node none .nil (.node (some Q15) .nil .nil)) .nil)) (.node none .nil (.node none (.node none (.node (some Q1h) .nil .nil) .nil) .nil))) .nil) (.node none (.node none (.node none (.node (some Q16) .nil (.node (some Q10) .nil .nil)) .nil) .nil) .nil)) (.node none (.node none (.node none (.node none (.node none .nil (.node (some Q17) .nil .nil)) .nil) .nil) (.node none (.node none .nil (.node none (.node none (.node (some Q1i) .nil .nil) .nil) .nil)) (.node none .nil (.node none .nil (.node (some Q4) .nil .nil))))) (.node none (.node none (.node none (.node (some Q1s) .nil (.node (some Q18) .nil .nil)) .nil) (.node none (.node none (.node (some Q1b) .nil .nil) .nil) (.node none (.node none (.node (some Q12) .nil .nil) .nil) .nil))) .nil))) (.node none (.node none (.node none .nil (.node none (.node none (.node none .nil (.node (some Q4o) .nil .nil)) (.node (some Q19) .nil .nil)) .nil)) (.node none (.node none (.node none (.node (some Q1t) (.node none (.node (some Qj) .nil .nil) .nil) (.node (some Q13) .nil .nil)) .nil) .nil) .nil)) (.node none (.node none (.node none (.node none .nil (.node none (.node none .nil (.node (some Q1a) .nil .nil)) .nil)) .nil) (.node none (.node none .nil (.node none .nil (.node none (.node none (.node (some Q1j) .nil .nil) .nil) .nil))) (.node none .nil (.node none .nil (.node none .nil (.node (some Q2) .nil .nil)))))) (.node none (.node none (.node none (.node (some Qw) .nil .nil) .nil) (.node none .nil (.node none (.node (some (X10 [M89,M90,M91,M92,M93,M94,M95,M96,M97,M98,M99,M100,M101,M102])) .nil .nil) .nil))) (.node (some Q1u) .nil .nil)))))
noncomputable def T12:Nat→Tab:=shT fns (ovTr o12) 18446744073709551616
noncomputable def P103:Pre:=⟨Qht,[(.pointer (some ⟨6410,0,some 0⟩))],List.append (sel M102.fin [6978,6980,6857,6859,6730,6738,6566,6574,6398,6402,549,547,546,545,544,584,548,550,6410]) ([]),6981⟩
noncomputable def C103:Cell (runC P103 (P103.run (T12 1000)) [6983,6982,6978,6980,6857,6859,6730,6738,6566,6574,6398,6402,549,547,546,545,544,584,548,550,6410,6984]):=⟨_,by go_invoke; rfl⟩
noncomputable def M103:MemoX:=P103.memo C103.1
theorem n103:Xf C103.1=true:=by kernel_rfl
theorem g103:M103.good=true:=by kernel_rfl
noncomputable def P104:Pre:=⟨Q5b,[(.pointer (some ⟨550,0,some 0⟩)),(.agg ⟨[(.string ⟨#[]⟩),(.slice (some ⟨9940,0,some 10⟩) 1 1)]⟩)],List.append (sel M103.fin [549,547,546,545,544,584,548,550]) ([(9940,.plain (.cells [(.bool true),(.int .i64 (-1)),(.int .u32 0),(.int .i64 0),(.int .u32 0),(.int .i64 0),(.int .u32 0),(.int .u32 65535),(.int .u32 0),(.int .u32 65535)] 0 0 false (some 68)))]),9941⟩
noncomputable def C104:Cell (runC P104 (P104.run (T0 1000)) [550,548,584,544,545,546,547,549,9940]):=⟨_,by go_invoke; rfl⟩
noncomputable def M104:MemoX:=P104.memo C104.1
theorem n104:Xf C104.1=true:=by kernel_rfl
theorem g104:M104.good=true:=by kernel_rfl
noncomputable def o13:Tr Over:=(.node none (.node none (.node none (.node none (.node none (.node none .nil (.node none (.node none .nil (.node (some Q15) .nil .nil)) .nil)) (.node none .nil (.node none (.node none (.node (some Q1h) .nil .nil) .nil) .nil))) .nil) (.node none (.node none (.node none (.node (some Q16) .nil (.node (some Q10) .nil .nil)) .nil) .nil) .nil)) (.node none (.node none (.node none (.node none (.node none .nil (.node (some Q17) .nil .nil)) (.node (some (X10 [M86,M103])) .nil .nil)) .nil) (.node none (.node none .nil (.node none (.node none (.node (some Q1i) .nil .nil) .nil) .nil)) (.node none .nil (.node none .nil (.node (some Q4) .nil .nil))))) (.node none (.node none (.node none (.node (some Q1s) .nil (.node (some Q18) .nil .nil)) .nil) (.node none (.node none (.node (some Q1b) .nil .nil) .nil) (.node none (.node none (.node (some Q12) .nil .nil) .nil) .nil))) .nil))) (.node none (.node none (.node none .nil (.node none (.node none (.node none .nil (.node (some Q4o) .nil .nil)) (.node (some Q19) .nil .nil)) .nil)) (.node none (.node none (.node none (.node (some Q1t) (.node none (.node (some Qj) .nil .nil) .nil) (.node (some Q13) .nil .nil)) (.node (some (X10 [M87,M104])) .nil .nil)) .nil) .nil)) (.node none (.node none (.node none (.node none .nil (.node none (.node none .nil (.node (some Q1a) .nil .nil)) .nil)) .nil) (.node none (.node none .nil (.node none .nil (.node none (.node none (.node (some Q1j) .nil .nil) .nil) .nil))) (.node none .nil (.node none .nil (.node none .nil (.node (some Q2) .nil .nil)))))) (.node none (.node none (.node none (.node (some Qw) .nil .nil) .nil) .nil) (.node (some Q1u) .nil (.node none (.node (some (X10 [M71,M88])) .nil .nil) .nil))))))
noncomputable def T13:Nat→Tab:=shT fns (ovTr o13) 18446744073709551616
noncomputable def P105:Pre:=⟨Q6q,[(.pointer (some ⟨347,0,some 0⟩)),(.pointer (some ⟨347,0,some 0⟩)),(.agg ⟨[(.int .u8 1),(.string ⟨#[97]⟩),(.string ⟨#[108,97,110]⟩),(.string ⟨#[]⟩),(.int .u8 1),(.bool true),(.int .i64 (-1)),(.int .u32 0),(.int .i64 0),(.int .u32 0),(.int .i64 0),(.int .u32 0),(.int .u32 65535),(.int .u32 0),(.int .u32 65535),(.int .u32 0),(.int .u32 0),(.int .u8 0),(.int .u16 0),(.int .u16 0),(.int .i64 0),(.int .u32 0)]⟩)],List.append (sel M88.fin [298,288,291,266,257,247,250,222,220,209,211,223,161,183,182,160,158,147,149,162]) (List.append (sel M69.fin [345,340,342,333,322,324,347]) ([])),539⟩
noncomputable def C105:Cell (runC P105 (P105.run (T13 1000)) [347,324,322,333,161,183,182,160,158,147,149,162,223,211,209,220,222,250,247,257,266,291,288,298,342,340,345]):=⟨_,by go_invoke; rfl⟩
noncomputable def M105:MemoX:=P105.memo C105.1
theorem n105:Xf C105.1=true:=by kernel_rfl
theorem g105:M105.good=true:=by kernel_rfl
end Go.Ab.Sh
