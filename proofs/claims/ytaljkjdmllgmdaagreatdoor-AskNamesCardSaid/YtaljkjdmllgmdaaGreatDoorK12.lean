/-
  That calls answer what was found. No conditions.
-/
import Derived.Test.YtaljkjdmllgmdaaGreatDoorD
import Derived.Test.YtaljkjdmllgmdaaGreatDoorK0
import Derived.Test.YtaljkjdmllgmdaaGreatDoorK7
import Derived.Test.YtaljkjdmllgmdaaGreatDoorK8
import Derived.Test.YtaljkjdmllgmdaaGreatDoorK11
set_option linter.unusedSimpArgs false
set_option linter.unusedVariables false
set_option maxRecDepth 1000000
set_option maxHeartbeats 400000000
namespace Go.Ab.Sh
open Go Go.Ab
noncomputable def P51:Pre:=⟨Q5b,[(.pointer (some ⟨900,0,some 0⟩)),(.agg ⟨[(.string ⟨#[]⟩),(.slice (some ⟨7634,0,some 10⟩) 1 1)]⟩)],List.append (sel M50.fin [899,897,896,895,894,934,898,900]) ([(7634,.plain (.cells [(.bool true),(.int .i64 6),(.int .u32 16843009),(.int .i64 32),(.int .u32 150994944),(.int .i64 8),(.int .u32 0),(.int .u32 0),(.int .u32 0),(.int .u32 0)] 0 0 false (some 68)))]),7635⟩
noncomputable def C51:Cell (runC P51 (P51.run (T0 1000)) [900,898,934,894,895,896,897,899,7634]):=⟨_,by go_invoke; rfl⟩
noncomputable def M51:MemoX:=P51.memo C51.1
theorem n51:Xf C51.1=true:=by kernel_rfl
theorem g51:M51.good=true:=by kernel_rfl
noncomputable def o7:Tr Over:=(.node none (.node none (.node none (.node none (.node none (.node none .nil (.node none (.node none .nil (.node (some Q15) .nil .nil)) .nil)) (.node none .nil (.node none (.node none (.node (some Q1h) .nil .nil) .nil) .nil))) .nil) (.node none (.node none (.node none (.node (some Q16) .nil (.node (some Q10) .nil .nil)) .nil) .nil) .nil)) (.node none (.node none (.node none (.node none (.node none .nil (.node (some Q17) .nil .nil)) (.node (some (X10 [M50])) .nil .nil)) .nil) (.node none (.node none .nil (.node none (.node none (.node (some Q1i) .nil .nil) .nil) .nil)) (.node none .nil (.node none .nil (.node (some Q4) .nil .nil))))) (.node none (.node none (.node none (.node (some Q1s) .nil (.node (some Q18) .nil .nil)) .nil) (.node none (.node none (.node (some Q1b) .nil .nil) .nil) (.node none (.node none (.node (some Q12) .nil .nil) .nil) .nil))) .nil))) (.node none (.node none (.node none .nil (.node none (.node none (.node none .nil (.node (some Q4o) .nil .nil)) (.node (some Q19) .nil .nil)) .nil)) (.node none (.node none (.node none (.node (some Q1t) (.node none (.node (some Qj) .nil .nil) .nil) (.node (some Q13) .nil .nil)) (.node (some (X10 [M51])) .nil .nil)) .nil) .nil)) (.node none (.node none (.node none (.node none .nil (.node none (.node none .nil (.node (some Q1a) .nil .nil)) .nil)) .nil) (.node none (.node none .nil (.node none .nil (.node none (.node none (.node (some Q1j) .nil .nil) .nil) .nil))) (.node none .nil (.node none .nil (.node none .nil (.node (some Q2) .nil .nil)))))) (.node none (.node none (.node none (.node (some Qw) .nil .nil) .nil) .nil) (.node (some Q1u) .nil (.node none (.node (some (X10 [M35])) .nil .nil) .nil))))))
noncomputable def T7:Nat→Tab:=shT fns (ovTr o7) 18446744073709551616
noncomputable def P52:Pre:=⟨Q9,[(.pointer (some ⟨887,0,some 0⟩)),(.string ⟨#[114,101,97,99,104,32,97,32,108,97,110,32,108,111,115,116,32,102,114,111,109,32,49,46,49,46,49,46,49,47,51,50,32,116,111,32,57,46,48,46,48,46,48,47,56,32,112,114,111,116,111,32,54,32,115,112,111,114,116,115,32,48,45,48,32,100,112,111,114,116,115,32,48,45,48]⟩)],List.append (sel M35.fin [836,826,829,804,795,786,772,779,740,738,727,729,741,509,531,530,508,506,495,497,510]) (List.append (sel M34.fin [885,880,882,873,862,864,887]) ([])),888⟩
noncomputable def C52:Cell (runC P52 (P52.run (T7 1000)) [887,864,862,873,509,531,530,508,506,495,497,510,741,729,727,738,740,779,772,786,795,804,829,826,836,882,880,885]):=⟨_,by go_invoke; rfl⟩
noncomputable def M52:MemoX:=P52.memo C52.1
theorem n52:Xf C52.1=true:=by kernel_rfl
theorem g52:M52.good=true:=by kernel_rfl
noncomputable def P53:Pre:=⟨Q5b,[(.pointer (some ⟨900,0,some 0⟩)),(.agg ⟨[(.string ⟨#[]⟩),(.slice (some ⟨7634,0,some 10⟩) 1 1)]⟩)],List.append (sel M51.fin [900]) (List.append (sel M50.fin [899,897,896,895,894,934,898]) ([(7634,.plain (.cells [(.bool true),(.int .i64 (-1)),(.int .u32 0),(.int .i64 0),(.int .u32 150994944),(.int .i64 8),(.int .u32 0),(.int .u32 65535),(.int .u32 0),(.int .u32 65535)] 0 0 false (some 68)))])),7635⟩
noncomputable def C53:Cell (runC P53 (P53.run (T0 1000)) [900,898,934,894,895,896,897,899,7634]):=⟨_,by go_invoke; rfl⟩
noncomputable def M53:MemoX:=P53.memo C53.1
theorem n53:Xf C53.1=true:=by kernel_rfl
theorem g53:M53.good=true:=by kernel_rfl
noncomputable def o8:Tr Over:=(.node none (.node none (.node none (.node none (.node none (.node none .nil (.node none (.node none .nil (.node (some Q15) .nil .nil)) .nil)) (.node none .nil (.node none (.node none (.node (some Q1h) .nil .nil) .nil) .nil))) .nil) (.node none (.node none (.node none (.node (some Q16) .nil (.node (some Q10) .nil .nil)) .nil) .nil) .nil)) (.node none (.node none (.node none (.node none (.node none .nil (.node (some Q17) .nil .nil)) (.node (some (X10 [M50])) .nil .nil)) .nil) (.node none (.node none .nil (.node none (.node none (.node (some Q1i) .nil .nil) .nil) .nil)) (.node none .nil (.node none .nil (.node (some Q4) .nil .nil))))) (.node none (.node none (.node none (.node (some Q1s) .nil (.node (some Q18) .nil .nil)) .nil) (.node none (.node none (.node (some Q1b) .nil .nil) .nil) (.node none (.node none (.node (some Q12) .nil .nil) .nil) .nil))) .nil))) (.node none (.node none (.node none .nil (.node none (.node none (.node none .nil (.node (some Q4o) .nil .nil)) (.node (some Q19) .nil .nil)) .nil)) (.node none (.node none (.node none (.node (some Q1t) (.node none (.node (some Qj) .nil .nil) .nil) (.node (some Q13) .nil .nil)) (.node (some (X10 [M53])) .nil .nil)) .nil) .nil)) (.node none (.node none (.node none (.node none .nil (.node none (.node none .nil (.node (some Q1a) .nil .nil)) .nil)) .nil) (.node none (.node none .nil (.node none .nil (.node none (.node none (.node (some Q1j) .nil .nil) .nil) .nil))) (.node none .nil (.node none .nil (.node none .nil (.node (some Q2) .nil .nil)))))) (.node none (.node none (.node none (.node (some Qw) .nil .nil) .nil) .nil) (.node (some Q1u) .nil (.node none (.node (some (X10 [M35])) .nil .nil) .nil))))))
noncomputable def T8:Nat→Tab:=shT fns (ovTr o8) 18446744073709551616
noncomputable def P54:Pre:=⟨Q9,[(.pointer (some ⟨887,0,some 0⟩)),(.string ⟨#[97,108,119,97,121,115,32,97,32,108,97,110,32,108,111,115,116,32,116,111,32,57,46,48,46,48,46,48,47,56]⟩)],List.append (sel M52.fin [885,880,882,836,826,829,804,795,786,772,779,740,738,727,729,741,873,862,864,509,531,530,508,506,495,497,510,887]) ([]),888⟩
noncomputable def C54:Cell (runC P54 (P54.run (T8 1000)) [887,864,862,873,509,531,530,508,506,495,497,510,741,729,727,738,740,779,772,786,795,804,829,826,836,882,880,885]):=⟨_,by go_invoke; rfl⟩
noncomputable def M54:MemoX:=P54.memo C54.1
theorem n54:Xf C54.1=true:=by kernel_rfl
theorem g54:M54.good=true:=by kernel_rfl
noncomputable def P55:Pre:=⟨Q9,[(.pointer (some ⟨887,0,some 0⟩)),(.string ⟨#[97,108,119,97,121,115,32,97,32,108,97,110,32,110,111,45,114,111,117,116,101,32,116,111,32,57,46,48,46,48,46,48,47,56]⟩)],List.append (sel M54.fin [885,880,882,836,826,829,804,795,786,772,779,740,738,727,729,741,873,862,864,509,531,530,508,506,495,497,510,887]) ([]),888⟩
noncomputable def C55:Cell (runC P55 (P55.run (T8 1000)) [887,864,862,873,509,531,530,508,506,495,497,510,741,729,727,738,740,779,772,786,795,804,829,826,836,882,880,885]):=⟨_,by go_invoke; rfl⟩
noncomputable def M55:MemoX:=P55.memo C55.1
theorem n55:Xf C55.1=true:=by kernel_rfl
theorem g55:M55.good=true:=by kernel_rfl
end Go.Ab.Sh
