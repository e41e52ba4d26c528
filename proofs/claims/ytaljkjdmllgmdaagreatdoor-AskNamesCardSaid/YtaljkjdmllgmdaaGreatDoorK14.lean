/-
  That calls answer what was found. No conditions.
-/
import Derived.Test.YtaljkjdmllgmdaaGreatDoorD
import Derived.Test.YtaljkjdmllgmdaaGreatDoorK0
import Derived.Test.YtaljkjdmllgmdaaGreatDoorK7
set_option linter.unusedSimpArgs false
set_option linter.unusedVariables false
set_option maxRecDepth 1000000
set_option maxHeartbeats 400000000
namespace Go.Ab.Sh
open Go Go.Ab
noncomputable def P65:Pre:=⟨Q9,[(.pointer (some ⟨347,0,some 0⟩)),(.string ⟨#[116,114,97,99,101,32,97,32,108,97,110,32,49,32,49,48,46,50,46,48,46,57,58,48,32,49,48,46,50,46,49,46,49,58,48,32,54]⟩)],List.append (sel M32.fin [345,340,342,298,288,291,266,257,247,250,222,220,209,211,223,333,322,324,161,183,182,160,158,147,149,162,347]) ([]),348⟩
noncomputable def C65:Cell (runC P65 (P65.run (T0 1000)) [347,324,322,333,161,183,182,160,158,147,149,162,223,211,209,220,222,250,247,257,266,291,288,298,342,340,345]):=⟨_,by go_invoke; rfl⟩
noncomputable def M65:MemoX:=P65.memo C65.1
theorem n65:Xf C65.1=true:=by kernel_rfl
theorem g65:M65.good=true:=by kernel_rfl
noncomputable def P66:Pre:=⟨Q9,[(.pointer (some ⟨347,0,some 0⟩)),(.string ⟨#[116,114,97,99,101,32,97,32,108,97,110,32,48,32,49,48,46,50,46,48,46,57,58,48,32,49,48,46,50,46,49,46,49,58,48,32,54]⟩)],List.append (sel M65.fin [345,340,342,298,288,291,266,257,247,250,222,220,209,211,223,333,322,324,161,183,182,160,158,147,149,162,347]) ([]),348⟩
noncomputable def C66:Cell (runC P66 (P66.run (T0 1000)) [347,324,322,333,161,183,182,160,158,147,149,162,223,211,209,220,222,250,247,257,266,291,288,298,342,340,345]):=⟨_,by go_invoke; rfl⟩
noncomputable def M66:MemoX:=P66.memo C66.1
theorem n66:Xf C66.1=true:=by kernel_rfl
theorem g66:M66.good=true:=by kernel_rfl
noncomputable def P67:Pre:=⟨Q6q,[(.pointer none),(.pointer (some ⟨347,0,some 0⟩)),(.agg ⟨[(.int .u8 1),(.string ⟨#[97]⟩),(.string ⟨#[108,97,110]⟩),(.string ⟨#[]⟩),(.int .u8 1),(.bool true),(.int .i64 (-1)),(.int .u32 0),(.int .i64 0),(.int .u32 0),(.int .i64 0),(.int .u32 0),(.int .u32 65535),(.int .u32 0),(.int .u32 65535),(.int .u32 0),(.int .u32 0),(.int .u8 0),(.int .u16 0),(.int .u16 0),(.int .i64 0),(.int .u32 0)]⟩)],List.append (sel M66.fin [345,340,342,298,288,291,266,257,247,250,222,220,209,211,223,333,322,324,161,183,182,160,158,147,149,162,347]) ([]),369⟩
noncomputable def C67:Cell (runC P67 (P67.run (T0 1000)) [347,324,322,333,161,183,182,160,158,147,149,162,223,211,209,220,222,250,247,257,266,291,288,298,342,340,345]):=⟨_,by go_invoke; rfl⟩
noncomputable def M67:MemoX:=P67.memo C67.1
theorem n67:Xf C67.1=true:=by kernel_rfl
theorem g67:M67.good=true:=by kernel_rfl
noncomputable def P68:Pre:=⟨Q6q,[(.pointer (some ⟨347,0,some 0⟩)),(.pointer none),(.agg ⟨[(.int .u8 1),(.string ⟨#[97]⟩),(.string ⟨#[108,97,110]⟩),(.string ⟨#[]⟩),(.int .u8 1),(.bool true),(.int .i64 (-1)),(.int .u32 0),(.int .i64 0),(.int .u32 0),(.int .i64 0),(.int .u32 0),(.int .u32 65535),(.int .u32 0),(.int .u32 65535),(.int .u32 0),(.int .u32 0),(.int .u8 0),(.int .u16 0),(.int .u16 0),(.int .i64 0),(.int .u32 0)]⟩)],List.append (sel M67.fin [345,340,342,298,288,291,266,257,247,250,222,220,209,211,223,333,322,324,161,183,182,160,158,147,149,162,347]) ([]),369⟩
noncomputable def C68:Cell (runC P68 (P68.run (T0 1000)) [347,324,322,333,161,183,182,160,158,147,149,162,223,211,209,220,222,250,247,257,266,291,288,298,342,340,345]):=⟨_,by go_invoke; rfl⟩
noncomputable def M68:MemoX:=P68.memo C68.1
theorem n68:Xf C68.1=true:=by kernel_rfl
theorem g68:M68.good=true:=by kernel_rfl
noncomputable def P69:Pre:=⟨Q6q,[(.pointer (some ⟨347,0,some 0⟩)),(.pointer (some ⟨347,0,some 0⟩)),(.agg ⟨[(.int .u8 7),(.string ⟨#[]⟩),(.string ⟨#[]⟩),(.string ⟨#[]⟩),(.int .u8 0),(.bool false),(.int .i64 0),(.int .u32 0),(.int .i64 0),(.int .u32 0),(.int .i64 0),(.int .u32 0),(.int .u32 0),(.int .u32 0),(.int .u32 0),(.int .u32 0),(.int .u32 0),(.int .u8 0),(.int .u16 0),(.int .u16 0),(.int .i64 0),(.int .u32 167772162)]⟩)],List.append (sel M68.fin [345,340,342,298,288,291,266,257,247,250,222,220,209,211,223,333,322,324,161,183,182,160,158,147,149,162,347]) ([]),369⟩
noncomputable def C69:Cell (runC P69 (P69.run (T0 1000)) [347,324,322,333,161,183,182,160,158,147,149,162,223,211,209,220,222,250,247,257,266,291,288,298,342,340,345]):=⟨_,by go_invoke; rfl⟩
noncomputable def M69:MemoX:=P69.memo C69.1
theorem n69:Xf C69.1=true:=by kernel_rfl
theorem g69:M69.good=true:=by kernel_rfl
noncomputable def P70:Pre:=⟨Qe3,[(.pointer (some ⟨550,0,some 0⟩)),(.pointer (some ⟨414,0,some 0⟩))],List.append (sel M69.fin [161,183,182,160,158,147,149,162]) ([(489,.plain (.cells [(.string ⟨#[108,97,110]⟩),(.int .u32 0)] 0 0 false (some 900))),(479,.plain (.cells [(.string ⟨#[101,48]⟩),(.int .u32 0)] 0 0 false (some 900))),(482,.plain (.cells [(.int .u32 167772160),(.int .i64 24),(.bool false),(.slice (some ⟨479,0,some 2⟩) 1 0),(.int .u32 167903488),(.int .i64 24),(.bool false),(.slice (some ⟨489,0,some 2⟩) 1 0)] 1 0 false (some 764))),(457,.plain (.cells [(.string ⟨#[101,48]⟩),(.int .u32 167772162)] 0 0 false (some 900))),(448,.plain (.cells [(.string ⟨#[108,97,110]⟩),(.int .u32 0)] 0 0 false (some 900))),(438,.plain (.cells [(.string ⟨#[101,48]⟩),(.int .u32 0)] 0 0 false (some 900))),(441,.plain (.cells [(.int .u32 167772160),(.int .i64 24),(.bool false),(.slice (some ⟨438,0,some 2⟩) 1 0),(.int .u32 167903232),(.int .i64 24),(.bool false),(.slice (some ⟨448,0,some 2⟩) 1 0),(.int .u32 167903488),(.int .i64 24),(.bool false),(.slice (some ⟨457,0,some 2⟩) 1 0)] 2 0 false (some 764))),(413,.plain (.map [((.agg ⟨[(.int .i64 0),(.string ⟨#[]⟩)]⟩),(.slice (some ⟨441,0,some 4⟩) 3 4),0),((.agg ⟨[(.int .i64 1),(.string ⟨#[]⟩)]⟩),(.slice (some ⟨482,0,some 4⟩) 2 2),1)] 2)),(411,.plain (.cells [(.string ⟨#[101,48]⟩),(.string ⟨#[]⟩),(.int .u32 167772162),(.int .i64 24),(.bool false),(.string ⟨#[]⟩),(.string ⟨#[]⟩),(.int .u8 0),(.int .i64 (-1)),(.int .i64 10),(.bool false),(.string ⟨#[108,97,110]⟩),(.string ⟨#[]⟩),(.int .u32 167903489),(.int .i64 24),(.bool false),(.string ⟨#[]⟩),(.string ⟨#[]⟩),(.int .u8 0),(.int .i64 (-1)),(.int .i64 10),(.bool false)] 0 0 false (some 332))),(400,.plain (.cells [(.string ⟨#[101,48]⟩),(.string ⟨#[]⟩),(.int .u32 167772161),(.int .i64 24),(.bool false),(.string ⟨#[]⟩),(.string ⟨#[]⟩),(.int .u8 0),(.int .i64 (-1)),(.int .i64 10),(.bool false),(.string ⟨#[108,97,110]⟩),(.string ⟨#[]⟩),(.int .u32 167903233),(.int .i64 24),(.bool false),(.string ⟨#[]⟩),(.string ⟨#[]⟩),(.int .u8 0),(.int .i64 (-1)),(.int .i64 10),(.bool false)] 0 0 false (some 332))),(402,.plain (.cells [(.string ⟨#[97]⟩),(.int .u8 1),(.slice none 0 0),(.slice (some ⟨400,0,some 11⟩) 2 0),(.slice none 0 0),(.slice none 0 0),(.slice none 0 0),(.slice none 0 0),(.slice none 0 0),(.slice none 0 0),(.slice none 0 0),(.slice none 0 0),(.string ⟨#[98]⟩),(.int .u8 1),(.slice none 0 0),(.slice (some ⟨411,0,some 11⟩) 2 0),(.slice none 0 0),(.slice none 0 0),(.slice none 0 0),(.slice none 0 0),(.slice none 0 0),(.slice none 0 0),(.slice none 0 0),(.slice none 0 0)] 1 0 false (some 152))),(414,.plain (.cells [(.pointer (some ⟨162,0,some 0⟩)),(.slice (some ⟨402,0,some 12⟩) 2 2),(.map (some 413))] 0 0 false (some 265))),(549,.plain (.map [] 0)),(547,.plain (.map [] 0)),(546,.plain (.map [((.int .i64 0),(.bool true),0),((.int .i64 1),(.bool true),1)] 2)),(545,.plain (.map [] 0)),(544,.plain (.map [] 0)),(543,.plain (.cells [(.int .i32 256),(.int .i32 0),(.int .i32 0),(.int .i32 256),(.int .i32 0),(.int .i32 0)] 0 0 false (some 658))),(548,.plain (.cells [(.int .i64 208),(.int .i64 3),(.slice (some ⟨543,0,some 3⟩) 2 1),(.map (some 544)),(.map (some 545)),(.map (some 546)),(.map (some 547))] 0 0 false (some 673))),(550,.plain (.cells [(.pointer (some ⟨548,0,some 0⟩)),(.map (some 549))] 0 0 false (some 447)))]),553⟩
noncomputable def C70:Cell (runC P70 (P70.run (T0 1000)) [550,584,548,543,544,545,546,547,549,414,162,149,147,158,160,182,183,161,402,400,411,413,441,438,448,457,482,479,489]):=⟨_,by go_invoke; rfl⟩
noncomputable def M70:MemoX:=P70.memo C70.1
theorem n70:Xf C70.1=true:=by kernel_rfl
theorem g70:M70.good=true:=by kernel_rfl
end Go.Ab.Sh
