/-
  That calls answer what was found. No conditions.
-/
import Derived.Test.YtaljkjdmllgmdaaGreatDoorD
import Derived.Test.YtaljkjdmllgmdaaGreatDoorK0
import Derived.Test.YtaljkjdmllgmdaaGreatDoorK15
set_option linter.unusedSimpArgs false
set_option linter.unusedVariables false
set_option maxRecDepth 1000000
set_option maxHeartbeats 400000000
namespace Go.Ab.Sh
open Go Go.Ab
noncomputable def P72:Pre:=⟨Q0,[(.pointer (some ⟨2237,0,some 0⟩)),(.func (.func 183) ⟨[]⟩ ⟨[]⟩),(.func (.func 184) ⟨[]⟩ ⟨[(.pointer (some ⟨2234,0,some 0⟩)),(.pointer (some ⟨2239,0,some 0⟩)),(.pointer (some ⟨2238,0,some 0⟩))]⟩)],List.append (sel M71.fin [2231,2233,2110,2112,1611,1619,1447,1455,689,693,549,547,546,545,544,584,548,550,701]) ([(2238,.plain (.cells [(.pointer (some ⟨2237,0,some 0⟩))] 0 0 false (some 463))),(2239,.plain (.cells [(.int .u8 1)] 0 0 false (some 11))),(2234,.plain (.cells [(.pointer (some ⟨701,0,some 0⟩))] 0 0 false (some 449))),(2236,.plain (.map [] 0)),(2235,.plain (.map [] 0)),(2237,.plain (.cells [(.pointer (some ⟨701,0,some 0⟩)),(.map (some 2235)),(.map (some 2236))] 0 0 false (some 717)))]),2240⟩
noncomputable def C72:Cell (runC P72 (P72.run (T0 1000)) [2234,2239,2236,2235,2231,2233,2110,2112,1611,1619,1447,1455,689,693,549,547,546,545,544,584,548,550,701,2237,2238,2240]):=⟨_,by go_invoke; rfl⟩
noncomputable def M72:MemoX:=P72.memo C72.1
theorem n72:Xf C72.1=true:=by kernel_rfl
theorem g72:M72.good=true:=by kernel_rfl
noncomputable def P73:Pre:=⟨Q0,[(.pointer (some ⟨2237,0,some 0⟩)),(.func (.func 187) ⟨[]⟩ ⟨[]⟩),(.func (.func 188) ⟨[]⟩ ⟨[(.pointer (some ⟨2238,0,some 0⟩)),(.pointer (some ⟨2239,0,some 0⟩))]⟩)],List.append (sel M72.fin [2239,2238,2236,2235,2231,2233,2110,2112,1611,1619,1447,1455,689,693,549,547,546,545,544,584,548,550,701,2237]) ([]),2657⟩
noncomputable def C73:Cell (runC P73 (P73.run (T0 1000)) [2236,2235,2231,2233,2110,2112,1611,1619,1447,1455,689,693,549,547,546,545,544,584,548,550,701,2237,2238,2239,2657]):=⟨_,by go_invoke; rfl⟩
noncomputable def M73:MemoX:=P73.memo C73.1
theorem n73:Xf C73.1=true:=by kernel_rfl
theorem g73:M73.good=true:=by kernel_rfl
noncomputable def P74:Pre:=⟨Q0,[(.pointer (some ⟨2237,0,some 0⟩)),(.func (.func 183) ⟨[]⟩ ⟨[]⟩),(.func (.func 184) ⟨[]⟩ ⟨[(.pointer (some ⟨2234,0,some 0⟩)),(.pointer (some ⟨3408,0,some 0⟩)),(.pointer (some ⟨2238,0,some 0⟩))]⟩)],List.append (sel M73.fin [2238,2231,2233,2110,2112,1611,1619,1447,1455,689,693,549,547,546,545,544,584,548,550,701,2237]) (List.append (sel M72.fin [2234]) ([(3408,.plain (.cells [(.int .u8 2)] 0 0 false (some 11))),(2236,.plain (.map [((.agg ⟨[(.int .i64 0),(.int .i64 0)]⟩),(.agg ⟨[(.int .i64 0),(.int .i64 1347),(.int .i64 0),(.int .i64 0),(.int .i64 0),(.int .i64 0),(.int .i64 0),(.int .i64 0)]⟩),0),((.agg ⟨[(.int .i64 0),(.int .i64 1)]⟩),(.agg ⟨[(.int .i64 0),(.int .i64 1347),(.int .i64 0),(.int .i64 0),(.int .i64 0),(.int .i64 0),(.int .i64 0),(.int .i64 0)]⟩),1),((.agg ⟨[(.int .i64 1),(.int .i64 0)]⟩),(.agg ⟨[(.int .i64 0),(.int .i64 1324),(.int .i64 0),(.int .i64 0),(.int .i64 0),(.int .i64 0),(.int .i64 0),(.int .i64 0)]⟩),2),((.agg ⟨[(.int .i64 1),(.int .i64 1)]⟩),(.agg ⟨[(.int .i64 0),(.int .i64 1324),(.int .i64 0),(.int .i64 0),(.int .i64 0),(.int .i64 0),(.int .i64 0),(.int .i64 0)]⟩),3)] 4)),(2235,.plain (.map [((.agg ⟨[(.int .i64 0),(.int .i64 0)]⟩),(.agg ⟨[(.int .i64 0),(.int .i64 1347),(.int .i64 0),(.int .i64 0),(.int .i64 0),(.int .i64 0),(.int .i64 0),(.int .i64 0)]⟩),0),((.agg ⟨[(.int .i64 0),(.int .i64 1)]⟩),(.agg ⟨[(.int .i64 0),(.int .i64 1347),(.int .i64 0),(.int .i64 0),(.int .i64 0),(.int .i64 0),(.int .i64 0),(.int .i64 0)]⟩),1),((.agg ⟨[(.int .i64 1),(.int .i64 0)]⟩),(.agg ⟨[(.int .i64 0),(.int .i64 1324),(.int .i64 0),(.int .i64 0),(.int .i64 0),(.int .i64 0),(.int .i64 0),(.int .i64 0)]⟩),2),((.agg ⟨[(.int .i64 1),(.int .i64 1)]⟩),(.agg ⟨[(.int .i64 0),(.int .i64 1324),(.int .i64 0),(.int .i64 0),(.int .i64 0),(.int .i64 0),(.int .i64 0),(.int .i64 0)]⟩),3)] 4))])),3409⟩
noncomputable def C74:Cell (runC P74 (P74.run (T0 1000)) [2234,3408,2236,2235,2231,2233,2110,2112,1611,1619,1447,1455,689,693,549,547,546,545,544,584,548,550,701,2237,2238,3409]):=⟨_,by go_invoke; rfl⟩
noncomputable def M74:MemoX:=P74.memo C74.1
theorem n74:Xf C74.1=true:=by kernel_rfl
theorem g74:M74.good=true:=by kernel_rfl
noncomputable def P75:Pre:=⟨Q0,[(.pointer (some ⟨2237,0,some 0⟩)),(.func (.func 187) ⟨[]⟩ ⟨[]⟩),(.func (.func 188) ⟨[]⟩ ⟨[(.pointer (some ⟨2238,0,some 0⟩)),(.pointer (some ⟨3408,0,some 0⟩))]⟩)],List.append (sel M74.fin [3408,2238,2236,2235,2231,2233,2110,2112,1611,1619,1447,1455,689,693,549,547,546,545,544,584,548,550,701,2237]) ([]),3515⟩
noncomputable def C75:Cell (runC P75 (P75.run (T0 1000)) [2236,2235,2231,2233,2110,2112,1611,1619,1447,1455,689,693,549,547,546,545,544,584,548,550,701,2237,2238,3408,3515]):=⟨_,by go_invoke; rfl⟩
noncomputable def M75:MemoX:=P75.memo C75.1
theorem n75:Xf C75.1=true:=by kernel_rfl
theorem g75:M75.good=true:=by kernel_rfl
end Go.Ab.Sh
