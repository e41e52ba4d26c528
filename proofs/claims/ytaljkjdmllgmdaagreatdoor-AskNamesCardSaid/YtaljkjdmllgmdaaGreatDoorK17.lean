/-
  That calls answer what was found. No conditions.
-/
import Derived.Test.YtaljkjdmllgmdaaGreatDoorD
import Derived.Test.YtaljkjdmllgmdaaGreatDoorK0
import Derived.Test.YtaljkjdmllgmdaaGreatDoorK16
set_option linter.unusedSimpArgs false
set_option linter.unusedVariables false
set_option maxRecDepth 1000000
set_option maxHeartbeats 400000000
namespace Go.Ab.Sh
open Go Go.Ab
noncomputable def P76:Pre:=⟨Q0,[(.pointer (some ⟨2237,0,some 0⟩)),(.func (.func 183) ⟨[]⟩ ⟨[]⟩),(.func (.func 184) ⟨[]⟩ ⟨[(.pointer (some ⟨2234,0,some 0⟩)),(.pointer (some ⟨3825,0,some 0⟩)),(.pointer (some ⟨2238,0,some 0⟩))]⟩)],List.append (sel M75.fin [2238,2236,2235,2231,2233,2110,2112,1611,1619,1447,1455,689,693,549,547,546,545,544,584,548,550,701,2237]) (List.append (sel M74.fin [2234]) ([(3825,.plain (.cells [(.int .u8 3)] 0 0 false (some 11)))])),3826⟩
noncomputable def C76:Cell (runC P76 (P76.run (T0 1000)) [2234,3825,2236,2235,2231,2233,2110,2112,1611,1619,1447,1455,689,693,549,547,546,545,544,584,548,550,701,2237,2238,3826]):=⟨_,by go_invoke; rfl⟩
noncomputable def M76:MemoX:=P76.memo C76.1
theorem n76:Xf C76.1=true:=by kernel_rfl
theorem g76:M76.good=true:=by kernel_rfl
noncomputable def P77:Pre:=⟨Q0,[(.pointer (some ⟨2237,0,some 0⟩)),(.func (.func 187) ⟨[]⟩ ⟨[]⟩),(.func (.func 188) ⟨[]⟩ ⟨[(.pointer (some ⟨2238,0,some 0⟩)),(.pointer (some ⟨3825,0,some 0⟩))]⟩)],List.append (sel M76.fin [3825,2238,2236,2235,2231,2233,2110,2112,1611,1619,1447,1455,689,693,549,547,546,545,544,584,548,550,701,2237]) ([]),3932⟩
noncomputable def C77:Cell (runC P77 (P77.run (T0 1000)) [2236,2235,2231,2233,2110,2112,1611,1619,1447,1455,689,693,549,547,546,545,544,584,548,550,701,2237,2238,3825,3932]):=⟨_,by go_invoke; rfl⟩
noncomputable def M77:MemoX:=P77.memo C77.1
theorem n77:Xf C77.1=true:=by kernel_rfl
theorem g77:M77.good=true:=by kernel_rfl
noncomputable def P78:Pre:=⟨Q0,[(.pointer (some ⟨2237,0,some 0⟩)),(.func (.func 183) ⟨[]⟩ ⟨[]⟩),(.func (.func 184) ⟨[]⟩ ⟨[(.pointer (some ⟨2234,0,some 0⟩)),(.pointer (some ⟨4084,0,some 0⟩)),(.pointer (some ⟨2238,0,some 0⟩))]⟩)],List.append (sel M77.fin [2238,2236,2235,2231,2233,2110,2112,1611,1619,1447,1455,689,693,549,547,546,545,544,584,548,550,701,2237]) (List.append (sel M76.fin [2234]) ([(4084,.plain (.cells [(.int .u8 4)] 0 0 false (some 11)))])),4085⟩
noncomputable def C78:Cell (runC P78 (P78.run (T0 1000)) [2234,4084,2236,2235,2231,2233,2110,2112,1611,1619,1447,1455,689,693,549,547,546,545,544,584,548,550,701,2237,2238,4085]):=⟨_,by go_invoke; rfl⟩
noncomputable def M78:MemoX:=P78.memo C78.1
theorem n78:Xf C78.1=true:=by kernel_rfl
theorem g78:M78.good=true:=by kernel_rfl
noncomputable def P79:Pre:=⟨Q0,[(.pointer (some ⟨2237,0,some 0⟩)),(.func (.func 187) ⟨[]⟩ ⟨[]⟩),(.func (.func 188) ⟨[]⟩ ⟨[(.pointer (some ⟨2238,0,some 0⟩)),(.pointer (some ⟨4084,0,some 0⟩))]⟩)],List.append (sel M78.fin [4084,2238,2236,2235,2231,2233,2110,2112,1611,1619,1447,1455,689,693,549,547,546,545,544,584,548,550,701,2237]) ([]),4289⟩
noncomputable def C79:Cell (runC P79 (P79.run (T0 1000)) [2236,2235,2231,2233,2110,2112,1611,1619,1447,1455,689,693,549,547,546,545,544,584,548,550,701,2237,2238,4084,4289]):=⟨_,by go_invoke; rfl⟩
noncomputable def M79:MemoX:=P79.memo C79.1
theorem n79:Xf C79.1=true:=by kernel_rfl
theorem g79:M79.good=true:=by kernel_rfl
noncomputable def P80:Pre:=⟨Q0,[(.pointer (some ⟨2237,0,some 0⟩)),(.func (.func 183) ⟨[]⟩ ⟨[]⟩),(.func (.func 184) ⟨[]⟩ ⟨[(.pointer (some ⟨2234,0,some 0⟩)),(.pointer (some ⟨4754,0,some 0⟩)),(.pointer (some ⟨2238,0,some 0⟩))]⟩)],List.append (sel M79.fin [2238,2231,2233,2110,2112,1611,1619,1447,1455,689,693,549,547,546,545,544,584,548,550,701,2237]) (List.append (sel M78.fin [2234]) ([(4754,.plain (.cells [(.int .u8 5)] 0 0 false (some 11))),(2236,.plain (.map [((.agg ⟨[(.int .i64 0),(.int .i64 0)]⟩),(.agg ⟨[(.int .i64 0),(.int .i64 1347),(.int .i64 0),(.int .i64 0),(.int .i64 1114),(.int .i64 0),(.int .i64 0),(.int .i64 0)]⟩),0),((.agg ⟨[(.int .i64 0),(.int .i64 1)]⟩),(.agg ⟨[(.int .i64 0),(.int .i64 1347),(.int .i64 0),(.int .i64 0),(.int .i64 1114),(.int .i64 0),(.int .i64 0),(.int .i64 0)]⟩),1),((.agg ⟨[(.int .i64 1),(.int .i64 0)]⟩),(.agg ⟨[(.int .i64 0),(.int .i64 1324),(.int .i64 0),(.int .i64 0),(.int .i64 1278),(.int .i64 0),(.int .i64 0),(.int .i64 0)]⟩),2),((.agg ⟨[(.int .i64 1),(.int .i64 1)]⟩),(.agg ⟨[(.int .i64 0),(.int .i64 1324),(.int .i64 0),(.int .i64 0),(.int .i64 1278),(.int .i64 0),(.int .i64 0),(.int .i64 0)]⟩),3)] 4)),(2235,.plain (.map [((.agg ⟨[(.int .i64 0),(.int .i64 0)]⟩),(.agg ⟨[(.int .i64 0),(.int .i64 1347),(.int .i64 0),(.int .i64 0),(.int .i64 1114),(.int .i64 0),(.int .i64 0),(.int .i64 0)]⟩),0),((.agg ⟨[(.int .i64 0),(.int .i64 1)]⟩),(.agg ⟨[(.int .i64 0),(.int .i64 1347),(.int .i64 0),(.int .i64 0),(.int .i64 1114),(.int .i64 0),(.int .i64 0),(.int .i64 0)]⟩),1),((.agg ⟨[(.int .i64 1),(.int .i64 0)]⟩),(.agg ⟨[(.int .i64 0),(.int .i64 1324),(.int .i64 0),(.int .i64 0),(.int .i64 1278),(.int .i64 0),(.int .i64 0),(.int .i64 0)]⟩),2),((.agg ⟨[(.int .i64 1),(.int .i64 1)]⟩),(.agg ⟨[(.int .i64 0),(.int .i64 1324),(.int .i64 0),(.int .i64 0),(.int .i64 1278),(.int .i64 0),(.int .i64 0),(.int .i64 0)]⟩),3)] 4))])),4755⟩
noncomputable def C80:Cell (runC P80 (P80.run (T0 1000)) [2234,4754,2236,2235,2231,2233,2110,2112,1611,1619,1447,1455,689,693,549,547,546,545,544,584,548,550,701,2237,2238,4755]):=⟨_,by go_invoke; rfl⟩
noncomputable def M80:MemoX:=P80.memo C80.1
theorem n80:Xf C80.1=true:=by kernel_rfl
theorem g80:M80.good=true:=by kernel_rfl
noncomputable def P81:Pre:=⟨Q0,[(.pointer (some ⟨2237,0,some 0⟩)),(.func (.func 187) ⟨[]⟩ ⟨[]⟩),(.func (.func 188) ⟨[]⟩ ⟨[(.pointer (some ⟨2238,0,some 0⟩)),(.pointer (some ⟨4754,0,some 0⟩))]⟩)],List.append (sel M80.fin [4754,2238,2236,2235,2231,2233,2110,2112,1611,1619,1447,1455,689,693,549,547,546,545,544,584,548,550,701,2237]) ([]),4861⟩
noncomputable def C81:Cell (runC P81 (P81.run (T0 1000)) [2236,2235,2231,2233,2110,2112,1611,1619,1447,1455,689,693,549,547,546,545,544,584,548,550,701,2237,2238,4754,4861]):=⟨_,by go_invoke; rfl⟩
noncomputable def M81:MemoX:=P81.memo C81.1
theorem n81:Xf C81.1=true:=by kernel_rfl
theorem g81:M81.good=true:=by kernel_rfl
noncomputable def P82:Pre:=⟨Q0,[(.pointer (some ⟨2237,0,some 0⟩)),(.func (.func 183) ⟨[]⟩ ⟨[]⟩),(.func (.func 184) ⟨[]⟩ ⟨[(.pointer (some ⟨2234,0,some 0⟩)),(.pointer (some ⟨5013,0,some 0⟩)),(.pointer (some ⟨2238,0,some 0⟩))]⟩)],List.append (sel M81.fin [2238,2236,2235,2231,2233,2110,2112,1611,1619,1447,1455,689,693,549,547,546,545,544,584,548,550,701,2237]) (List.append (sel M80.fin [2234]) ([(5013,.plain (.cells [(.int .u8 6)] 0 0 false (some 11)))])),5014⟩
noncomputable def C82:Cell (runC P82 (P82.run (T0 1000)) [2234,5013,2236,2235,2231,2233,2110,2112,1611,1619,1447,1455,689,693,549,547,546,545,544,584,548,550,701,2237,2238,5014]):=⟨_,by go_invoke; rfl⟩
noncomputable def M82:MemoX:=P82.memo C82.1
theorem n82:Xf C82.1=true:=by kernel_rfl
theorem g82:M82.good=true:=by kernel_rfl
noncomputable def P83:Pre:=⟨Q0,[(.pointer (some ⟨2237,0,some 0⟩)),(.func (.func 187) ⟨[]⟩ ⟨[]⟩),(.func (.func 188) ⟨[]⟩ ⟨[(.pointer (some ⟨2238,0,some 0⟩)),(.pointer (some ⟨5013,0,some 0⟩))]⟩)],List.append (sel M82.fin [5013,2238,2236,2235,2231,2233,2110,2112,1611,1619,1447,1455,689,693,549,547,546,545,544,584,548,550,701,2237]) ([]),5373⟩
noncomputable def C83:Cell (runC P83 (P83.run (T0 1000)) [2236,2235,2231,2233,2110,2112,1611,1619,1447,1455,689,693,549,547,546,545,544,584,548,550,701,2237,2238,5013,5373]):=⟨_,by go_invoke; rfl⟩
noncomputable def M83:MemoX:=P83.memo C83.1
theorem n83:Xf C83.1=true:=by kernel_rfl
theorem g83:M83.good=true:=by kernel_rfl
noncomputable def P84:Pre:=⟨Q0,[(.pointer (some ⟨2237,0,some 0⟩)),(.func (.func 183) ⟨[]⟩ ⟨[]⟩),(.func (.func 184) ⟨[]⟩ ⟨[(.pointer (some ⟨2234,0,some 0⟩)),(.pointer (some ⟨5958,0,some 0⟩)),(.pointer (some ⟨2238,0,some 0⟩))]⟩)],List.append (sel M83.fin [2238,2231,2233,2110,2112,1611,1619,1447,1455,689,693,549,547,546,545,544,584,548,550,701,2237]) (List.append (sel M82.fin [2234]) ([(5958,.plain (.cells [(.int .u8 7)] 0 0 false (some 11))),(2236,.plain (.map [((.agg ⟨[(.int .i64 0),(.int .i64 0)]⟩),(.agg ⟨[(.int .i64 0),(.int .i64 1347),(.int .i64 0),(.int .i64 0),(.int .i64 1114),(.int .i64 0),(.int .i64 1602),(.int .i64 0)]⟩),0),((.agg ⟨[(.int .i64 0),(.int .i64 1)]⟩),(.agg ⟨[(.int .i64 0),(.int .i64 1347),(.int .i64 0),(.int .i64 0),(.int .i64 1114),(.int .i64 0),(.int .i64 1602),(.int .i64 0)]⟩),1),((.agg ⟨[(.int .i64 1),(.int .i64 0)]⟩),(.agg ⟨[(.int .i64 0),(.int .i64 1324),(.int .i64 0),(.int .i64 0),(.int .i64 1278),(.int .i64 0),(.int .i64 1293),(.int .i64 0)]⟩),2),((.agg ⟨[(.int .i64 1),(.int .i64 1)]⟩),(.agg ⟨[(.int .i64 0),(.int .i64 1324),(.int .i64 0),(.int .i64 0),(.int .i64 1278),(.int .i64 0),(.int .i64 1293),(.int .i64 0)]⟩),3)] 4)),(2235,.plain (.map [((.agg ⟨[(.int .i64 0),(.int .i64 0)]⟩),(.agg ⟨[(.int .i64 0),(.int .i64 1347),(.int .i64 0),(.int .i64 0),(.int .i64 1114),(.int .i64 0),(.int .i64 1602),(.int .i64 0)]⟩),0),((.agg ⟨[(.int .i64 0),(.int .i64 1)]⟩),(.agg ⟨[(.int .i64 0),(.int .i64 1347),(.int .i64 0),(.int .i64 0),(.int .i64 1114),(.int .i64 0),(.int .i64 1602),(.int .i64 0)]⟩),1),((.agg ⟨[(.int .i64 1),(.int .i64 0)]⟩),(.agg ⟨[(.int .i64 0),(.int .i64 1324),(.int .i64 0),(.int .i64 0),(.int .i64 1278),(.int .i64 0),(.int .i64 1293),(.int .i64 0)]⟩),2),((.agg ⟨[(.int .i64 1),(.int .i64 1)]⟩),(.agg ⟨[(.int .i64 0),(.int .i64 1324),(.int .i64 0),(.int .i64 0),(.int .i64 1278),(.int .i64 0),(.int .i64 1293),(.int .i64 0)]⟩),3)] 4))])),5959⟩
noncomputable def C84:Cell (runC P84 (P84.run (T0 1000)) [2234,5958,2236,2235,2231,2233,2110,2112,1611,1619,1447,1455,689,693,549,547,546,545,544,584,548,550,701,2237,2238,5959]):=⟨_,by go_invoke; rfl⟩
noncomputable def M84:MemoX:=P84.memo C84.1
theorem n84:Xf C84.1=true:=by kernel_rfl
theorem g84:M84.good=true:=by kernel_rfl
noncomputable def P85:Pre:=⟨Q0,[(.pointer (some ⟨2237,0,some 0⟩)),(.func (.func 187) ⟨[]⟩ ⟨[]⟩),(.func (.func 188) ⟨[]⟩ ⟨[(.pointer (some ⟨2238,0,some 0⟩)),(.pointer (some ⟨5958,0,some 0⟩))]⟩)],List.append (sel M84.fin [5958,2238,2236,2235,2231,2233,2110,2112,1611,1619,1447,1455,689,693,549,547,546,545,544,584,548,550,701,2237]) ([]),6065⟩
noncomputable def C85:Cell (runC P85 (P85.run (T0 1000)) [2236,2235,2231,2233,2110,2112,1611,1619,1447,1455,689,693,549,547,546,545,544,584,548,550,701,2237,2238,5958,6065]):=⟨_,by go_invoke; rfl⟩
noncomputable def M85:MemoX:=P85.memo C85.1
theorem n85:Xf C85.1=true:=by kernel_rfl
theorem g85:M85.good=true:=by kernel_rfl
end Go.Ab.Sh
