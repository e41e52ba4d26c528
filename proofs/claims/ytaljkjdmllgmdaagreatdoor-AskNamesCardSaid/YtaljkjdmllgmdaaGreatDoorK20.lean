/-
  That calls answer what was found. No conditions.
-/
import Derived.Test.YtaljkjdmllgmdaaGreatDoorD
import Derived.Test.YtaljkjdmllgmdaaGreatDoorK0
import Derived.Test.YtaljkjdmllgmdaaGreatDoorK19
set_option linter.unusedSimpArgs false
set_option linter.unusedVariables false
set_option maxRecDepth 1000000
set_option maxHeartbeats 400000000
namespace Go.Ab.Sh
open Go Go.Ab
noncomputable def P89:Pre:=⟨Q0,[(.pointer (some ⟨6984,0,some 0⟩)),(.func (.func 183) ⟨[]⟩ ⟨[]⟩),(.func (.func 184) ⟨[]⟩ ⟨[(.pointer (some ⟨6981,0,some 0⟩)),(.pointer (some ⟨6986,0,some 0⟩)),(.pointer (some ⟨6985,0,some 0⟩))]⟩)],List.append (sel M88.fin [6978,6980,6857,6859,6730,6738,6566,6574,6398,6402,549,547,546,545,544,584,548,550,6410]) ([(6985,.plain (.cells [(.pointer (some ⟨6984,0,some 0⟩))] 0 0 false (some 463))),(6986,.plain (.cells [(.int .u8 1)] 0 0 false (some 11))),(6981,.plain (.cells [(.pointer (some ⟨6410,0,some 0⟩))] 0 0 false (some 449))),(6983,.plain (.map [] 0)),(6982,.plain (.map [] 0)),(6984,.plain (.cells [(.pointer (some ⟨6410,0,some 0⟩)),(.map (some 6982)),(.map (some 6983))] 0 0 false (some 717)))]),6987⟩
noncomputable def C89:Cell (runC P89 (P89.run (T0 1000)) [6981,6986,6983,6982,6978,6980,6857,6859,6730,6738,6566,6574,6398,6402,549,547,546,545,544,584,548,550,6410,6984,6985,6987]):=⟨_,by go_invoke; rfl⟩
noncomputable def M89:MemoX:=P89.memo C89.1
theorem n89:Xf C89.1=true:=by kernel_rfl
theorem g89:M89.good=true:=by kernel_rfl
noncomputable def P90:Pre:=⟨Q0,[(.pointer (some ⟨6984,0,some 0⟩)),(.func (.func 187) ⟨[]⟩ ⟨[]⟩),(.func (.func 188) ⟨[]⟩ ⟨[(.pointer (some ⟨6985,0,some 0⟩)),(.pointer (some ⟨6986,0,some 0⟩))]⟩)],List.append (sel M89.fin [6986,6985,6983,6982,6978,6980,6857,6859,6730,6738,6566,6574,6398,6402,549,547,546,545,544,584,548,550,6410,6984]) ([]),7289⟩
noncomputable def C90:Cell (runC P90 (P90.run (T0 1000)) [6983,6982,6978,6980,6857,6859,6730,6738,6566,6574,6398,6402,549,547,546,545,544,584,548,550,6410,6984,6985,6986,7289]):=⟨_,by go_invoke; rfl⟩
noncomputable def M90:MemoX:=P90.memo C90.1
theorem n90:Xf C90.1=true:=by kernel_rfl
theorem g90:M90.good=true:=by kernel_rfl
noncomputable def P91:Pre:=⟨Q0,[(.pointer (some ⟨6984,0,some 0⟩)),(.func (.func 183) ⟨[]⟩ ⟨[]⟩),(.func (.func 184) ⟨[]⟩ ⟨[(.pointer (some ⟨6981,0,some 0⟩)),(.pointer (some ⟨7701,0,some 0⟩)),(.pointer (some ⟨6985,0,some 0⟩))]⟩)],List.append (sel M90.fin [6985,6978,6980,6857,6859,6730,6738,6566,6574,6398,6402,549,547,546,545,544,584,548,550,6410,6984]) (List.append (sel M89.fin [6981]) ([(7701,.plain (.cells [(.int .u8 2)] 0 0 false (some 11))),(6983,.plain (.map [((.agg ⟨[(.int .i64 0),(.int .i64 0)]⟩),(.agg ⟨[(.int .i64 0),(.int .i64 1347),(.int .i64 0),(.int .i64 0),(.int .i64 0),(.int .i64 0),(.int .i64 0),(.int .i64 0)]⟩),0),((.agg ⟨[(.int .i64 0),(.int .i64 1)]⟩),(.agg ⟨[(.int .i64 0),(.int .i64 1347),(.int .i64 0),(.int .i64 0),(.int .i64 0),(.int .i64 0),(.int .i64 0),(.int .i64 0)]⟩),1),((.agg ⟨[(.int .i64 1),(.int .i64 0)]⟩),(.agg ⟨[(.int .i64 0),(.int .i64 1324),(.int .i64 0),(.int .i64 0),(.int .i64 0),(.int .i64 0),(.int .i64 0),(.int .i64 0)]⟩),2),((.agg ⟨[(.int .i64 1),(.int .i64 1)]⟩),(.agg ⟨[(.int .i64 0),(.int .i64 1324),(.int .i64 0),(.int .i64 0),(.int .i64 0),(.int .i64 0),(.int .i64 0),(.int .i64 0)]⟩),3)] 4)),(6982,.plain (.map [((.agg ⟨[(.int .i64 0),(.int .i64 0)]⟩),(.agg ⟨[(.int .i64 0),(.int .i64 1347),(.int .i64 0),(.int .i64 0),(.int .i64 0),(.int .i64 0),(.int .i64 0),(.int .i64 0)]⟩),0),((.agg ⟨[(.int .i64 0),(.int .i64 1)]⟩),(.agg ⟨[(.int .i64 0),(.int .i64 1347),(.int .i64 0),(.int .i64 0),(.int .i64 0),(.int .i64 0),(.int .i64 0),(.int .i64 0)]⟩),1),((.agg ⟨[(.int .i64 1),(.int .i64 0)]⟩),(.agg ⟨[(.int .i64 0),(.int .i64 1324),(.int .i64 0),(.int .i64 0),(.int .i64 0),(.int .i64 0),(.int .i64 0),(.int .i64 0)]⟩),2),((.agg ⟨[(.int .i64 1),(.int .i64 1)]⟩),(.agg ⟨[(.int .i64 0),(.int .i64 1324),(.int .i64 0),(.int .i64 0),(.int .i64 0),(.int .i64 0),(.int .i64 0),(.int .i64 0)]⟩),3)] 4))])),7702⟩
noncomputable def C91:Cell (runC P91 (P91.run (T0 1000)) [6981,7701,6983,6982,6978,6980,6857,6859,6730,6738,6566,6574,6398,6402,549,547,546,545,544,584,548,550,6410,6984,6985,7702]):=⟨_,by go_invoke; rfl⟩
noncomputable def M91:MemoX:=P91.memo C91.1
theorem n91:Xf C91.1=true:=by kernel_rfl
theorem g91:M91.good=true:=by kernel_rfl
noncomputable def P92:Pre:=⟨Q0,[(.pointer (some ⟨6984,0,some 0⟩)),(.func (.func 187) ⟨[]⟩ ⟨[]⟩),(.func (.func 188) ⟨[]⟩ ⟨[(.pointer (some ⟨6985,0,some 0⟩)),(.pointer (some ⟨7701,0,some 0⟩))]⟩)],List.append (sel M91.fin [7701,6985,6983,6982,6978,6980,6857,6859,6730,6738,6566,6574,6398,6402,549,547,546,545,544,584,548,550,6410,6984]) ([]),7808⟩
noncomputable def C92:Cell (runC P92 (P92.run (T0 1000)) [6983,6982,6978,6980,6857,6859,6730,6738,6566,6574,6398,6402,549,547,546,545,544,584,548,550,6410,6984,6985,7701,7808]):=⟨_,by go_invoke; rfl⟩
noncomputable def M92:MemoX:=P92.memo C92.1
theorem n92:Xf C92.1=true:=by kernel_rfl
theorem g92:M92.good=true:=by kernel_rfl
noncomputable def P93:Pre:=⟨Q0,[(.pointer (some ⟨6984,0,some 0⟩)),(.func (.func 183) ⟨[]⟩ ⟨[]⟩),(.func (.func 184) ⟨[]⟩ ⟨[(.pointer (some ⟨6981,0,some 0⟩)),(.pointer (some ⟨7960,0,some 0⟩)),(.pointer (some ⟨6985,0,some 0⟩))]⟩)],List.append (sel M92.fin [6985,6983,6982,6978,6980,6857,6859,6730,6738,6566,6574,6398,6402,549,547,546,545,544,584,548,550,6410,6984]) (List.append (sel M91.fin [6981]) ([(7960,.plain (.cells [(.int .u8 3)] 0 0 false (some 11)))])),7961⟩
noncomputable def C93:Cell (runC P93 (P93.run (T0 1000)) [6981,7960,6983,6982,6978,6980,6857,6859,6730,6738,6566,6574,6398,6402,549,547,546,545,544,584,548,550,6410,6984,6985,7961]):=⟨_,by go_invoke; rfl⟩
noncomputable def M93:MemoX:=P93.memo C93.1
theorem n93:Xf C93.1=true:=by kernel_rfl
theorem g93:M93.good=true:=by kernel_rfl
noncomputable def P94:Pre:=⟨Q0,[(.pointer (some ⟨6984,0,some 0⟩)),(.func (.func 187) ⟨[]⟩ ⟨[]⟩),(.func (.func 188) ⟨[]⟩ ⟨[(.pointer (some ⟨6985,0,some 0⟩)),(.pointer (some ⟨7960,0,some 0⟩))]⟩)],List.append (sel M93.fin [7960,6985,6983,6982,6978,6980,6857,6859,6730,6738,6566,6574,6398,6402,549,547,546,545,544,584,548,550,6410,6984]) ([]),8067⟩
noncomputable def C94:Cell (runC P94 (P94.run (T0 1000)) [6983,6982,6978,6980,6857,6859,6730,6738,6566,6574,6398,6402,549,547,546,545,544,584,548,550,6410,6984,6985,7960,8067]):=⟨_,by go_invoke; rfl⟩
noncomputable def M94:MemoX:=P94.memo C94.1
theorem n94:Xf C94.1=true:=by kernel_rfl
theorem g94:M94.good=true:=by kernel_rfl
noncomputable def P95:Pre:=⟨Q0,[(.pointer (some ⟨6984,0,some 0⟩)),(.func (.func 183) ⟨[]⟩ ⟨[]⟩),(.func (.func 184) ⟨[]⟩ ⟨[(.pointer (some ⟨6981,0,some 0⟩)),(.pointer (some ⟨8219,0,some 0⟩)),(.pointer (some ⟨6985,0,some 0⟩))]⟩)],List.append (sel M94.fin [6985,6983,6982,6978,6980,6857,6859,6730,6738,6566,6574,6398,6402,549,547,546,545,544,584,548,550,6410,6984]) (List.append (sel M93.fin [6981]) ([(8219,.plain (.cells [(.int .u8 4)] 0 0 false (some 11)))])),8220⟩
noncomputable def C95:Cell (runC P95 (P95.run (T0 1000)) [6981,8219,6983,6982,6978,6980,6857,6859,6730,6738,6566,6574,6398,6402,549,547,546,545,544,584,548,550,6410,6984,6985,8220]):=⟨_,by go_invoke; rfl⟩
noncomputable def M95:MemoX:=P95.memo C95.1
theorem n95:Xf C95.1=true:=by kernel_rfl
theorem g95:M95.good=true:=by kernel_rfl
noncomputable def P96:Pre:=⟨Q0,[(.pointer (some ⟨6984,0,some 0⟩)),(.func (.func 187) ⟨[]⟩ ⟨[]⟩),(.func (.func 188) ⟨[]⟩ ⟨[(.pointer (some ⟨6985,0,some 0⟩)),(.pointer (some ⟨8219,0,some 0⟩))]⟩)],List.append (sel M95.fin [8219,6985,6983,6982,6978,6980,6857,6859,6730,6738,6566,6574,6398,6402,549,547,546,545,544,584,548,550,6410,6984]) ([]),8424⟩
noncomputable def C96:Cell (runC P96 (P96.run (T0 1000)) [6983,6982,6978,6980,6857,6859,6730,6738,6566,6574,6398,6402,549,547,546,545,544,584,548,550,6410,6984,6985,8219,8424]):=⟨_,by go_invoke; rfl⟩
noncomputable def M96:MemoX:=P96.memo C96.1
theorem n96:Xf C96.1=true:=by kernel_rfl
theorem g96:M96.good=true:=by kernel_rfl
noncomputable def P97:Pre:=⟨Q0,[(.pointer (some ⟨6984,0,some 0⟩)),(.func (.func 183) ⟨[]⟩ ⟨[]⟩),(.func (.func 184) ⟨[]⟩ ⟨[(.pointer (some ⟨6981,0,some 0⟩)),(.pointer (some ⟨8706,0,some 0⟩)),(.pointer (some ⟨6985,0,some 0⟩))]⟩)],List.append (sel M96.fin [6985,6978,6980,6857,6859,6730,6738,6566,6574,6398,6402,549,547,546,545,544,584,548,550,6410,6984]) (List.append (sel M95.fin [6981]) ([(8706,.plain (.cells [(.int .u8 5)] 0 0 false (some 11))),(6983,.plain (.map [((.agg ⟨[(.int .i64 0),(.int .i64 0)]⟩),(.agg ⟨[(.int .i64 0),(.int .i64 1347),(.int .i64 0),(.int .i64 0),(.int .i64 1114),(.int .i64 0),(.int .i64 0),(.int .i64 0)]⟩),0),((.agg ⟨[(.int .i64 0),(.int .i64 1)]⟩),(.agg ⟨[(.int .i64 0),(.int .i64 1347),(.int .i64 0),(.int .i64 0),(.int .i64 1114),(.int .i64 0),(.int .i64 0),(.int .i64 0)]⟩),1),((.agg ⟨[(.int .i64 1),(.int .i64 0)]⟩),(.agg ⟨[(.int .i64 0),(.int .i64 1324),(.int .i64 0),(.int .i64 0),(.int .i64 1278),(.int .i64 0),(.int .i64 0),(.int .i64 0)]⟩),2),((.agg ⟨[(.int .i64 1),(.int .i64 1)]⟩),(.agg ⟨[(.int .i64 0),(.int .i64 1324),(.int .i64 0),(.int .i64 0),(.int .i64 1278),(.int .i64 0),(.int .i64 0),(.int .i64 0)]⟩),3)] 4)),(6982,.plain (.map [((.agg ⟨[(.int .i64 0),(.int .i64 0)]⟩),(.agg ⟨[(.int .i64 0),(.int .i64 1347),(.int .i64 0),(.int .i64 0),(.int .i64 1114),(.int .i64 0),(.int .i64 0),(.int .i64 0)]⟩),0),((.agg ⟨[(.int .i64 0),(.int .i64 1)]⟩),(.agg ⟨[(.int .i64 0),(.int .i64 1347),(.int .i64 0),(.int .i64 0),(.int .i64 1114),(.int .i64 0),(.int .i64 0),(.int .i64 0)]⟩),1),((.agg ⟨[(.int .i64 1),(.int .i64 0)]⟩),(.agg ⟨[(.int .i64 0),(.int .i64 1324),(.int .i64 0),(.int .i64 0),(.int .i64 1278),(.int .i64 0),(.int .i64 0),(.int .i64 0)]⟩),2),((.agg ⟨[(.int .i64 1),(.int .i64 1)]⟩),(.agg ⟨[(.int .i64 0),(.int .i64 1324),(.int .i64 0),(.int .i64 0),(.int .i64 1278),(.int .i64 0),(.int .i64 0),(.int .i64 0)]⟩),3)] 4))])),8707⟩
noncomputable def C97:Cell (runC P97 (P97.run (T0 1000)) [6981,8706,6983,6982,6978,6980,6857,6859,6730,6738,6566,6574,6398,6402,549,547,546,545,544,584,548,550,6410,6984,6985,8707]):=⟨_,by go_invoke; rfl⟩
noncomputable def M97:MemoX:=P97.memo C97.1
theorem n97:Xf C97.1=true:=by kernel_rfl
theorem g97:M97.good=true:=by kernel_rfl
noncomputable def P98:Pre:=⟨Q0,[(.pointer (some ⟨6984,0,some 0⟩)),(.func (.func 187) ⟨[]⟩ ⟨[]⟩),(.func (.func 188) ⟨[]⟩ ⟨[(.pointer (some ⟨6985,0,some 0⟩)),(.pointer (some ⟨8706,0,some 0⟩))]⟩)],List.append (sel M97.fin [8706,6985,6983,6982,6978,6980,6857,6859,6730,6738,6566,6574,6398,6402,549,547,546,545,544,584,548,550,6410,6984]) ([]),8813⟩
noncomputable def C98:Cell (runC P98 (P98.run (T0 1000)) [6983,6982,6978,6980,6857,6859,6730,6738,6566,6574,6398,6402,549,547,546,545,544,584,548,550,6410,6984,6985,8706,8813]):=⟨_,by go_invoke; rfl⟩
noncomputable def M98:MemoX:=P98.memo C98.1
theorem n98:Xf C98.1=true:=by kernel_rfl
theorem g98:M98.good=true:=by kernel_rfl
noncomputable def P99:Pre:=⟨Q0,[(.pointer (some ⟨6984,0,some 0⟩)),(.func (.func 183) ⟨[]⟩ ⟨[]⟩),(.func (.func 184) ⟨[]⟩ ⟨[(.pointer (some ⟨6981,0,some 0⟩)),(.pointer (some ⟨8965,0,some 0⟩)),(.pointer (some ⟨6985,0,some 0⟩))]⟩)],List.append (sel M98.fin [6985,6983,6982,6978,6980,6857,6859,6730,6738,6566,6574,6398,6402,549,547,546,545,544,584,548,550,6410,6984]) (List.append (sel M97.fin [6981]) ([(8965,.plain (.cells [(.int .u8 6)] 0 0 false (some 11)))])),8966⟩
noncomputable def C99:Cell (runC P99 (P99.run (T0 1000)) [6981,8965,6983,6982,6978,6980,6857,6859,6730,6738,6566,6574,6398,6402,549,547,546,545,544,584,548,550,6410,6984,6985,8966]):=⟨_,by go_invoke; rfl⟩
noncomputable def M99:MemoX:=P99.memo C99.1
theorem n99:Xf C99.1=true:=by kernel_rfl
theorem g99:M99.good=true:=by kernel_rfl
noncomputable def P100:Pre:=⟨Q0,[(.pointer (some ⟨6984,0,some 0⟩)),(.func (.func 187) ⟨[]⟩ ⟨[]⟩),(.func (.func 188) ⟨[]⟩ ⟨[(.pointer (some ⟨6985,0,some 0⟩)),(.pointer (some ⟨8965,0,some 0⟩))]⟩)],List.append (sel M99.fin [8965,6985,6983,6982,6978,6980,6857,6859,6730,6738,6566,6574,6398,6402,549,547,546,545,544,584,548,550,6410,6984]) ([]),9268⟩
noncomputable def C100:Cell (runC P100 (P100.run (T0 1000)) [6983,6982,6978,6980,6857,6859,6730,6738,6566,6574,6398,6402,549,547,546,545,544,584,548,550,6410,6984,6985,8965,9268]):=⟨_,by go_invoke; rfl⟩
noncomputable def M100:MemoX:=P100.memo C100.1
theorem n100:Xf C100.1=true:=by kernel_rfl
theorem g100:M100.good=true:=by kernel_rfl
noncomputable def P101:Pre:=⟨Q0,[(.pointer (some ⟨6984,0,some 0⟩)),(.func (.func 183) ⟨[]⟩ ⟨[]⟩),(.func (.func 184) ⟨[]⟩ ⟨[(.pointer (some ⟨6981,0,some 0⟩)),(.pointer (some ⟨9680,0,some 0⟩)),(.pointer (some ⟨6985,0,some 0⟩))]⟩)],List.append (sel M100.fin [6985,6978,6980,6857,6859,6730,6738,6566,6574,6398,6402,549,547,546,545,544,584,548,550,6410,6984]) (List.append (sel M99.fin [6981]) ([(9680,.plain (.cells [(.int .u8 7)] 0 0 false (some 11))),(6983,.plain (.map [((.agg ⟨[(.int .i64 0),(.int .i64 0)]⟩),(.agg ⟨[(.int .i64 0),(.int .i64 1347),(.int .i64 0),(.int .i64 0),(.int .i64 1114),(.int .i64 0),(.int .i64 1602),(.int .i64 0)]⟩),0),((.agg ⟨[(.int .i64 0),(.int .i64 1)]⟩),(.agg ⟨[(.int .i64 0),(.int .i64 1347),(.int .i64 0),(.int .i64 0),(.int .i64 1114),(.int .i64 0),(.int .i64 1602),(.int .i64 0)]⟩),1),((.agg ⟨[(.int .i64 1),(.int .i64 0)]⟩),(.agg ⟨[(.int .i64 0),(.int .i64 1324),(.int .i64 0),(.int .i64 0),(.int .i64 1278),(.int .i64 0),(.int .i64 1293),(.int .i64 0)]⟩),2),((.agg ⟨[(.int .i64 1),(.int .i64 1)]⟩),(.agg ⟨[(.int .i64 0),(.int .i64 1324),(.int .i64 0),(.int .i64 0),(.int .i64 1278),(.int .i64 0),(.int .i64 1293),(.int .i64 0)]⟩),3)] 4)),(6982,.plain (.map [((.agg ⟨[(.int .i64 0),(.int .i64 0)]⟩),(.agg ⟨[(.int .i64 0),(.int .i64 1347),(.int .i64 0),(.int .i64 0),(.int .i64 1114),(.int .i64 0),(.int .i64 1602),(.int .i64 0)]⟩),0),((.agg ⟨[(.int .i64 0),(.int .i64 1)]⟩),(.agg ⟨[(.int .i64 0),(.int .i64 1347),(.int .i64 0),(.int .i64 0),(.int .i64 1114),(.int .i64 0),(.int .i64 1602),(.int .i64 0)]⟩),1),((.agg ⟨[(.int .i64 1),(.int .i64 0)]⟩),(.agg ⟨[(.int .i64 0),(.int .i64 1324),(.int .i64 0),(.int .i64 0),(.int .i64 1278),(.int .i64 0),(.int .i64 1293),(.int .i64 0)]⟩),2),((.agg ⟨[(.int .i64 1),(.int .i64 1)]⟩),(.agg ⟨[(.int .i64 0),(.int .i64 1324),(.int .i64 0),(.int .i64 0),(.int .i64 1278),(.int .i64 0),(.int .i64 1293),(.int .i64 0)]⟩),3)] 4))])),9681⟩
noncomputable def C101:Cell (runC P101 (P101.run (T0 1000)) [6981,9680,6983,6982,6978,6980,6857,6859,6730,6738,6566,6574,6398,6402,549,547,546,545,544,584,548,550,6410,6984,6985,9681]):=⟨_,by go_invoke; rfl⟩
noncomputable def M101:MemoX:=P101.memo C101.1
theorem n101:Xf C101.1=true:=by kernel_rfl
theorem g101:M101.good=true:=by kernel_rfl
noncomputable def P102:Pre:=⟨Q0,[(.pointer (some ⟨6984,0,some 0⟩)),(.func (.func 187) ⟨[]⟩ ⟨[]⟩),(.func (.func 188) ⟨[]⟩ ⟨[(.pointer (some ⟨6985,0,some 0⟩)),(.pointer (some ⟨9680,0,some 0⟩))]⟩)],List.append (sel M101.fin [9680,6985,6983,6982,6978,6980,6857,6859,6730,6738,6566,6574,6398,6402,549,547,546,545,544,584,548,550,6410,6984]) ([]),9787⟩
noncomputable def C102:Cell (runC P102 (P102.run (T0 1000)) [6983,6982,6978,6980,6857,6859,6730,6738,6566,6574,6398,6402,549,547,546,545,544,584,548,550,6410,6984,6985,9680,9787]):=⟨_,by go_invoke; rfl⟩
noncomputable def M102:MemoX:=P102.memo C102.1
theorem n102:Xf C102.1=true:=by kernel_rfl
theorem g102:M102.good=true:=by kernel_rfl
end Go.Ab.Sh
