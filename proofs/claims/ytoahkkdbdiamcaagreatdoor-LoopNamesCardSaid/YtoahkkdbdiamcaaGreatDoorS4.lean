/-
  Functions of the program as plain definitions. No conditions.
-/
import Derived.Test.YtoahkkdbdiamcaaGreatDoorAb5
import Derived.Test.YtoahkkdbdiamcaaGreatDoorZ
import Derived.KernelRfl
import Derived.Test.YtoahkkdbdiamcaaGreatDoorProg
set_option linter.unusedVariables false
set_option maxRecDepth 100000
namespace Go.Ab.Sh
open Go Go.Ab Go.Proofs
noncomputable section
def Qd3 (G:Gt)(p1 p0:V)(m:M):R:=
  bp (G.tab Q4d [p1] m) fun x0 m=>
  bp (pur (bin .eql true true .str x0 (.string ⟨#[104,111,115,116,110,97,109,101]⟩)) m) fun x1 m=>
  brb x1
  (bp (G.tab Q2t [p1] m) fun x2 m=>
  bp (pur (aNilCheck p0) m) fun x3 m=>
  bp (pur (aFieldAddr 0 x3) m) fun x4 m=>
  bp (pur (aFieldAddr 0 x4) m) fun x5 m=>
  bp (unt (aStore 1 x5 x2 m)) fun _ m=>
  bp (G.tab Q6c [p0,(.string ⟨#[104,111,115,116,110,97,109,101]⟩)] m) fun x6 m=>
  some (.tuple ⟨[]⟩,m))
  (bp (pur (bin .eql true true .str x0 (.string ⟨#[118,114,102]⟩)) m) fun x7 m=>
  brb x7
  (bp (G.tab Q2t [p1] m) fun x8 m=>
  bp (pur (bin .add true true .str (.string ⟨#[118,114,102,32]⟩) x8) m) fun x9 m=>
  bp (G.tab Q6c [p0,x9] m) fun x10 m=>
  bp (pur (aNilCheck p0) m) fun x11 m=>
  bp (pur (aFieldAddr 0 x11) m) fun x12 m=>
  bp (pur (aFieldAddr 2 x12) m) fun x13 m=>
  bp (pur (aLoad false 1 x13 m) m) fun x14 m=>
  bp (aBuildSlice Qye [(.string ⟨#[]⟩)] 1 1 [(0,x8)] m) fun x15 m=>
  bp (apS Qye 1 16 x14 x15 m) fun x16 m=>
  bp (pur (aNilCheck p0) m) fun x17 m=>
  bp (pur (aFieldAddr 0 x17) m) fun x18 m=>
  bp (pur (aFieldAddr 2 x18) m) fun x19 m=>
  bp (unt (aStore 1 x19 x16 m)) fun _ m=>
  some (.tuple ⟨[]⟩,m))
  (bp (pur (bin .eql true true .str x0 (.string ⟨#[105,110,116,101,114,102,97,99,101]⟩)) m) fun x20 m=>
  brb x20
  (bp (G.tab Q2t [p1] m) fun x21 m=>
  bp (pur (bin .add true true .str (.string ⟨#[105,110,116,101,114,102,97,99,101,32]⟩) x21) m) fun x22 m=>
  bp (G.tab Q9m [p0,(.string ⟨#[105,110,116,101,114,102,97,99,101]⟩),x22] m) fun x23 m=>
  bp (pur (aNilCheck p0) m) fun x24 m=>
  bp (pur (aFieldAddr 0 x24) m) fun x25 m=>
  bp (pur (aFieldAddr 3 x25) m) fun x26 m=>
  bp (pur (aLoad false 1 x26 m) m) fun x27 m=>
  bp (pur (aBuild Q47 [(0,1),(1,1),(2,1),(3,1),(4,1),(5,1),(6,1),(7,1),(8,1),(9,1),(10,1)] [(0,x21),(8,(.int .i64 (-1))),(9,(.int .i64 10))]) m) fun x28 m=>
  bp (aBuildSlice Q1d Q47 11 1 [(0,x28)] m) fun x29 m=>
  bp (apS Q1d 11 120 x27 x29 m) fun x30 m=>
  bp (pur (aNilCheck p0) m) fun x31 m=>
  bp (pur (aFieldAddr 0 x31) m) fun x32 m=>
  bp (pur (aFieldAddr 3 x32) m) fun x33 m=>
  bp (unt (aStore 1 x33 x30 m)) fun _ m=>
  some (.tuple ⟨[]⟩,m))
  (bp (pur (bin .eql true true .str x0 (.string ⟨#[105,112]⟩)) m) fun x34 m=>
  brb x34
  (bp (G.tab Q1hz [p0,p1] m) fun x35 m=>
  some (.tuple ⟨[]⟩,m))
  (bp (pur (bin .eql true true .str x0 (.string ⟨#[114,111,117,116,101,45,109,97,112]⟩)) m) fun x36 m=>
  brb x36
  (bp (G.tab Q2t [p1] m) fun x37 m=>
  bp (G.tab Q3p [p1,(.string ⟨#[112,101,114,109,105,116]⟩),(.string ⟨#[100,101,110,121]⟩),(.string ⟨#[110,101,120,116]⟩)] m) fun x38 m=>
  bp (G.tab Q9n [p1,(.int .i64 1),(.int .i64 65535)] m) fun x39 m=>
  bp (G.tab Q1c5 [p0,x37,x38,x39] m) fun x40 m=>
  some (.tuple ⟨[]⟩,m))
  (bp (pur (bin .eql true true .str x0 (.string ⟨#[114,111,117,116,101,114]⟩)) m) fun x41 m=>
  brb x41
  (bp (G.tab Q3p [p1,(.string ⟨#[111,115,112,102]⟩),(.string ⟨#[98,103,112]⟩),(.string ⟨#[98,103,112]⟩)] m) fun x42 m=>
  bp (pur (bin .eql true true .str x42 (.string ⟨#[111,115,112,102]⟩)) m) fun x43 m=>
  brb x43
  (bp (G.tab Qyk [p1] m) fun x44 m=>
  bp (pur (bin .add true true .str (.string ⟨#[111,115,112,102,32]⟩) x44) m) fun x45 m=>
  bp (G.tab Q9m [p0,(.string ⟨#[111,115,112,102]⟩),x45] m) fun x46 m=>
  bp (pur (aNilCheck p0) m) fun x47 m=>
  bp (pur (aFieldAddr 0 x47) m) fun x48 m=>
  bp (pur (aFieldAddr 10 x48) m) fun x49 m=>
  bp (pur (aLoad false 1 x49 m) m) fun x50 m=>
  bp (pur (aBuild Q197 [(0,1),(1,1),(2,1)] [(0,x44)]) m) fun x51 m=>
  bp (aBuildSlice Qzq Q197 3 1 [(0,x51)] m) fun x52 m=>
  bp (apS Qzq 3 48 x50 x52 m) fun x53 m=>
  bp (pur (aNilCheck p0) m) fun x54 m=>
  bp (pur (aFieldAddr 0 x54) m) fun x55 m=>
  bp (pur (aFieldAddr 10 x55) m) fun x56 m=>
  bp (unt (aStore 1 x56 x53 m)) fun _ m=>
  some (.tuple ⟨[]⟩,m))
  (bp (G.tab Q9n [p1,(.int .i64 1),(.int .i64 4294967295)] m) fun x57 m=>
  bp (G.tab Qyk [p1] m) fun x58 m=>
  bp (pur (bin .add true true .str (.string ⟨#[98,103,112,32]⟩) x58) m) fun x59 m=>
  bp (G.tab Q9m [p0,(.string ⟨#[98,103,112]⟩),x59] m) fun x60 m=>
  bp (pur (aNilCheck p0) m) fun x61 m=>
  bp (pur (aFieldAddr 0 x61) m) fun x62 m=>
  bp (pur (aFieldAddr 11 x62) m) fun x63 m=>
  bp (pur (aLoad false 1 x63 m) m) fun x64 m=>
  bp (conv (.int .u32) x57 m) fun x65 m=>
  bp (pur (aBuild Q163 [(0,1),(1,1),(2,1),(3,1),(4,1),(5,1)] [(0,x58),(1,x65)]) m) fun x66 m=>
  bp (aBuildSlice Qy0 Q163 6 1 [(0,x66)] m) fun x67 m=>
  bp (apS Qy0 6 96 x64 x67 m) fun x68 m=>
  bp (pur (aNilCheck p0) m) fun x69 m=>
  bp (pur (aFieldAddr 0 x69) m) fun x70 m=>
  bp (pur (aFieldAddr 11 x70) m) fun x71 m=>
  bp (unt (aStore 1 x71 x68 m)) fun _ m=>
  some (.tuple ⟨[]⟩,m)))
  (bp (G.tab Q3o [p1,(.int .i64 130)] m) fun x72 m=>
  some (.tuple ⟨[]⟩,m)))))))
theorem Q17r (G:Gt)(a0 a1:V)(m:M):ef G Tryz.f47 [a0,a1] m = Qd3 G a1 a0 m:=
  evFn_of (r:=fun r m=>Qd3 G (r 1) (r 0) m) rfl rfl (fun r m=>by kernel_rfl) m
def Q17j:En:=⟨Qmb,Tryz.f47,Tryz.func47,by kernel_rfl,arg2 (fun G a0 a1 m=>Qd3 G a1 a0 m),okarg2 Q17r⟩
def Qht (G:Gt)(p0 p1:V)(m:M):R:=
  bp (pur (aNilCheck p0) m) fun x0 m=>
  bp (pur (aFieldAddr 12 x0) m) fun x1 m=>
  bp (pur (aLoad false 1 x1 m) m) fun x2 m=>
  bp (pur (bin .eql true true .str x2 (.string ⟨#[105,110,116,101,114,102,97,99,101]⟩)) m) fun x3 m=>
  brb x3
  (bp (pur (aNilCheck p0) m) fun x4 m=>
  bp (pur (aFieldAddr 0 x4) m) fun x5 m=>
  bp (pur (aFieldAddr 3 x5) m) fun x6 m=>
  bp (pur (aLoad false 1 x6 m) m) fun x7 m=>
  bp (pur (aNilCheck p0) m) fun x8 m=>
  bp (pur (aFieldAddr 0 x8) m) fun x9 m=>
  bp (pur (aFieldAddr 3 x9) m) fun x10 m=>
  bp (pur (aLoad false 1 x10 m) m) fun x11 m=>
  bp (pur (lenK 1 x11 m) m) fun x12 m=>
  bp (pur (bin .sub true true .int x12 (.int .i64 1)) m) fun x13 m=>
  bp (pur (aIndexAddrSl 11 x7 x13) m) fun x14 m=>
  bp (G.tab Qrq [p0,p1,x14] m) fun x15 m=>
  some (.tuple ⟨[]⟩,m))
  (bp (pur (bin .eql true true .str x2 (.string ⟨#[102,105,108,116,101,114]⟩)) m) fun x16 m=>
  brb x16
  (bp (pur (aNilCheck p0) m) fun x17 m=>
  bp (pur (aFieldAddr 0 x17) m) fun x18 m=>
  bp (pur (aFieldAddr 4 x18) m) fun x19 m=>
  bp (pur (aLoad false 1 x19 m) m) fun x20 m=>
  bp (pur (aNilCheck p0) m) fun x21 m=>
  bp (pur (aFieldAddr 0 x21) m) fun x22 m=>
  bp (pur (aFieldAddr 4 x22) m) fun x23 m=>
  bp (pur (aLoad false 1 x23 m) m) fun x24 m=>
  bp (pur (lenK 1 x24 m) m) fun x25 m=>
  bp (pur (bin .sub true true .int x25 (.int .i64 1)) m) fun x26 m=>
  bp (pur (aIndexAddrSl 2 x20 x26) m) fun x27 m=>
  bp (G.tab Q1ez [p0,p1,x27] m) fun x28 m=>
  some (.tuple ⟨[]⟩,m))
  (bp (pur (bin .eql true true .str x2 (.string ⟨#[114,111,117,116,101,45,109,97,112]⟩)) m) fun x29 m=>
  brb x29
  (bp (pur (aNilCheck p0) m) fun x30 m=>
  bp (pur (aFieldAddr 0 x30) m) fun x31 m=>
  bp (pur (aFieldAddr 9 x31) m) fun x32 m=>
  bp (pur (aLoad false 1 x32 m) m) fun x33 m=>
  bp (pur (aNilCheck p0) m) fun x34 m=>
  bp (pur (aFieldAddr 14 x34) m) fun x35 m=>
  bp (pur (aLoad false 1 x35 m) m) fun x36 m=>
  bp (pur (aIndexAddrSl 3 x33 x36) m) fun x37 m=>
  bp (pur (aFieldAddr 1 x37) m) fun x38 m=>
  bp (pur (aLoad false 1 x38 m) m) fun x39 m=>
  bp (pur (lenK 1 x39 m) m) fun x40 m=>
  bp (pur (bin .sub true true .int x40 (.int .i64 1)) m) fun x41 m=>
  bp (pur (aIndexAddrSl 15 x39 x41) m) fun x42 m=>
  bp (G.tab Q1gp [p0,p1,x42] m) fun x43 m=>
  some (.tuple ⟨[]⟩,m))
  (bp (pur (bin .eql true true .str x2 (.string ⟨#[111,115,112,102]⟩)) m) fun x44 m=>
  brb x44
  (bp (pur (aNilCheck p0) m) fun x45 m=>
  bp (pur (aFieldAddr 0 x45) m) fun x46 m=>
  bp (pur (aFieldAddr 10 x46) m) fun x47 m=>
  bp (pur (aLoad false 1 x47 m) m) fun x48 m=>
  bp (pur (aNilCheck p0) m) fun x49 m=>
  bp (pur (aFieldAddr 0 x49) m) fun x50 m=>
  bp (pur (aFieldAddr 10 x50) m) fun x51 m=>
  bp (pur (aLoad false 1 x51 m) m) fun x52 m=>
  bp (pur (lenK 1 x52 m) m) fun x53 m=>
  bp (pur (bin .sub true true .int x53 (.int .i64 1)) m) fun x54 m=>
  bp (pur (aIndexAddrSl 3 x48 x54) m) fun x55 m=>
  bp (G.tab Q3p [p1,(.string ⟨#[114,111,117,116,101,114,45,105,100]⟩),(.string ⟨#[114,101,100,105,115,116,114,105,98,117,116,101]⟩),(.string ⟨#[114,101,100,105,115,116,114,105,98,117,116,101]⟩)] m) fun x56 m=>
  bp (pur (bin .eql true true .str x56 (.string ⟨#[114,111,117,116,101,114,45,105,100]⟩)) m) fun x57 m=>
  brb x57
  (bp (G.tab Q8y [p1] m) fun x58 m=>
  bp (pur (aNilCheck x55) m) fun x59 m=>
  bp (pur (aFieldAddr 1 x59) m) fun x60 m=>
  bp (unt (aStore 1 x60 x58 m)) fun _ m=>
  bp (G.tab Qfa [p0,(.string ⟨#[114,111,117,116,101,114,45,105,100]⟩)] m) fun x61 m=>
  some (.tuple ⟨[]⟩,m))
  (bp (pur (aNilCheck x55) m) fun x62 m=>
  bp (pur (aFieldAddr 2 x62) m) fun x63 m=>
  bp (pur (aLoad false 1 x63 m) m) fun x64 m=>
  bp (G.tab Q1dl [p1,(.string ⟨#[98,103,112]⟩),(.int .u8 8)] m) fun x65 m=>
  ckB (again (pur (aLoad false 1 x63 m) m) x64 && true)
  (bp (aBuildSlice Q1tb Q22v 4 1 [(0,x65)] m) fun x66 m=>
  bp (apS Q1tb 4 40 x64 x66 m) fun x67 m=>
  bp (pur (aNilCheck x55) m) fun x68 m=>
  bp (pur (aFieldAddr 2 x68) m) fun x69 m=>
  bp (unt (aStore 1 x69 x67 m)) fun _ m=>
  some (.tuple ⟨[]⟩,m))))
  (bp (pur (bin .eql true true .str x2 (.string ⟨#[98,103,112]⟩)) m) fun x70 m=>
  brb x70
  (bp (pur (aNilCheck p0) m) fun x71 m=>
  bp (pur (aFieldAddr 0 x71) m) fun x72 m=>
  bp (pur (aFieldAddr 11 x72) m) fun x73 m=>
  bp (pur (aLoad false 1 x73 m) m) fun x74 m=>
  bp (pur (aNilCheck p0) m) fun x75 m=>
  bp (pur (aFieldAddr 0 x75) m) fun x76 m=>
  bp (pur (aFieldAddr 11 x76) m) fun x77 m=>
  bp (pur (aLoad false 1 x77 m) m) fun x78 m=>
  bp (pur (lenK 1 x78 m) m) fun x79 m=>
  bp (pur (bin .sub true true .int x79 (.int .i64 1)) m) fun x80 m=>
  bp (pur (aIndexAddrSl 6 x74 x80) m) fun x81 m=>
  bp (G.tab Q1gq [p0,p1,x81] m) fun x82 m=>
  some (.tuple ⟨[]⟩,m))
  (some (.tuple ⟨[]⟩,m))))))
theorem Q1dw (G:Gt)(a0 a1:V)(m:M):ef G Tryz.f48 [a0,a1] m = Qht G a0 a1 m:=
  evFn_of (r:=fun r m=>Qht G (r 0) (r 1) m) rfl rfl (fun r m=>by kernel_rfl) m
def Q1d3:En:=⟨Qrx,Tryz.f48,Tryz.func48,by kernel_rfl,arg2 Qht,okarg2 Q1dw⟩
def Qhu (G:Gt)(p2:V)(m:M):R:=
  some (p2,m)
def Qrz (G:Gt)(p0:V)(m:M):R:=
  bp (pur (aNilCheck p0) m) fun x0 m=>
  bp (pur (aFieldAddr 4 x0) m) fun x1 m=>
  bp (pur (aLoad false 1 x1 m) m) fun x2 m=>
  bp (pur (bin .eql true true .int x2 (.int .i64 0)) m) fun x3 m=>
  brt x3
  (bp (pur (aNilCheck p0) m) fun x4 m=>
  bp (pur (aFieldAddr 1 x4) m) fun x5 m=>
  bp (pur (aLoad false 1 x5 m) m) fun x6 m=>
  bp (pur (aNilCheck p0) m) fun x7 m=>
  bp (pur (aFieldAddr 0 x7) m) fun x8 m=>
  bp (pur (aLoad false 1 x8 m) m) fun x9 m=>
  bp (pur (lenK 1 x9 m) m) fun x10 m=>
  bp (pur (bin .lss false true .int x6 x10) m) fun x11 m=>
  Qhu G x11 m)
  (Qhu G (.bool false) m)
  (none)
def Qjv (G:Gt)(p0:V)(m:M):R:=
  Qrz G p0 m
theorem Q1h2 (G:Gt)(a0:V)(m:M):ef G Tryz.f49 [a0] m = Qjv G a0 m:=
  evFn_of (r:=fun r m=>Qjv G (r 0) m) rfl rfl (tr (seqQ (f:=fun r m=>Qrz G (r 0) m) (tr (seqQ (f:=fun r m=>Qhu G (r 2) m) (fun r m=>by kernel_rfl)) (fun r m=>by kernel_rfl))) (fun r m=>by kernel_rfl)) m
def Q1ge:En:=⟨Qwu,Tryz.f49,Tryz.func49,by kernel_rfl,arg1 Qjv,okarg1 Q1h2⟩
def Qjw (G:Gt)(p0:V)(m:M):R:=
  bp (pur (aNilCheck p0) m) fun x0 m=>
  bp (pur (aFieldAddr 4 x0) m) fun x1 m=>
  bp (pur (aLoad false 1 x1 m) m) fun x2 m=>
  bp (pur (bin .neq true true .int x2 (.int .i64 0)) m) fun x3 m=>
  brb x3
  (some ((.string ⟨#[]⟩),m))
  (bp (pur (aNilCheck p0) m) fun x4 m=>
  bp (pur (aFieldAddr 1 x4) m) fun x5 m=>
  bp (pur (aLoad false 1 x5 m) m) fun x6 m=>
  bp (pur (aNilCheck p0) m) fun x7 m=>
  bp (pur (aFieldAddr 0 x7) m) fun x8 m=>
  bp (pur (aLoad false 1 x8 m) m) fun x9 m=>
  bp (pur (lenK 1 x9 m) m) fun x10 m=>
  bp (pur (bin .eql false true .int x6 x10) m) fun x11 m=>
  brb x11
  (bp (pur (aNilCheck p0) m) fun x12 m=>
  bp (pur (aFieldAddr 0 x12) m) fun x13 m=>
  bp (pur (aLoad false 1 x13 m) m) fun x14 m=>
  bp (pur (aNilCheck p0) m) fun x15 m=>
  bp (pur (aFieldAddr 0 x15) m) fun x16 m=>
  bp (pur (aLoad false 1 x16 m) m) fun x17 m=>
  bp (pur (lenK 1 x17 m) m) fun x18 m=>
  bp (pur (bin .sub true true .int x18 (.int .i64 1)) m) fun x19 m=>
  bp (pur (aIndexAddrSl 3 x14 x19) m) fun x20 m=>
  bp (pur (aLoad true 3 x20 m) m) fun x21 m=>
  bp (some (aNew Qva Qv9 m)) fun x22 m=>
  bp (unt (aStore 3 x22 x21 m)) fun _ m=>
  bp (pur (aNilCheck p0) m) fun x23 m=>
  bp (pur (aFieldAddr 4 x23) m) fun x24 m=>
  bp (unt (aStore 1 x24 (.int .i64 130) m)) fun _ m=>
  bp (pur (aFieldAddr 1 x22) m) fun x25 m=>
  bp (pur (aFieldAddr 0 x25) m) fun x26 m=>
  bp (pur (aLoad false 1 x26 m) m) fun x27 m=>
  bp (pur (aFieldAddr 1 x22) m) fun x28 m=>
  bp (pur (aFieldAddr 1 x28) m) fun x29 m=>
  bp (pur (aLoad false 1 x29 m) m) fun x30 m=>
  bp (pur (aFieldAddr 0 x22) m) fun x31 m=>
  bp (pur (aLoad false 1 x31 m) m) fun x32 m=>
  bp (pur (lenK 0 x32 m) m) fun x33 m=>
  bp (pur (bin .add false true .int x30 x33) m) fun x34 m=>
  bp (pur (aBuild Q87 [(0,1),(1,1)] [(0,x27),(1,x34)]) m) fun x35 m=>
  bp (pur (aNilCheck p0) m) fun x36 m=>
  bp (pur (aFieldAddr 2 x36) m) fun x37 m=>
  bp (unt (aStore 2 x37 x35 m)) fun _ m=>
  some ((.string ⟨#[]⟩),m))
  (bp (pur (aNilCheck p0) m) fun x38 m=>
  bp (pur (aFieldAddr 1 x38) m) fun x39 m=>
  bp (pur (aLoad false 1 x39 m) m) fun x40 m=>
  bp (pur (bin .add true true .int x40 (.int .i64 1)) m) fun x41 m=>
  bp (pur (aNilCheck p0) m) fun x42 m=>
  bp (pur (aFieldAddr 1 x42) m) fun x43 m=>
  bp (unt (aStore 1 x43 x41 m)) fun _ m=>
  bp (pur (aNilCheck p0) m) fun x44 m=>
  bp (pur (aFieldAddr 0 x44) m) fun x45 m=>
  bp (pur (aLoad false 1 x45 m) m) fun x46 m=>
  bp (pur (aNilCheck p0) m) fun x47 m=>
  bp (pur (aFieldAddr 1 x47) m) fun x48 m=>
  bp (pur (aLoad false 1 x48 m) m) fun x49 m=>
  bp (pur (bin .sub true true .int x49 (.int .i64 1)) m) fun x50 m=>
  bp (pur (aIndexAddrSl 3 x46 x50) m) fun x51 m=>
  bp (pur (aFieldAddr 0 x51) m) fun x52 m=>
  bp (pur (aLoad false 1 x52 m) m) fun x53 m=>
  some (x53,m)))
theorem Q1h3 (G:Gt)(a0:V)(m:M):ef G Tryz.f50 [a0] m = Qjw G a0 m:=
  evFn_of (r:=fun r m=>Qjw G (r 0) m) rfl rfl (fun r m=>by kernel_rfl) m
def Q1gf:En:=⟨Q4d,Tryz.f50,Tryz.func50,by kernel_rfl,arg1 Qjw,okarg1 Q1h3⟩
def Q13t (G:Gt)(p20 p0 p1:V)(m:M):R:=
  brb p20
  (some (.tuple ⟨[(.pointer none),(.int .i64 1)]⟩,m))
  (bp (pur (aBuild Qdv [(0,1),(1,1),(2,1)] [(0,(.int .i32 256))]) m) fun x0 m=>
  bp (pur (aBuild Qdv [(0,1),(1,1),(2,1)] [(0,(.int .i32 256))]) m) fun x1 m=>
  bp (aBuildSlice Q1b Qdv 3 2 [(0,x0),(1,x1)] m) fun x2 m=>
  bp (some (aMakeMap m)) fun x3 m=>
  bp (some (aMakeMap m)) fun x4 m=>
  bp (some (aMakeMap m)) fun x5 m=>
  bp (unt (aMapUpdate .int x5 (.int .i64 0) (.bool true) m)) fun _ m=>
  bp (unt (aMapUpdate .int x5 (.int .i64 1) (.bool true) m)) fun _ m=>
  bp (some (aMakeMap m)) fun x6 m=>
  bp (pur (aBuild Q249 [(0,1),(1,1),(2,1),(3,1),(4,1),(5,1),(6,1)] [(0,p0),(1,p1),(2,x2),(3,x3),(4,x4),(5,x5),(6,x6)]) m) fun x7 m=>
  bp (some (aNew Q242 (Value.cells x7).toList m)) fun x8 m=>
  some (.tuple ⟨[x8,(.int .i64 0)]⟩,m))
def Q1vl (G:Gt)(p0 p1:V)(m:M):R:=
  bp (pur (bin .lss true true .int p0 (.int .i64 0)) m) fun x9 m=>
  brb x9
  (Q13t G (.bool true) p0 p1 m)
  (bp (pur (bin .gtr true true .int p0 (.int .i64 256)) m) fun x10 m=>
  brb x10
  (Q13t G (.bool true) p0 p1 m)
  (bp (pur (bin .lss true true .int p1 (.int .i64 0)) m) fun x11 m=>
  brb x11
  (Q13t G (.bool true) p0 p1 m)
  (bp (pur (bin .gtr true true .int p1 (.int .i64 4194304)) m) fun x12 m=>
  Q13t G x12 p0 p1 m)))
def Q1tn (G:Gt)(p0 p1:V)(m:M):R:=
  Q1vl G p0 p1 m
theorem Q26s (G:Gt)(a0 a1:V)(m:M):ef G Tryz.f53 [a0,a1] m = Q1tn G a0 a1 m:=
  evFn_of (r:=fun r m=>Q1tn G (r 0) (r 1) m) rfl rfl (tr (seqQ (f:=fun r m=>Q1vl G (r 0) (r 1) m) (tr (tr seqD (seqQ (f:=fun r m=>Q13t G (r 20) (r 0) (r 1) m) (fun r m=>by kernel_rfl))) (fun r m=>by kernel_rfl))) (fun r m=>by kernel_rfl)) m
def Q26a:En:=⟨Q1zr,Tryz.f53,Tryz.func53,by kernel_rfl,arg2 Q1tn,okarg2 Q26s⟩
def Q15r (G:Gt)(p0:V)(m:M):R:=
  bp (pur (binP m .eql true true .ptr p0 (.pointer none)) m) fun x0 m=>
  brb x0
  (some ((.pointer none),m))
  (bp (pur (aNilCheck p0) m) fun x1 m=>
  bp (pur (aFieldAddr 0 x1) m) fun x2 m=>
  bp (pur (aLoad false 1 x2 m) m) fun x3 m=>
  some (x3,m))
theorem Q1wu (G:Gt)(a0:V)(m:M):ef G Tryz.f54 [a0] m = Q15r G a0 m:=
  evFn_of (r:=fun r m=>Q15r G (r 0) m) rfl rfl (fun r m=>by kernel_rfl) m
def Q1w0:En:=⟨Q15g,Tryz.f54,Tryz.func54,by kernel_rfl,arg1 Q15r,okarg1 Q1wu⟩
def Qlw (G:Gt)(p1:V)(m:M):R:=
  some (p1,m)
def Qz9 (G:Gt)(p0 p2 p1:V)(m:M):R:=
  bp (pur (aNilCheck p0) m) fun x0 m=>
  bp (pur (aFieldAddr 4 x0) m) fun x1 m=>
  bp (pur (aLoad false 1 x1 m) m) fun x2 m=>
  bp (pur (bin .eql true true .int x2 (.int .i64 0)) m) fun x3 m=>
  brb x3
  (bp (pur (aNilCheck p0) m) fun x4 m=>
  bp (pur (aFieldAddr 4 x4) m) fun x5 m=>
  bp (unt (aStore 1 x5 p2 m)) fun _ m=>
  Qlw G p1 m)
  (Qlw G p1 m)
def Qok (G:Gt)(p0 p2 p1:V)(m:M):R:=
  Qz9 G p0 p2 p1 m
theorem Q1l3 (G:Gt)(a0 a1 a2:V)(m:M):ef G Tryz.f55 [a0,a1,a2] m = Qok G a0 a2 a1 m:=
  evFn_of (r:=fun r m=>Qok G (r 0) (r 2) (r 1) m) rfl rfl (tr (seqQ (f:=fun r m=>Qz9 G (r 0) (r 2) (r 1) m) (tr (seqQ (f:=fun r m=>Qlw G (r 1) m) (fun r m=>by kernel_rfl)) (fun r m=>by kernel_rfl))) (fun r m=>by kernel_rfl)) m
def Q1kb:En:=⟨Qb,Tryz.f55,Tryz.func55,by kernel_rfl,arg3 (fun G a0 a1 a2 m=>Qok G a0 a2 a1 m),okarg3 Q1l3⟩
def Q122 (G:Gt)(p0:V)(m:M):R:=
  bp (pur (binP m .eql true true .ptr p0 (.pointer none)) m) fun x0 m=>
  brb x0
  (some (.tuple ⟨[(.int .i64 0),(.int .i64 2)]⟩,m))
  (bp (pur (aBuild Qsn [(0,1),(1,1)] []) m) fun x1 m=>
  bp (G.tab Q1fw [p0,x1] m) fun x2 m=>
  bp (pur (aExtract x2 0) m) fun x3 m=>
  bp (pur (aExtract x2 1) m) fun x4 m=>
  some (.tuple ⟨[x3,x4]⟩,m))
theorem Q1v8 (G:Gt)(a0:V)(m:M):ef G Tryz.f56 [a0] m = Q122 G a0 m:=
  evFn_of (r:=fun r m=>Q122 G (r 0) m) rfl rfl (fun r m=>by kernel_rfl) m
def Q1u8:En:=⟨Q1fv,Tryz.f56,Tryz.func56,by kernel_rfl,arg1 Q122,okarg1 Q1v8⟩
end
end Go.Ab.Sh

set_option linter.unusedVariables false
set_option maxRecDepth 100000
namespace Go.Ab.Sh
open Go Go.Ab Go.Proofs
noncomputable section
def Q19k (G:Gt)(p3:V)(m:M):R:=
  some (p3,m)
def Q19l (G:Gt)(k0:V → V → V → V → M → R)(p15 p14 p13 p3:V)(m:M):R:=
  bp (pur (bin .add true true .int p15 (.int .i64 1)) m) fun x0 m=>
  k0 x0 p14 p13 p3 m
def Qqf (G:Gt)(k1:V → V → V → V → V → V → V → V → M → R)(p23 p22 p21 p3 p4 p15 p14 p13:V)(m:M):R:=
  bp (pur (bin .add true true .int p23 (.int .i64 1)) m) fun x1 m=>
  k1 x1 p22 p21 p3 p4 p15 p14 p13 m
def Q17g (G:Gt)(k1:V → V → V → V → V → V → V → V → M → R)(p23 p21 p3 p4 p22 p15 p14 p13:V)(m:M):R:=
  bp (pur (aIndexAddrSl 11 p21 p23) m) fun x2 m=>
  bp (pur (aLoad true 11 x2 m) m) fun x3 m=>
  bp (some (aNew Q1d Q47 m)) fun x4 m=>
  bp (unt (aStore 11 x4 x3 m)) fun _ m=>
  bp (pur (aLoad true 11 x4 m) m) fun x5 m=>
  bp (G.tab Ql6 [x5] m) fun x6 m=>
  brb x6
  (bp (pur (aBuild Qo [(0,1),(1,1)] [(0,p4),(1,p23)]) m) fun x7 m=>
  bp (aBuildSlice Q7 Qo 2 1 [(0,x7)] m) fun x8 m=>
  bp (apS Q7 2 16 p3 x8 m) fun x9 m=>
  Qqf G k1 p23 p22 p21 x9 p4 p15 p14 p13 m)
  (Qqf G k1 p23 p22 p21 p3 p4 p15 p14 p13 m)
def Q17h (G:Gt)(k1:V → V → V → V → V → V → V → V → M → R)(k0:V → V → V → V → M → R)(p24 p23 p21 p3 p4 p22 p15 p14 p13:V)(m:M):R:=
  brb p24
  (Q17g G k1 p23 p21 p3 p4 p22 p15 p14 p13 m)
  (Q19l G k0 p15 p14 p13 p3 m)
def Q7h (G:Gt)(k0:V → V → V → V → M → R):Nat → V → V → V → V → V → V → V → V → M → R
 | 0,_,_,_,_,_,_,_,_,_=>none
 | i + 1,p23,p22,p21,p3,p4,p15,p14,p13,m=>
  bp (pur (bin .lss false true .int p23 p22) m) fun x10 m=>
  Q17h G (Q7h G k0 i) k0 x10 p23 p21 p3 p4 p22 p15 p14 p13 m
def Q17i (G:Gt)(k0:V → V → V → V → M → R)(p23 p22 p21 p3 p4 p15 p14 p13:V)(m:M):R:=
  Q7h G k0 G.rds p23 p22 p21 p3 p4 p15 p14 p13 m
def Q19m (G:Gt)(k0:V → V → V → V → M → R)(p5 p3 p4 p15 p14 p13:V)(m:M):R:=
  bp (pur (aFieldAddr 3 p5) m) fun x11 m=>
  bp (pur (aLoad false 1 x11 m) m) fun x12 m=>
  bp (pur (lenK 1 x12 m) m) fun x13 m=>
  Q17i G k0 (.int .i64 0) x13 x12 p3 p4 p15 p14 p13 m
def Q19n (G:Gt)(k0:V → V → V → V → M → R)(p15 p13 p3 p14:V)(m:M):R:=
  bp (pur (aIndexAddrSl 12 p13 p15) m) fun x14 m=>
  bp (pur (aLoad true 12 x14 m) m) fun x15 m=>
  bp (some (aNew Qx Q1e m)) fun x16 m=>
  bp (unt (aStore 12 x16 x15 m)) fun _ m=>
  Q19m G k0 x16 p3 p15 p15 p14 p13 m
def Q19o (G:Gt)(k0:V → V → V → V → M → R)(p16 p15 p13 p3 p14:V)(m:M):R:=
  brb p16
  (Q19n G k0 p15 p13 p3 p14 m)
  (Q19k G p3 m)
def Q1j (G:Gt):Nat → V → V → V → V → M → R
 | 0,_,_,_,_,_=>none
 | i + 1,p15,p14,p13,p3,m=>
  bp (pur (bin .lss false true .int p15 p14) m) fun x17 m=>
  Q19o G (Q1j G i) x17 p15 p13 p3 p14 m
def Q19p (G:Gt)(p15 p14 p13 p3:V)(m:M):R:=
  Q1j G G.rds p15 p14 p13 p3 m
def Q19q (G:Gt)(p0 p3:V)(m:M):R:=
  bp (pur (aNilCheck p0) m) fun x18 m=>
  bp (pur (aFieldAddr 1 x18) m) fun x19 m=>
  bp (pur (aLoad false 1 x19 m) m) fun x20 m=>
  bp (pur (lenK 1 x20 m) m) fun x21 m=>
  Q19p G (.int .i64 0) x21 x20 p3 m
def Q19r (G:Gt)(p0:V)(m:M):R:=
  Q19q G p0 (.slice none 0 0) m
def Q19s (G:Gt)(p0:V)(m:M):R:=
  bp (pur (binP m .eql true true .ptr p0 (.pointer none)) m) fun x22 m=>
  brb x22
  (some ((.slice none 0 0),m))
  (Q19r G p0 m)
def Qza (G:Gt)(p0:V)(m:M):R:=
  Q19s G p0 m
theorem Q1to (G:Gt)(a0:V)(m:M):ef G Tryz.f57 [a0] m = Qza G a0 m:=
  evFn_of (r:=fun r m=>Qza G (r 0) m) rfl rfl (tr (seqQ (f:=fun r m=>Q19s G (r 0) m) (tr (seqQ (f:=fun r m=>Q19r G (r 0) m) (tr (seqQ (f:=fun r m=>Q19q G (r 0) (r 3) m) (tr (tr (seqQ (f:=fun r m=>Q19k G (r 3) m) (fun r m=>by kernel_rfl)) (seqQ (f:=fun r m=>Q19p G (r 15) (r 14) (r 13) (r 3) m) (tr (blockQ (loopQ (fun i r m=>Q1j G i (r 15) (r 14) (r 13) (r 3) m) (fun _ _=>rfl) (fun i0=>tr (seqQ (f:=fun r m=>Q19o G (Q1j G i0) (r 16) (r 15) (r 13) (r 3) (r 14) m) (tr (seqQ (f:=fun r m=>Q19n G (Q1j G i0) (r 15) (r 13) (r 3) (r 14) m) (tr (tr (seqQ (f:=fun r m=>Q19l G (Q1j G i0) (r 15) (r 14) (r 13) (r 3) m) (fun r m=>by kernel_rfl)) (blockQ (seqQ (f:=fun r m=>Q19m G (Q1j G i0) (r 5) (r 3) (r 4) (r 15) (r 14) (r 13) m) (tr (seqQ (f:=fun r m=>Q17i G (Q1j G i0) (r 23) (r 22) (r 21) (r 3) (r 4) (r 15) (r 14) (r 13) m) (tr (blockQ (loopQ (fun i r m=>Q7h G (Q1j G i0) i (r 23) (r 22) (r 21) (r 3) (r 4) (r 15) (r 14) (r 13) m) (fun _ _=>rfl) (fun i1=>tr (seqQ (f:=fun r m=>Q17h G (Q7h G (Q1j G i0) i1) (Q1j G i0) (r 24) (r 23) (r 21) (r 3) (r 4) (r 22) (r 15) (r 14) (r 13) m) (tr (seqQ (f:=fun r m=>Q17g G (Q7h G (Q1j G i0) i1) (r 23) (r 21) (r 3) (r 4) (r 22) (r 15) (r 14) (r 13) m) (tr (seqQ (f:=fun r m=>Qqf G (Q7h G (Q1j G i0) i1) (r 23) (r 22) (r 21) (r 3) (r 4) (r 15) (r 14) (r 13) m) (fun r m=>by kernel_rfl)) (fun r m=>by kernel_rfl))) (fun r m=>by kernel_rfl))) (fun r m=>by kernel_rfl)))) (fun r m=>by kernel_rfl))) (fun r m=>by kernel_rfl))))) (fun r m=>by kernel_rfl))) (fun r m=>by kernel_rfl))) (fun r m=>by kernel_rfl)))) (fun r m=>by kernel_rfl)))) (fun r m=>by kernel_rfl))) (fun r m=>by kernel_rfl))) (fun r m=>by kernel_rfl))) (fun r m=>by kernel_rfl)) m
def Q1rm:En:=⟨Q1dk,Tryz.f57,Tryz.func57,by kernel_rfl,arg1 Qza,okarg1 Q1to⟩
end
end Go.Ab.Sh
