/-
  Functions of the program as plain definitions. No conditions.
-/
import Derived.Test.YtoahkkdbdiamcaaGreatDoorAb5
import Derived.Test.YtoahkkdbdiamcaaGreatDoorZ
import Derived.KernelRfl
import Derived.Test.YtoahkkdbdiamcaaGreatDoorProg
set_option linter.unusedVariables false
set_option maxRecDepth 100000
namespace Go.Ab.Sh
open Go Go.Ab Go.Proofs
noncomputable section
def Qvq (G:Gt)(p2:V)(m:M):R:=
  some (p2,m)
def Q1bc (G:Gt)(p1:V)(m:M):R:=
  bp (pur (aFieldAddr 2 p1) m) fun x0 m=>
  bp (pur (aLoad false 1 x0 m) m) fun x1 m=>
  bp (pur (bin .neq true true .int x1 (.int .u32 0)) m) fun x2 m=>
  brb x2
  (Qvq G (.bool true) m)
  (bp (pur (aFieldAddr 3 p1) m) fun x3 m=>
  bp (pur (aLoad false 1 x3 m) m) fun x4 m=>
  bp (pur (bin .neq true true .int x4 (.int .i64 0)) m) fun x5 m=>
  Qvq G x5 m)
def Q11z (G:Gt)(p0:V)(m:M):R:=
  bp (some (aNew Q1d (Value.cells p0).toList m)) fun x6 m=>
  Q1bc G x6 m
theorem Q1v5 (G:Gt)(a0:V)(m:M):ef G Tryz.f135 [a0] m = Q11z G a0 m:=
  evFn_of (r:=fun r m=>Q11z G (r 0) m) rfl rfl (tr (seqQ (f:=fun r m=>Q1bc G (r 1) m) (tr (seqQ (f:=fun r m=>Qvq G (r 2) m) (fun r m=>by kernel_rfl)) (fun r m=>by kernel_rfl))) (fun r m=>by kernel_rfl)) m
def Q1u3:En:=⟨Q1fe,Tryz.f135,Tryz.func135,by kernel_rfl,arg1 Q11z,okarg1 Q1v5⟩
def Q1id (G:Gt)(p0:V)(m:M):R:=
  bp (some (aNew Qx (Value.cells p0).toList m)) fun x0 m=>
  bp (some (aNew Qx Q1e m)) fun x1 m=>
  bp (pur (aFieldAddr 2 x0) m) fun x2 m=>
  bp (pur (aLoad false 1 x2 m) m) fun x3 m=>
  bp (pur (aFieldAddr 3 x0) m) fun x4 m=>
  bp (pur (aLoad false 1 x4 m) m) fun x5 m=>
  bp (pur (aFieldAddr 5 x0) m) fun x6 m=>
  bp (pur (aLoad false 1 x6 m) m) fun x7 m=>
  bp (pur (aFieldAddr 6 x0) m) fun x8 m=>
  bp (pur (aLoad false 1 x8 m) m) fun x9 m=>
  bp (G.tab Qmc [x3] m) fun x10 m=>
  ckB (again (pur (aLoad false 1 x4 m) m) x5 && (again (pur (aLoad false 1 x6 m) m) x7 && (again (pur (aLoad false 1 x8 m) m) x9 && true)))
  (bp (pur (aFieldAddr 2 x0) m) fun x11 m=>
  bp (G.tab Qfz [x5] m) fun x12 m=>
  ckB (again (pur (aLoad false 1 x6 m) m) x7 && (again (pur (aLoad false 1 x8 m) m) x9 && true))
  (bp (G.tab Qd9 [x7] m) fun x13 m=>
  ckB (again (pur (aLoad false 1 x8 m) m) x9 && true)
  (bp (G.tab Qer [x9] m) fun x14 m=>
  bp (unt (aStore 1 x11 x10 m)) fun _ m=>
  bp (pur (aFieldAddr 3 x0) m) fun x15 m=>
  bp (unt (aStore 1 x15 x12 m)) fun _ m=>
  bp (pur (aFieldAddr 5 x0) m) fun x16 m=>
  bp (unt (aStore 1 x16 x13 m)) fun _ m=>
  bp (pur (aFieldAddr 6 x0) m) fun x17 m=>
  bp (unt (aStore 1 x17 x14 m)) fun _ m=>
  bp (pur (aFieldAddr 4 x0) m) fun x18 m=>
  bp (pur (aLoad false 1 x18 m) m) fun x19 m=>
  bp (G.tab Qym [x19,(.func (.func Q1z6) #[] #[])] m) fun x20 m=>
  bp (pur (aFieldAddr 4 x0) m) fun x21 m=>
  bp (unt (aStore 1 x21 x20 m)) fun _ m=>
  bp (pur (aFieldAddr 7 x0) m) fun x22 m=>
  bp (pur (aLoad false 1 x22 m) m) fun x23 m=>
  bp (G.tab Qq4 [x23,(.func (.func Q1z7) #[] #[])] m) fun x24 m=>
  bp (pur (aFieldAddr 7 x0) m) fun x25 m=>
  bp (unt (aStore 1 x25 x24 m)) fun _ m=>
  bp (pur (aFieldAddr 8 x0) m) fun x26 m=>
  bp (pur (aLoad false 1 x26 m) m) fun x27 m=>
  bp (G.tab Qmd [x27,(.func (.func Q1z8) #[] #[])] m) fun x28 m=>
  bp (pur (aFieldAddr 8 x0) m) fun x29 m=>
  bp (unt (aStore 1 x29 x28 m)) fun _ m=>
  bp (pur (aFieldAddr 9 x0) m) fun x30 m=>
  bp (pur (aLoad false 1 x30 m) m) fun x31 m=>
  bp (G.tab Qyn [x31,(.func (.func Q1z9) #[] #[])] m) fun x32 m=>
  bp (pur (aFieldAddr 9 x0) m) fun x33 m=>
  bp (unt (aStore 1 x33 x32 m)) fun _ m=>
  bp (pur (aFieldAddr 10 x0) m) fun x34 m=>
  bp (pur (aLoad false 1 x34 m) m) fun x35 m=>
  bp (G.tab Q13n [x35,(.func (.func Q1za) #[] #[])] m) fun x36 m=>
  bp (pur (aFieldAddr 10 x0) m) fun x37 m=>
  bp (unt (aStore 1 x37 x36 m)) fun _ m=>
  bp (pur (aFieldAddr 11 x0) m) fun x38 m=>
  bp (pur (aLoad false 1 x38 m) m) fun x39 m=>
  bp (G.tab Q16z [x39,(.func (.func Q1zb) #[] #[])] m) fun x40 m=>
  bp (pur (aFieldAddr 11 x0) m) fun x41 m=>
  bp (unt (aStore 1 x41 x40 m)) fun _ m=>
  bp (pur (aLoad true 12 x0 m) m) fun x42 m=>
  bp (unt (aStore 12 x1 x42 m)) fun _ m=>
  ob (ob (aLoad true 12 x1 m) fun v=>ob (some []) fun l=>some (v :: l)) fun l=>some (resVal l,m))))
theorem Q22z (G:Gt)(a0:V)(m:M):ef G Tryz.f136 [a0] m = Q1id G a0 m:=
  evFn_of (r:=fun r m=>Q1id G (r 0) m) rfl rfl (fun r m=>by kernel_rfl) m
def Q223:En:=⟨Q1sa,Tryz.f136,Tryz.func136,by kernel_rfl,arg1 Q1id,okarg1 Q22z⟩
def Qe6 (G:Gt)(p0:V)(m:M):R:=
  bp (pur (lenK 1 p0 m) m) fun x0 m=>
  bp (conv (.int .u64) x0 m) fun x1 m=>
  bp (G.tab Q6u [x1] m) fun x2 m=>
  bp (G.tab Q6j [p0,(.int .i64 0),x0,x2] m) fun x3 m=>
  some (.tuple ⟨[]⟩,m)
theorem Q19d (G:Gt)(a0:V)(m:M):ef G Tryz.f137 [a0] m = Qe6 G a0 m:=
  evFn_of (r:=fun r m=>Qe6 G (r 0) m) rfl rfl (fun r m=>by kernel_rfl) m
def Q17u:En:=⟨Qni,Tryz.f137,Tryz.func137,by kernel_rfl,arg1 Qe6,okarg1 Q19d⟩
def Qju (G:Gt)(p1 p0:V)(m:M):R:=
  bp (some (aNew Q126 (Value.cells p1).toList m)) fun x0 m=>
  bp (G.tab Q94 [p0,(.func (.func Qry) ⟨[]⟩ ⟨[x0]⟩)] m) fun x1 m=>
  some (.tuple ⟨[]⟩,m)
theorem Q1h1 (G:Gt)(a0 a1:V)(m:M):ef G Tryz.f138 [a0,a1] m = Qju G a1 a0 m:=
  evFn_of (r:=fun r m=>Qju G (r 1) (r 0) m) rfl rfl (fun r m=>by kernel_rfl) m
def Q1gg:En:=⟨Qws,Tryz.f138,Tryz.func138,by kernel_rfl,arg2 (fun G a0 a1 m=>Qju G a1 a0 m),okarg2 Q1h1⟩
def Q19e (G:Gt)(p0:V)(m:M):R:=
  bp (some (aNew Q1d (Value.cells p0).toList m)) fun x0 m=>
  bp (pur (aFieldAddr 0 x0) m) fun x1 m=>
  bp (pur (aLoad false 1 x1 m) m) fun x2 m=>
  some (x2,m)
theorem Q1yc (G:Gt)(a0:V)(m:M):ef G Tryz.f139 [a0] m = Q19e G a0 m:=
  evFn_of (r:=fun r m=>Q19e G (r 0) m) rfl rfl (fun r m=>by kernel_rfl) m
def Q1xa:En:=⟨Q18f,Tryz.f139,Tryz.func139,by kernel_rfl,arg1 Q19e,okarg1 Q1yc⟩
def Qik (G:Gt)(p1 p0:V)(m:M):R:=
  bp (some (aNew Q1ja (Value.cells p1).toList m)) fun x0 m=>
  bp (G.tab Q88 [p0,(.func (.func Q1c6) ⟨[]⟩ ⟨[x0]⟩)] m) fun x1 m=>
  some (.tuple ⟨[]⟩,m)
theorem Q1f3 (G:Gt)(a0 a1:V)(m:M):ef G Tryz.f140 [a0,a1] m = Qik G a1 a0 m:=
  evFn_of (r:=fun r m=>Qik G (r 1) (r 0) m) rfl rfl (fun r m=>by kernel_rfl) m
def Q1ed:En:=⟨Qtm,Tryz.f140,Tryz.func140,by kernel_rfl,arg2 (fun G a0 a1 m=>Qik G a1 a0 m),okarg2 Q1f3⟩
def Qe7 (G:Gt)(p1 p0:V)(m:M):R:=
  bp (some (aNew Q1do (Value.cells p1).toList m)) fun x0 m=>
  let x1:V:=(.func (.func Q15h) ⟨[]⟩ ⟨[x0]⟩)
  bp (G.tab Q4z [p0,x1] m) fun x2 m=>
  some (.tuple ⟨[]⟩,m)
theorem Q19f (G:Gt)(a0 a1:V)(m:M):ef G Tryz.f142 [a0,a1] m = Qe7 G a1 a0 m:=
  evFn_of (r:=fun r m=>Qe7 G (r 1) (r 0) m) rfl rfl (fun r m=>by kernel_rfl) m
def Q17y:En:=⟨Qnj,Tryz.f142,Tryz.func142,by kernel_rfl,arg2 (fun G a0 a1 m=>Qe7 G a1 a0 m),okarg2 Q19f⟩
def Qam (G:Gt)(p1 p0:V)(m:M):R:=
  bp (some (aNew Q196 (Value.cells p1).toList m)) fun x0 m=>
  let x1:V:=(.func (.func Qzm) ⟨[]⟩ ⟨[x0]⟩)
  bp (G.tab Q3h [p0,x1] m) fun x2 m=>
  some (.tuple ⟨[]⟩,m)
theorem Q13s (G:Gt)(a0 a1:V)(m:M):ef G Tryz.f144 [a0,a1] m = Qam G a1 a0 m:=
  evFn_of (r:=fun r m=>Qam G (r 1) (r 0) m) rfl rfl (fun r m=>by kernel_rfl) m
def Q129:En:=⟨Qk1,Tryz.f144,Tryz.func144,by kernel_rfl,arg2 (fun G a0 a1 m=>Qam G a1 a0 m),okarg2 Q13s⟩
def Qil (G:Gt)(p1 p0:V)(m:M):R:=
  bp (some (aNew Q1jc (Value.cells p1).toList m)) fun x0 m=>
  bp (G.tab Q7x [p0,(.func (.func Q1c7) ⟨[]⟩ ⟨[x0]⟩)] m) fun x1 m=>
  some (.tuple ⟨[]⟩,m)
theorem Q1f4 (G:Gt)(a0 a1:V)(m:M):ef G Tryz.f146 [a0,a1] m = Qil G a1 a0 m:=
  evFn_of (r:=fun r m=>Qil G (r 1) (r 0) m) rfl rfl (fun r m=>by kernel_rfl) m
def Q1ee:En:=⟨Qtn,Tryz.f146,Tryz.func146,by kernel_rfl,arg2 (fun G a0 a1 m=>Qil G a1 a0 m),okarg2 Q1f4⟩
def Q37 (G:Gt)(p0 p1:V)(m:M):R:=
  bp (pur (lenK 1 p0 m) m) fun x0 m=>
  bp (G.tab Qj9 [p0,x0,p1] m) fun x1 m=>
  some (.tuple ⟨[]⟩,m)
theorem Qlt (G:Gt)(a0 a1:V)(m:M):ef G Tryz.f148 [a0,a1] m = Q37 G a0 a1 m:=
  evFn_of (r:=fun r m=>Q37 G (r 0) (r 1) m) rfl rfl (fun r m=>by kernel_rfl) m
def Qks:En:=⟨Q7n,Tryz.f148,Tryz.func148,by kernel_rfl,arg2 Q37,okarg2 Qlt⟩
def Q38 (G:Gt)(p0 p1:V)(m:M):R:=
  bp (pur (lenK 1 p0 m) m) fun x0 m=>
  bp (G.tab Qja [p0,x0,p1] m) fun x1 m=>
  some (.tuple ⟨[]⟩,m)
theorem Qlu (G:Gt)(a0 a1:V)(m:M):ef G Tryz.f150 [a0,a1] m = Q38 G a0 a1 m:=
  evFn_of (r:=fun r m=>Q38 G (r 0) (r 1) m) rfl rfl (fun r m=>by kernel_rfl) m
def Qkt:En:=⟨Q7o,Tryz.f150,Tryz.func150,by kernel_rfl,arg2 Q38,okarg2 Qlu⟩
def Qfg (G:Gt)(p0 p1 p2:V)(m:M):R:=
  bp (some (aNew Qx (Value.cells p0).toList m)) fun x0 m=>
  bp (some (aNew Qx (Value.cells p1).toList m)) fun x1 m=>
  bp (pur (aLoad false 1 p2 m) m) fun x2 m=>
  bp (pur (aLoad true 12 x0 m) m) fun x3 m=>
  bp (pur (aLoad false 1 p2 m) m) fun x4 m=>
  bp (pur (aLoad true 12 x1 m) m) fun x5 m=>
  bp (evCall G.tab x2 [x3] m) fun x6 m=>
  ckB (again (pur (aLoad false 1 p2 m) m) x4 && (again (pur (aLoad true 12 x1 m) m) x5 && true))
  (bp (evCall G.tab x4 [x5] m) fun x7 m=>
  bp (G.tab Q11r [x6,x7] m) fun x8 m=>
  some (x8,m))
theorem Q1cj (G:Gt)(a0 a1 a2:V)(m:M):ef G Tryz.f151 [a0,a1,a2] m = Qfg G a0 a1 a2 m:=
  evFn_of (r:=fun r m=>Qfg G (r 0) (r 1) (r 2) m) rfl rfl (fun r m=>by kernel_rfl) m
def Q1bv:En:=⟨Qpn,Tryz.f151,Tryz.func151,by kernel_rfl,arg3 Qfg,okarg3 Q1cj⟩
def Q120 (G:Gt)(p0 p1:V)(m:M):R:=
  bp (G.tab Qlf [p0,p1] m) fun x0 m=>
  some (x0,m)
theorem Q1v6 (G:Gt)(a0 a1:V)(m:M):ef G Tryz.f152 [a0,a1] m = Q120 G a0 a1 m:=
  evFn_of (r:=fun r m=>Q120 G (r 0) (r 1) m) rfl rfl (fun r m=>by kernel_rfl) m
def Q1u9:En:=⟨Q11r,Tryz.f152,Tryz.func152,by kernel_rfl,arg2 Q120,okarg2 Q1v6⟩
def Q1f5 (G:Gt)(p0:V)(m:M):R:=
  bp (pur (bin .sub true true .int (.int .i64 32) p0) m) fun x0 m=>
  bp (pur (bin .shl true true .int (.int .u64 1) x0) m) fun x1 m=>
  bp (pur (bin .sub true true .int x1 (.int .u64 1)) m) fun x2 m=>
  bp (conv (.int .u32) x2 m) fun x3 m=>
  some (x3,m)
theorem Q21m (G:Gt)(a0:V)(m:M):ef G Tryz.f153 [a0] m = Q1f5 G a0 m:=
  evFn_of (r:=fun r m=>Q1f5 G (r 0) m) rfl rfl (fun r m=>by kernel_rfl) m
def Q20h:En:=⟨Q14m,Tryz.f153,Tryz.func153,by kernel_rfl,arg1 Q1f5,okarg1 Q21m⟩
def Q1ck (G:Gt)(p3 p1:V)(m:M):R:=
  brb p3
  (some ((.int .i64 1),m))
  (bp (pur (aFieldAddr 0 p1) m) fun x0 m=>
  bp (pur (aLoad false 1 x0 m) m) fun x1 m=>
  bp (pur (aFieldAddr 1 p1) m) fun x2 m=>
  bp (pur (aLoad false 1 x2 m) m) fun x3 m=>
  bp (G.tab Q14m [x3] m) fun x4 m=>
  ckB (again (pur (aLoad false 1 x0 m) m) x1 && true)
  (bp (pur (bin .and false true .int x1 x4) m) fun x5 m=>
  bp (pur (bin .neq true true .int x5 (.int .u32 0)) m) fun x6 m=>
  brb x6
  (some ((.int .i64 10),m))
  (some ((.int .i64 0),m))))
def Q1mn (G:Gt)(p1:V)(m:M):R:=
  bp (pur (aFieldAddr 1 p1) m) fun x7 m=>
  bp (pur (aLoad false 1 x7 m) m) fun x8 m=>
  bp (pur (bin .lss true true .int x8 (.int .i64 0)) m) fun x9 m=>
  brb x9
  (Q1ck G (.bool true) p1 m)
  (bp (pur (aFieldAddr 1 p1) m) fun x10 m=>
  bp (pur (aLoad false 1 x10 m) m) fun x11 m=>
  bp (pur (bin .gtr true true .int x11 (.int .i64 32)) m) fun x12 m=>
  Q1ck G x12 p1 m)
def Q1ie (G:Gt)(p0:V)(m:M):R:=
  bp (some (aNew Q1x (Value.cells p0).toList m)) fun x13 m=>
  Q1mn G x13 m
theorem Q230 (G:Gt)(a0:V)(m:M):ef G Tryz.f156 [a0] m = Q1ie G a0 m:=
  evFn_of (r:=fun r m=>Q1ie G (r 0) m) rfl rfl (tr (seqQ (f:=fun r m=>Q1mn G (r 1) m) (tr (tr seqD (blockQ (seqQ (f:=fun r m=>Q1ck G (r 3) (r 1) m) (fun r m=>by kernel_rfl)))) (fun r m=>by kernel_rfl))) (fun r m=>by kernel_rfl)) m
def Q225:En:=⟨Qxg,Tryz.f156,Tryz.func156,by kernel_rfl,arg1 Q1ie,okarg1 Q230⟩
def Q52 (G:Gt)(p0 p1:V)(m:M):R:=
  bp (pur (lenK 1 p0 m) m) fun x0 m=>
  bp (conv (.int .u64) x0 m) fun x1 m=>
  bp (G.tab Q6u [x1] m) fun x2 m=>
  bp (G.tab Q4c [p0,(.int .i64 0),x0,x2,p1] m) fun x3 m=>
  some (.tuple ⟨[]⟩,m)
theorem Qqe (G:Gt)(a0 a1:V)(m:M):ef G Tryz.f157 [a0,a1] m = Q52 G a0 a1 m:=
  evFn_of (r:=fun r m=>Q52 G (r 0) (r 1) m) rfl rfl (fun r m=>by kernel_rfl) m
def Qph:En:=⟨Qcg,Tryz.f157,Tryz.func157,by kernel_rfl,arg2 Q52,okarg2 Qqe⟩
def Q1o6 (G:Gt)(p0 p1:V)(m:M):R:=
  bp (some (aNew Q1x (Value.cells p0).toList m)) fun x0 m=>
  bp (some (aNew Q1x (Value.cells p1).toList m)) fun x1 m=>
  bp (pur (aFieldAddr 0 x0) m) fun x2 m=>
  bp (pur (aLoad false 1 x2 m) m) fun x3 m=>
  bp (pur (aFieldAddr 0 x1) m) fun x4 m=>
  bp (pur (aLoad false 1 x4 m) m) fun x5 m=>
  bp (pur (aFieldAddr 1 x0) m) fun x6 m=>
  bp (pur (aLoad false 1 x6 m) m) fun x7 m=>
  bp (pur (aFieldAddr 1 x1) m) fun x8 m=>
  bp (pur (aLoad false 1 x8 m) m) fun x9 m=>
  bp (G.tab Q106 [x3,x5] m) fun x10 m=>
  ckB (again (pur (aLoad false 1 x6 m) m) x7 && (again (pur (aLoad false 1 x8 m) m) x9 && true))
  (bp (G.tab Qyl [x7,x9] m) fun x11 m=>
  bp (aBuildSlice Qcu [(.int .i64 0)] 1 2 [(0,x10),(1,x11)] m) fun x12 m=>
  bp (G.tab Q1pc [x12] m) fun x13 m=>
  some (x13,m))
theorem Q25q (G:Gt)(a0 a1:V)(m:M):ef G Tryz.f158 [a0,a1] m = Q1o6 G a0 a1 m:=
  evFn_of (r:=fun r m=>Q1o6 G (r 0) (r 1) m) rfl rfl (fun r m=>by kernel_rfl) m
def Q253:En:=⟨Q1xi,Tryz.f158,Tryz.func158,by kernel_rfl,arg2 Q1o6,okarg2 Q25q⟩
def Qbm (G:Gt)(p0:V)(m:M):R:=
  some (p0,m)
def Qbn (G:Gt)(p0 p3:V)(m:M):R:=
  bp (pur (aSliceSl 2 p0 (some p3) none) m) fun x0 m=>
  bp (unt (aClear Q2d 2 x0 m)) fun _ m=>
  bp (pur (aSliceSl 2 p0 none (some p3)) m) fun x1 m=>
  some (x1,m)
def Q49 (G:Gt)(k1:V → V → V → V → M → R)(p5 p4 p0 p3:V)(m:M):R:=
  bp (pur (bin .add true true .int p5 (.int .i64 1)) m) fun x2 m=>
  k1 x2 p4 p0 p3 m
def Qan (G:Gt)(k1:V → V → V → V → M → R)(p4 p5 p0 p3:V)(m:M):R:=
  bp (pur (aIndexAddrSl 2 p4 p5) m) fun x3 m=>
  bp (pur (aLoad true 2 x3 m) m) fun x4 m=>
  bp (pur (bin .sub true true .int p5 (.int .i64 1)) m) fun x5 m=>
  bp (pur (aIndexAddrSl 2 p4 x5) m) fun x6 m=>
  bp (pur (aLoad true 2 x6 m) m) fun x7 m=>
  bp (pur (bin .neq false true (.struct [(0,1,false,.int),(1,1,false,.int)]) x4 x7) m) fun x8 m=>
  brb x8
  (bp (pur (aIndexAddrSl 2 p4 p5) m) fun x9 m=>
  bp (pur (aLoad true 2 x9 m) m) fun x10 m=>
  bp (pur (aIndexAddrSl 2 p0 p3) m) fun x11 m=>
  bp (unt (aStore 2 x11 x10 m)) fun _ m=>
  bp (pur (bin .add true true .int p3 (.int .i64 1)) m) fun x12 m=>
  Q49 G k1 p5 p4 p0 x12 m)
  (Q49 G k1 p5 p4 p0 p3 m)
def Q1o (G:Gt):Nat → V → V → V → V → M → R
 | 0,_,_,_,_,_=>none
 | i + 1,p5,p4,p0,p3,m=>
  bp (pur (lenK 1 p4 m) m) fun x13 m=>
  bp (pur (bin .lss false true .int p5 x13) m) fun x14 m=>
  brb x14
  (Qan G (Q1o G i) p4 p5 p0 p3 m)
  (Qbn G p0 p3 m)
def Qbo (G:Gt)(p5 p4 p0 p3:V)(m:M):R:=
  Q1o G G.rds p5 p4 p0 p3 m
def Qbp (G:Gt)(p4 p0 p3:V)(m:M):R:=
  Qbo G (.int .i64 1) p4 p0 p3 m
def Qbq (G:Gt)(k0:V → V → M → R)(p25 p0 p3:V)(m:M):R:=
  brb p25
  (bp (pur (aSliceSl 2 p0 (some p3) none) m) fun x15 m=>
  Qbp G x15 p0 p3 m)
  (bp (pur (bin .add true true .int p3 (.int .i64 1)) m) fun x16 m=>
  k0 x16 p0 m)
def Qbr (G:Gt)(k0:V → V → M → R)(p0 p3:V)(m:M):R:=
  bp (pur (aIndexAddrSl 2 p0 p3) m) fun x17 m=>
  bp (pur (aLoad true 2 x17 m) m) fun x18 m=>
  bp (pur (bin .sub true true .int p3 (.int .i64 1)) m) fun x19 m=>
  bp (pur (aIndexAddrSl 2 p0 x19) m) fun x20 m=>
  bp (pur (aLoad true 2 x20 m) m) fun x21 m=>
  bp (pur (bin .eql false true (.struct [(0,1,false,.int),(1,1,false,.int)]) x18 x21) m) fun x22 m=>
  Qbq G k0 x22 p0 p3 m
def Q1t (G:Gt):Nat → V → V → M → R
 | 0,_,_,_=>none
 | i + 1,p3,p0,m=>
  bp (pur (lenK 1 p0 m) m) fun x23 m=>
  bp (pur (bin .lss false true .int p3 x23) m) fun x24 m=>
  brb x24
  (Qbr G (Q1t G i) p0 p3 m)
  (Qbm G p0 m)
def Qbs (G:Gt)(p3 p0:V)(m:M):R:=
  Q1t G G.rds p3 p0 m
def Qbt (G:Gt)(p0:V)(m:M):R:=
  Qbs G (.int .i64 1) p0 m
def Qbu (G:Gt)(p0:V)(m:M):R:=
  bp (pur (lenK 1 p0 m) m) fun x25 m=>
  bp (pur (bin .lss true true .int x25 (.int .i64 2)) m) fun x26 m=>
  brb x26
  (some (p0,m))
  (Qbt G p0 m)
def Q5l (G:Gt)(p0:V)(m:M):R:=
  Qbu G p0 m
theorem Qr3 (G:Gt)(a0:V)(m:M):ef G Tryz.f159 [a0] m = Q5l G a0 m:=
  evFn_of (r:=fun r m=>Q5l G (r 0) m) rfl rfl (tr (seqQ (f:=fun r m=>Qbu G (r 0) m) (tr (seqQ (f:=fun r m=>Qbt G (r 0) m) (tr (tr (seqQ (f:=fun r m=>Qbm G (r 0) m) (fun r m=>by kernel_rfl)) (seqQ (f:=fun r m=>Qbs G (r 3) (r 0) m) (tr (blockQ (loopQ (fun i r m=>Q1t G i (r 3) (r 0) m) (fun _ _=>rfl) (fun i0=>tr (seqQ (f:=fun r m=>Qbr G (Q1t G i0) (r 0) (r 3) m) (tr (tr seqD (blockQ (seqQ (f:=fun r m=>Qbq G (Q1t G i0) (r 25) (r 0) (r 3) m) (tr (condQ (seqQ (f:=fun r m=>Qbp G (r 4) (r 0) (r 3) m) (tr (tr (seqQ (f:=fun r m=>Qbn G (r 0) (r 3) m) (fun r m=>by kernel_rfl)) (seqQ (f:=fun r m=>Qbo G (r 5) (r 4) (r 0) (r 3) m) (tr (blockQ (loopQ (fun i r m=>Q1o G i (r 5) (r 4) (r 0) (r 3) m) (fun _ _=>rfl) (fun i1=>tr (seqQ (f:=fun r m=>Qan G (Q1o G i1) (r 4) (r 5) (r 0) (r 3) m) (tr (seqQ (f:=fun r m=>Q49 G (Q1o G i1) (r 5) (r 4) (r 0) (r 3) m) (fun r m=>by kernel_rfl)) (fun r m=>by kernel_rfl))) (fun r m=>by kernel_rfl)))) (fun r m=>by kernel_rfl)))) (fun r m=>by kernel_rfl))) (refQ)) (fun r m=>by kernel_rfl))))) (fun r m=>by kernel_rfl))) (fun r m=>by kernel_rfl)))) (fun r m=>by kernel_rfl)))) (fun r m=>by kernel_rfl))) (fun r m=>by kernel_rfl))) (fun r m=>by kernel_rfl)) m
def Qqj:En:=⟨Qd7,Tryz.f159,Tryz.func159,by kernel_rfl,arg1 Q5l,okarg1 Qr3⟩
end
end Go.Ab.Sh

set_option linter.unusedVariables false
set_option maxRecDepth 100000
namespace Go.Ab.Sh
open Go Go.Ab Go.Proofs
noncomputable section
def Q1ti (G:Gt)(p0 p1:V)(m:M):R:=
  bp (some (aNew Q211 (Value.cells p0).toList m)) fun x0 m=>
  bp (some (aNew Q45 (Value.cells p1).toList m)) fun x1 m=>
  bp (pur (aFieldAddr 8 x1) m) fun x2 m=>
  bp (pur (aLoad false 1 x2 m) m) fun x3 m=>
  brb x3
  (some ((.slice none 0 0),m))
  (bp (pur (aFieldAddr 6 x1) m) fun x4 m=>
  bp (pur (aLoad false 1 x4 m) m) fun x5 m=>
  bp (pur (bin .neq true true .str x5 (.string ⟨#[]⟩)) m) fun x6 m=>
  brb x6
  (bp (pur (aFieldAddr 6 x1) m) fun x7 m=>
  bp (pur (aLoad false 1 x7 m) m) fun x8 m=>
  bp (pur (aFieldAddr 7 x1) m) fun x9 m=>
  bp (pur (aLoad false 1 x9 m) m) fun x10 m=>
  bp (pur (aBuild Qk0 [(0,1),(1,1)] [(0,x8),(1,x10)]) m) fun x11 m=>
  bp (aBuildSlice Qeh Qk0 2 1 [(0,x11)] m) fun x12 m=>
  some (x12,m))
  (bp (some (aNew Q240 [(.slice none 0 0)] m)) fun x13 m=>
  bp (some (aMakeMap m)) fun x14 m=>
  bp (some (aNew Q1r2 [(.map none)] m)) fun x15 m=>
  bp (unt (aStore 1 x15 x14 m)) fun _ m=>
  bp (some (aNew Q1y4 [.nilFunc] m)) fun x16 m=>
  bp (unt (aStore 1 x16 (.func (.func Q1vb) ⟨[]⟩ ⟨[x15,x0,x16,x13]⟩) m)) fun _ m=>
  bp (pur (aLoad false 1 x16 m) m) fun x17 m=>
  bp (pur (aLoad true 9 x1 m) m) fun x18 m=>
  bp (evCall G.tab x17 [x18] m) fun x19 m=>
  bp (pur (aLoad false 1 x13 m) m) fun x20 m=>
  bp (G.tab Q1hi [x20] m) fun x21 m=>
  some (x21,m)))
theorem Q26q (G:Gt)(a0 a1:V)(m:M):ef G Tryz.f160 [a0,a1] m = Q1ti G a0 a1 m:=
  evFn_of (r:=fun r m=>Q1ti G (r 0) (r 1) m) rfl rfl (fun r m=>by kernel_rfl) m
def Q26b:En:=⟨Q1zn,Tryz.f160,Tryz.func160,by kernel_rfl,arg2 Q1ti,okarg2 Q26q⟩
def Q1if (G:Gt)(p0:V)(m:M):R:=
  bp (G.tab Qhc [p0,(.func (.func Q1zc) #[] #[])] m) fun x0 m=>
  bp (G.tab Qib [p0] m) fun x1 m=>
  some (x1,m)
theorem Q231 (G:Gt)(a0:V)(m:M):ef G Tryz.f161 [a0] m = Q1if G a0 m:=
  evFn_of (r:=fun r m=>Q1if G (r 0) m) rfl rfl (fun r m=>by kernel_rfl) m
def Q21z:En:=⟨Q1hi,Tryz.f161,Tryz.func161,by kernel_rfl,arg1 Q1if,okarg1 Q231⟩
def Qz6 (G:Gt)(p0 p2 p1:V)(m:M):R:=
  bp (some (aNew Q2r (Value.cells p0).toList m)) fun x0 m=>
  bp (some (aNew Q1cp (Value.cells p2).toList m)) fun x1 m=>
  bp (some (aMakeMap m)) fun x2 m=>
  bp (unt (aMapUpdate .int x2 (.int .i32 0) (.bool true) m)) fun _ m=>
  bp (unt (aMapUpdate .int x2 (.int .i32 1) (.bool true) m)) fun _ m=>
  bp (some (aNew Qsi [(.map none)] m)) fun x3 m=>
  bp (unt (aStore 1 x3 x2 m)) fun _ m=>
  bp (some (aNew Q1cp [.nilFunc] m)) fun x4 m=>
  let x5:V:=(.func (.func Q18q) ⟨[]⟩ ⟨[x3,x1,x4,x0]⟩)
  bp (unt (aStore 1 x4 x5 m)) fun _ m=>
  bp (pur (aLoad false 1 x4 m) m) fun x6 m=>
  bp (evCall G.tab x6 [p1] m) fun x7 m=>
  some (.tuple ⟨[]⟩,m)
theorem Q1tj (G:Gt)(a0 a1 a2:V)(m:M):ef G Tryz.f162 [a0,a1,a2] m = Qz6 G a0 a2 a1 m:=
  evFn_of (r:=fun r m=>Qz6 G (r 0) (r 2) (r 1) m) rfl rfl (fun r m=>by kernel_rfl) m
def Q1rt:En:=⟨Q1d7,Tryz.f162,Tryz.func162,by kernel_rfl,arg3 (fun G a0 a1 a2 m=>Qz6 G a0 a2 a1 m),okarg3 Q1tj⟩
def Qoi (G:Gt)(p1 p2 p0:V)(m:M):R:=
  bp (pur (aLoad false 1 p1 m) m) fun x0 m=>
  bp (pur (aLoad false 1 p2 m) m) fun x1 m=>
  bp (pur (aNilCheck x1) m) fun x2 m=>
  bp (pur (aFieldAddr 2 x2) m) fun x3 m=>
  bp (pur (aLoad false 1 x3 m) m) fun x4 m=>
  bp (pur (aIndexAddrSl 3 x4 p0) m) fun x5 m=>
  bp (pur (aFieldAddr 0 x5) m) fun x6 m=>
  bp (pur (aLoad false 1 x6 m) m) fun x7 m=>
  bp (conv (.int .i64) x7 m) fun x8 m=>
  bp (aBuildSlice Qcu [(.int .i64 0)] 1 1 [(0,x8)] m) fun x9 m=>
  bp (apS Qcu 1 8 x0 x9 m) fun x10 m=>
  bp (unt (aStore 1 p1 x10 m)) fun _ m=>
  some (.tuple ⟨[]⟩,m)
theorem Q1l0 (G:Gt)(a0 a1 a2:V)(m:M):ef G Tryz.f164 [a0,a1,a2] m = Qoi G a1 a2 a0 m:=
  evFn_of (r:=fun r m=>Qoi G (r 1) (r 2) (r 0) m) rfl rfl (fun r m=>by kernel_rfl) m
def Q1kg:En:=⟨Q12b,Tryz.f164,Tryz.func164,by kernel_rfl,arg3 (fun G a0 a1 a2 m=>Qoi G a1 a2 a0 m),okarg3 Q1l0⟩
def Qlv (G:Gt)(p0:V)(m:M):R:=
  bp (pur (lenK 1 p0 m) m) fun x0 m=>
  bp (conv (.int .u64) x0 m) fun x1 m=>
  bp (G.tab Q6u [x1] m) fun x2 m=>
  bp (G.tab Q8z [p0,(.int .i64 0),x0,x2] m) fun x3 m=>
  some (.tuple ⟨[]⟩,m)
theorem Q1ig (G:Gt)(a0:V)(m:M):ef G Tryz.f165 [a0] m = Qlv G a0 m:=
  evFn_of (r:=fun r m=>Qlv G (r 0) m) rfl rfl (fun r m=>by kernel_rfl) m
def Q1hf:En:=⟨Qxh,Tryz.f165,Tryz.func165,by kernel_rfl,arg1 Qlv,okarg1 Q1ig⟩
def Qos (G:Gt)(p0:V)(m:M):R:=
  some (p0,m)
def Qot (G:Gt)(p0 p3:V)(m:M):R:=
  bp (pur (aSliceSl 1 p0 (some p3) none) m) fun x0 m=>
  bp (unt (aClear [(.int .i64 0)] 1 x0 m)) fun _ m=>
  bp (pur (aSliceSl 1 p0 none (some p3)) m) fun x1 m=>
  some (x1,m)
def Qe8 (G:Gt)(k1:V → V → V → V → M → R)(p5 p4 p0 p3:V)(m:M):R:=
  bp (pur (bin .add true true .int p5 (.int .i64 1)) m) fun x2 m=>
  k1 x2 p4 p0 p3 m
def Qo2 (G:Gt)(k1:V → V → V → V → M → R)(p4 p5 p0 p3:V)(m:M):R:=
  bp (pur (aIndexAddrSl 1 p4 p5) m) fun x3 m=>
  bp (pur (aLoad false 1 x3 m) m) fun x4 m=>
  bp (pur (bin .sub true true .int p5 (.int .i64 1)) m) fun x5 m=>
  bp (pur (aIndexAddrSl 1 p4 x5) m) fun x6 m=>
  bp (pur (aLoad false 1 x6 m) m) fun x7 m=>
  bp (pur (bin .neq false true .int x4 x7) m) fun x8 m=>
  brb x8
  (bp (pur (aIndexAddrSl 1 p4 p5) m) fun x9 m=>
  bp (pur (aLoad false 1 x9 m) m) fun x10 m=>
  bp (pur (aIndexAddrSl 1 p0 p3) m) fun x11 m=>
  bp (unt (aStore 1 x11 x10 m)) fun _ m=>
  bp (pur (bin .add true true .int p3 (.int .i64 1)) m) fun x12 m=>
  Qe8 G k1 p5 p4 p0 x12 m)
  (Qe8 G k1 p5 p4 p0 p3 m)
def Q3y (G:Gt):Nat → V → V → V → V → M → R
 | 0,_,_,_,_,_=>none
 | i + 1,p5,p4,p0,p3,m=>
  bp (pur (lenK 1 p4 m) m) fun x13 m=>
  bp (pur (bin .lss false true .int p5 x13) m) fun x14 m=>
  brb x14
  (Qo2 G (Q3y G i) p4 p5 p0 p3 m)
  (Qot G p0 p3 m)
def Qou (G:Gt)(p5 p4 p0 p3:V)(m:M):R:=
  Q3y G G.rds p5 p4 p0 p3 m
def Qov (G:Gt)(p4 p0 p3:V)(m:M):R:=
  Qou G (.int .i64 1) p4 p0 p3 m
def Qow (G:Gt)(k0:V → V → M → R)(p25 p0 p3:V)(m:M):R:=
  brb p25
  (bp (pur (aSliceSl 1 p0 (some p3) none) m) fun x15 m=>
  Qov G x15 p0 p3 m)
  (bp (pur (bin .add true true .int p3 (.int .i64 1)) m) fun x16 m=>
  k0 x16 p0 m)
def Qox (G:Gt)(k0:V → V → M → R)(p0 p3:V)(m:M):R:=
  bp (pur (aIndexAddrSl 1 p0 p3) m) fun x17 m=>
  bp (pur (aLoad false 1 x17 m) m) fun x18 m=>
  bp (pur (bin .sub true true .int p3 (.int .i64 1)) m) fun x19 m=>
  bp (pur (aIndexAddrSl 1 p0 x19) m) fun x20 m=>
  bp (pur (aLoad false 1 x20 m) m) fun x21 m=>
  bp (pur (bin .eql false true .int x18 x21) m) fun x22 m=>
  Qow G k0 x22 p0 p3 m
def Q4e (G:Gt):Nat → V → V → M → R
 | 0,_,_,_=>none
 | i + 1,p3,p0,m=>
  bp (pur (lenK 1 p0 m) m) fun x23 m=>
  bp (pur (bin .lss false true .int p3 x23) m) fun x24 m=>
  brb x24
  (Qox G (Q4e G i) p0 p3 m)
  (Qos G p0 m)
def Qoy (G:Gt)(p3 p0:V)(m:M):R:=
  Q4e G G.rds p3 p0 m
def Qoz (G:Gt)(p0:V)(m:M):R:=
  Qoy G (.int .i64 1) p0 m
def Qp0 (G:Gt)(p0:V)(m:M):R:=
  bp (pur (lenK 1 p0 m) m) fun x25 m=>
  bp (pur (bin .lss true true .int x25 (.int .i64 2)) m) fun x26 m=>
  brb x26
  (some (p0,m))
  (Qoz G p0 m)
def Qhr (G:Gt)(p0:V)(m:M):R:=
  Qp0 G p0 m
theorem Q1dt (G:Gt)(a0:V)(m:M):ef G Tryz.f166 [a0] m = Qhr G a0 m:=
  evFn_of (r:=fun r m=>Qhr G (r 0) m) rfl rfl (tr (seqQ (f:=fun r m=>Qp0 G (r 0) m) (tr (seqQ (f:=fun r m=>Qoz G (r 0) m) (tr (tr (seqQ (f:=fun r m=>Qos G (r 0) m) (fun r m=>by kernel_rfl)) (seqQ (f:=fun r m=>Qoy G (r 3) (r 0) m) (tr (blockQ (loopQ (fun i r m=>Q4e G i (r 3) (r 0) m) (fun _ _=>rfl) (fun i0=>tr (seqQ (f:=fun r m=>Qox G (Q4e G i0) (r 0) (r 3) m) (tr (tr seqD (blockQ (seqQ (f:=fun r m=>Qow G (Q4e G i0) (r 25) (r 0) (r 3) m) (tr (condQ (seqQ (f:=fun r m=>Qov G (r 4) (r 0) (r 3) m) (tr (tr (seqQ (f:=fun r m=>Qot G (r 0) (r 3) m) (fun r m=>by kernel_rfl)) (seqQ (f:=fun r m=>Qou G (r 5) (r 4) (r 0) (r 3) m) (tr (blockQ (loopQ (fun i r m=>Q3y G i (r 5) (r 4) (r 0) (r 3) m) (fun _ _=>rfl) (fun i1=>tr (seqQ (f:=fun r m=>Qo2 G (Q3y G i1) (r 4) (r 5) (r 0) (r 3) m) (tr (seqQ (f:=fun r m=>Qe8 G (Q3y G i1) (r 5) (r 4) (r 0) (r 3) m) (fun r m=>by kernel_rfl)) (fun r m=>by kernel_rfl))) (fun r m=>by kernel_rfl)))) (fun r m=>by kernel_rfl)))) (fun r m=>by kernel_rfl))) (refQ)) (fun r m=>by kernel_rfl))))) (fun r m=>by kernel_rfl))) (fun r m=>by kernel_rfl)))) (fun r m=>by kernel_rfl)))) (fun r m=>by kernel_rfl))) (fun r m=>by kernel_rfl))) (fun r m=>by kernel_rfl)) m
def Q1d6:En:=⟨Qre,Tryz.f166,Tryz.func166,by kernel_rfl,arg1 Qhr,okarg1 Q1dt⟩
def Qz7 (G:Gt)(p0 p1:V)(m:M):R:=
  bp (some (aNew Q2r (Value.cells p0).toList m)) fun x0 m=>
  bp (G.tab Qc4 [p1,(.func (.func Q192) ⟨[]⟩ ⟨[x0]⟩)] m) fun x1 m=>
  bp (pur (un .not x1) m) fun x2 m=>
  some (x2,m)
theorem Q1tk (G:Gt)(a0 a1:V)(m:M):ef G Tryz.f167 [a0,a1] m = Qz7 G a0 a1 m:=
  evFn_of (r:=fun r m=>Qz7 G (r 0) (r 1) m) rfl rfl (fun r m=>by kernel_rfl) m
def Q1rj:En:=⟨Q1d8,Tryz.f167,Tryz.func167,by kernel_rfl,arg2 Qz7,okarg2 Q1tk⟩
def Qca (G:Gt)(p0 p1:V)(m:M):R:=
  bp (G.tab Qor [p0,p1] m) fun x0 m=>
  bp (pur (bin .geq true true .int x0 (.int .i64 0)) m) fun x1 m=>
  some (x1,m)
theorem Q15p (G:Gt)(a0 a1:V)(m:M):ef G Tryz.f168 [a0,a1] m = Qca G a0 a1 m:=
  evFn_of (r:=fun r m=>Qca G (r 0) (r 1) m) rfl rfl (fun r m=>by kernel_rfl) m
def Q14v:En:=⟨Qc4,Tryz.f168,Tryz.func168,by kernel_rfl,arg2 Qca,okarg2 Q15p⟩
def Qsz (G:Gt)(p1 p0:V)(m:M):R:=
  bp (pur (aLoad false 1 p1 m) m) fun x0 m=>
  bp (G.tab Qq3 [x0,p0] m) fun x1 m=>
  bp (pur (un .not x1) m) fun x2 m=>
  some (x2,m)
theorem Q1o7 (G:Gt)(a0 a1:V)(m:M):ef G Tryz.f169 [a0,a1] m = Qsz G a1 a0 m:=
  evFn_of (r:=fun r m=>Qsz G (r 1) (r 0) m) rfl rfl (fun r m=>by kernel_rfl) m
def Q1n8:En:=⟨Q183,Tryz.f169,Tryz.func169,by kernel_rfl,arg2 (fun G a0 a1 m=>Qsz G a1 a0 m),okarg2 Q1o7⟩
def Qfh (G:Gt)(p0 p1:V)(m:M):R:=
  bp (G.tab Qji [p0,p1] m) fun x0 m=>
  bp (pur (bin .geq true true .int x0 (.int .i64 0)) m) fun x1 m=>
  some (x1,m)
theorem Q1cl (G:Gt)(a0 a1:V)(m:M):ef G Tryz.f170 [a0,a1] m = Qfh G a0 a1 m:=
  evFn_of (r:=fun r m=>Qfh G (r 0) (r 1) m) rfl rfl (fun r m=>by kernel_rfl) m
def Q1bx:En:=⟨Qq3,Tryz.f170,Tryz.func170,by kernel_rfl,arg2 Qfh,okarg2 Q1cl⟩
def Qoj (G:Gt)(p1 p0 p2:V)(m:M):R:=
  bp (pur (aNilCheck p0) m) fun x0 m=>
  bp (pur (aFieldAddr 3 x0) m) fun x1 m=>
  bp (pur (aLoad false 1 x1 m) m) fun x2 m=>
  bp (pur (bin .eql false true .int p1 x2) m) fun x3 m=>
  brb x3
  (some (p2,m))
  (bp (pur (aNilCheck p0) m) fun x4 m=>
  bp (pur (aFieldAddr 0 x4) m) fun x5 m=>
  bp (pur (aLoad false 1 x5 m) m) fun x6 m=>
  bp (G.tab Q1m2 [x6,p1,p2] m) fun x7 m=>
  bp (pur (aExtract x7 0) m) fun x8 m=>
  bp (pur (aExtract x7 1) m) fun x9 m=>
  bp (G.tab Qb [p0,x8,x9] m) fun x10 m=>
  some (x10,m))
theorem Q1l1 (G:Gt)(a0 a1 a2:V)(m:M):ef G Tryz.f171 [a0,a1,a2] m = Qoj G a1 a0 a2 m:=
  evFn_of (r:=fun r m=>Qoj G (r 1) (r 0) (r 2) m) rfl rfl (fun r m=>by kernel_rfl) m
def Q1kc:En:=⟨Qo6,Tryz.f171,Tryz.func171,by kernel_rfl,arg3 (fun G a0 a1 a2 m=>Qoj G a1 a0 a2 m),okarg3 Q1l1⟩
def Q7p (G:Gt)(p0 p1 p2 p3:V)(m:M):R:=
  bp (aBuildSlice Qcu [(.int .i64 0)] 1 3 [(0,p1),(1,p2),(2,p3)] m) fun x0 m=>
  bp (G.tab Q2z [p0,x0] m) fun x1 m=>
  bp (pur (bin .neq true true .int x1 (.int .i64 0)) m) fun x2 m=>
  brb x2
  (some (.tuple ⟨[(.int .i64 0),x1]⟩,m))
  (bp (conv (.int .i32) p1 m) fun x3 m=>
  bp (conv (.int .i32) p2 m) fun x4 m=>
  bp (conv (.int .i32) p3 m) fun x5 m=>
  bp (G.tab Q2g [p0,x3,x4,x5] m) fun x6 m=>
  bp (G.tab Q6l [p0,x6] m) fun x7 m=>
  bp (pur (aExtract x7 0) m) fun x8 m=>
  bp (pur (aExtract x7 1) m) fun x9 m=>
  some (.tuple ⟨[x8,x9]⟩,m))
theorem Q1ws (G:Gt)(a0 a1 a2 a3:V)(m:M):ef G Tryz.f172 [a0,a1,a2,a3] m = Q7p G a0 a1 a2 a3 m:=
  evFn_of (r:=fun r m=>Q7p G (r 0) (r 1) (r 2) (r 3) m) rfl rfl (fun r m=>by kernel_rfl) m
def Q14x:En:=⟨Q46,Tryz.f172,Tryz.func172,by kernel_rfl,arg4 Q7p,okarg4 Q1ws⟩
def Qhs (G:Gt)(p8:V)(m:M):R:=
  brb p8
  (some ((.int .i64 1),m))
  (some ((.int .i64 0),m))
def Q1du (G:Gt)(p5 p3 p0:V)(m:M):R:=
  brb p5
  (some ((.int .i64 2),m))
  (bp (pur (aFieldAddr 0 p3) m) fun x0 m=>
  bp (pur (aLoad false 1 x0 m) m) fun x1 m=>
  bp (pur (bin .lss true true .int x1 (.int .i64 0)) m) fun x2 m=>
  brt x2
  (Qhs G (.bool true) m)
  (bp (pur (aFieldAddr 0 p3) m) fun x3 m=>
  bp (pur (aLoad false 1 x3 m) m) fun x4 m=>
  bp (pur (aNilCheck p0) m) fun x5 m=>
  bp (pur (aFieldAddr 0 x5) m) fun x6 m=>
  bp (pur (aLoad false 1 x6 m) m) fun x7 m=>
  bp (pur (lenK 1 x7 m) m) fun x8 m=>
  bp (pur (bin .geq false true .int x4 x8) m) fun x9 m=>
  brt x9
  (Qhs G (.bool true) m)
  (bp (pur (aFieldAddr 1 p3) m) fun x10 m=>
  bp (pur (aLoad false 1 x10 m) m) fun x11 m=>
  bp (pur (bin .lss true true .int x11 (.int .i64 0)) m) fun x12 m=>
  brt x12
  (Qhs G (.bool true) m)
  (bp (pur (aFieldAddr 1 p3) m) fun x13 m=>
  bp (pur (aLoad false 1 x13 m) m) fun x14 m=>
  bp (pur (aNilCheck p0) m) fun x15 m=>
  bp (pur (aFieldAddr 0 x15) m) fun x16 m=>
  bp (pur (aLoad false 1 x16 m) m) fun x17 m=>
  bp (pur (aFieldAddr 0 p3) m) fun x18 m=>
  bp (pur (aLoad false 1 x18 m) m) fun x19 m=>
  bp (pur (aIndexAddrSl 12 x17 x19) m) fun x20 m=>
  bp (pur (aFieldAddr 3 x20) m) fun x21 m=>
  bp (pur (aLoad false 1 x21 m) m) fun x22 m=>
  bp (pur (lenK 1 x22 m) m) fun x23 m=>
  bp (pur (bin .geq false true .int x14 x23) m) fun x24 m=>
  Qhs G x24 m)
  (none))
  (none))
  (none))
def Q1dv (G:Gt)(p0 p3:V)(m:M):R:=
  bp (pur (binP m .eql true true .ptr p0 (.pointer none)) m) fun x25 m=>
  Q1du G x25 p3 p0 m
def Q15q (G:Gt)(p1 p0:V)(m:M):R:=
  bp (some (aNew Q7 (Value.cells p1).toList m)) fun x26 m=>
  Q1dv G p0 x26 m
theorem Q1wt (G:Gt)(a0 a1:V)(m:M):ef G Tryz.f173 [a0,a1] m = Q15q G a1 a0 m:=
  evFn_of (r:=fun r m=>Q15q G (r 1) (r 0) m) rfl rfl (tr (seqQ (f:=fun r m=>Q1dv G (r 0) (r 3) m) (tr (tr seqD (blockQ (seqQ (f:=fun r m=>Q1du G (r 5) (r 3) (r 0) m) (tr (condQ (refQ) (seqQ (f:=fun r m=>Qhs G (r 8) m) (fun r m=>by kernel_rfl))) (fun r m=>by kernel_rfl))))) (fun r m=>by kernel_rfl))) (fun r m=>by kernel_rfl)) m
def Q1vu:En:=⟨Q152,Tryz.f173,Tryz.func173,by kernel_rfl,arg2 (fun G a0 a1 m=>Q15q G a1 a0 m),okarg2 Q1wt⟩
def Q1l2 (G:Gt)(p4:V)(m:M):R:=
  some (p4,m)
def Q1vk (G:Gt)(p3 p0:V)(m:M):R:=
  bp (pur (aLoad true 2 p3 m) m) fun x0 m=>
  bp (G.tab Qxg [x0] m) fun x1 m=>
  bp (pur (bin .eql true true .int x1 (.int .i64 0)) m) fun x2 m=>
  brt x2
  (bp (pur (aFieldAddr 1 p3) m) fun x3 m=>
  bp (pur (aLoad false 1 x3 m) m) fun x4 m=>
  bp (pur (aFieldAddr 0 p3) m) fun x5 m=>
  bp (pur (aLoad false 1 x5 m) m) fun x6 m=>
  bp (G.tab Q14m [x4] m) fun x7 m=>
  ckB (again (pur (aLoad false 1 x5 m) m) x6 && true)
  (bp (pur (bin .andNot false true .int p0 x7) m) fun x8 m=>
  bp (pur (bin .eql false true .int x8 x6) m) fun x9 m=>
  Q1l2 G x9 m))
  (Q1l2 G (.bool false) m)
  (none)
def Q1tl (G:Gt)(p1 p0:V)(m:M):R:=
  bp (some (aNew Q1x (Value.cells p1).toList m)) fun x10 m=>
  Q1vk G x10 p0 m
theorem Q26r (G:Gt)(a0 a1:V)(m:M):ef G Tryz.f177 [a0,a1] m = Q1tl G a1 a0 m:=
  evFn_of (r:=fun r m=>Q1tl G (r 1) (r 0) m) rfl rfl (tr (seqQ (f:=fun r m=>Q1vk G (r 3) (r 0) m) (tr (seqQ (f:=fun r m=>Q1l2 G (r 4) m) (fun r m=>by kernel_rfl)) (fun r m=>by kernel_rfl))) (fun r m=>by kernel_rfl)) m
def Q268:En:=⟨Q1zp,Tryz.f177,Tryz.func177,by kernel_rfl,arg2 (fun G a0 a1 m=>Q1tl G a1 a0 m),okarg2 Q26r⟩
def Qbv (G:Gt)(m:M):R:=
  some ((.int .i64 (-1)),m)
def Q4o (G:Gt):Nat → V → V → V → V → M → R
 | 0,_,_,_,_,_=>none
 | i + 1,p8,p7,p1,p0,m=>
  bp (pur (bin .lss false true .int p8 p7) m) fun x0 m=>
  brb x0
  (bp (pur (aIndexAddrSl 11 p0 p8) m) fun x1 m=>
  bp (pur (aLoad true 11 x1 m) m) fun x2 m=>
  bp (evCall G.tab p1 [x2] m) fun x3 m=>
  brb x3
  (some (p8,m))
  (bp (pur (bin .add true true .int p8 (.int .i64 1)) m) fun x4 m=>
  (Q4o G i) x4 p7 p1 p0 m))
  (Qbv G m)
def Qbw (G:Gt)(p8 p7 p1 p0:V)(m:M):R:=
  Q4o G G.rds p8 p7 p1 p0 m
def Qbx (G:Gt)(p0 p1:V)(m:M):R:=
  bp (pur (lenK 1 p0 m) m) fun x5 m=>
  Qbw G (.int .i64 0) x5 p1 p0 m
def Q5m (G:Gt)(p0 p1:V)(m:M):R:=
  Qbx G p0 p1 m
theorem Qr4 (G:Gt)(a0 a1:V)(m:M):ef G Tryz.f178 [a0,a1] m = Q5m G a0 a1 m:=
  evFn_of (r:=fun r m=>Q5m G (r 0) (r 1) m) rfl rfl (tr (seqQ (f:=fun r m=>Qbx G (r 0) (r 1) m) (tr (tr (seqQ (f:=fun r m=>Qbv G m) (fun r m=>by kernel_rfl)) (seqQ (f:=fun r m=>Qbw G (r 8) (r 7) (r 1) (r 0) m) (tr (blockQ (loopQ (fun i r m=>Q4o G i (r 8) (r 7) (r 1) (r 0) m) (fun _ _=>rfl) (fun i0=>fun r m=>by kernel_rfl))) (fun r m=>by kernel_rfl)))) (fun r m=>by kernel_rfl))) (fun r m=>by kernel_rfl)) m
def Qqq:En:=⟨Q2q,Tryz.f178,Tryz.func178,by kernel_rfl,arg2 Q5m,okarg2 Qr4⟩
def Q121 (G:Gt)(p0 p1:V)(m:M):R:=
  bp (some (aNew Q1d (Value.cells p0).toList m)) fun x0 m=>
  bp (pur (aFieldAddr 0 x0) m) fun x1 m=>
  bp (pur (aLoad false 1 x1 m) m) fun x2 m=>
  bp (pur (aFieldAddr 0 p1) m) fun x3 m=>
  bp (pur (aLoad false 1 x3 m) m) fun x4 m=>
  bp (pur (bin .eql false true .str x2 x4) m) fun x5 m=>
  some (x5,m)
theorem Q1v7 (G:Gt)(a0 a1:V)(m:M):ef G Tryz.f179 [a0,a1] m = Q121 G a0 a1 m:=
  evFn_of (r:=fun r m=>Q121 G (r 0) (r 1) m) rfl rfl (fun r m=>by kernel_rfl) m
def Q1u5:En:=⟨Q1fs,Tryz.f179,Tryz.func179,by kernel_rfl,arg2 Q121,okarg2 Q1v7⟩
def Q19g (G:Gt)(p3:V)(m:M):R:=
  some (p3,m)
def Qt0 (G:Gt):Nat → V → V → V → V → M → R
 | 0,_,_,_,_,_=>none
 | i + 1,p8,p7,p6,p3,m=>
  bp (pur (bin .lss false true .int p8 p7) m) fun x0 m=>
  brb x0
  (bp (pur (aIndexAddrSl 1 p6 p8) m) fun x1 m=>
  bp (pur (aLoad false 1 x1 m) m) fun x2 m=>
  bp (pur (bin .neq false true .int x2 p3) m) fun x3 m=>
  brb x3
  (some (x2,m))
  (bp (pur (bin .add true true .int p8 (.int .i64 1)) m) fun x4 m=>
  (Qt0 G i) x4 p7 p6 p3 m))
  (Q19g G p3 m)
def Q19h (G:Gt)(p8 p7 p6 p3:V)(m:M):R:=
  Qt0 G G.rds p8 p7 p6 p3 m
def Q19i (G:Gt)(p0 p3:V)(m:M):R:=
  bp (pur (lenK 1 p0 m) m) fun x5 m=>
  Q19h G (.int .i64 0) x5 p0 p3 m
def Q19j (G:Gt)(p0:V)(m:M):R:=
  Q19i G p0 (.int .u32 0) m
def Qz8 (G:Gt)(p0:V)(m:M):R:=
  Q19j G p0 m
theorem Q1tm (G:Gt)(a0:V)(m:M):ef G Tryz.f180 [a0] m = Qz8 G a0 m:=
  evFn_of (r:=fun r m=>Qz8 G (r 0) m) rfl rfl (tr (seqQ (f:=fun r m=>Q19j G (r 0) m) (tr (seqQ (f:=fun r m=>Q19i G (r 0) (r 3) m) (tr (tr (seqQ (f:=fun r m=>Q19g G (r 3) m) (fun r m=>by kernel_rfl)) (seqQ (f:=fun r m=>Q19h G (r 8) (r 7) (r 6) (r 3) m) (tr (blockQ (loopQ (fun i r m=>Qt0 G i (r 8) (r 7) (r 6) (r 3) m) (fun _ _=>rfl) (fun i0=>fun r m=>by kernel_rfl))) (fun r m=>by kernel_rfl)))) (fun r m=>by kernel_rfl))) (fun r m=>by kernel_rfl))) (fun r m=>by kernel_rfl)) m
def Q1rq:En:=⟨Q1dh,Tryz.f180,Tryz.func180,by kernel_rfl,arg1 Qz8,okarg1 Q1tm⟩
end
end Go.Ab.Sh
