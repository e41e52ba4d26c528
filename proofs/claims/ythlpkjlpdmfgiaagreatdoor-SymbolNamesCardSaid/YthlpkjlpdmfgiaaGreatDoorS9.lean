/-
  Functions of the program as plain definitions. No conditions.
-/
import Derived.Test.YthlpkjlpdmfgiaaGreatDoorAb5
import Derived.Test.YthlpkjlpdmfgiaaGreatDoorZ
import Derived.KernelRfl
import Derived.Test.YthlpkjlpdmfgiaaGreatDoorProg
set_option linter.unusedVariables false
set_option maxRecDepth 100000
namespace Go.Ab.Sh
open Go Go.Ab Go.Proofs
noncomputable section
def Q13j (G:Gt)(p0:V)(m:M):R:=
  bp (some (aNew Qx (Value.cells p0).toList m)) fun x0 m=>
  bp (pur (aLoad true 12 x0 m) m) fun x1 m=>
  bp (G.tab Q1ek [x1] m) fun x2 m=>
  bp (some (aNew Q1au Q1av m)) fun x3 m=>
  bp (unt (aStore 5 x3 x2 m)) fun _ m=>
  bp (pur (aFieldAddr 2 x0) m) fun x4 m=>
  bp (pur (aLoad false 1 x4 m) m) fun x5 m=>
  bp (pur (lenK 1 x5 m) m) fun x6 m=>
  bp (pur (aBuild Q55 [(0,1),(1,1),(2,1),(3,1)] [(0,(.string ⟨#[118,114,102]⟩)),(1,x6),(2,(.int .i64 256)),(3,(.func (.func Q1ll) ⟨[]⟩ ⟨[x0]⟩))]) m) fun x7 m=>
  bp (pur (aFieldAddr 3 x0) m) fun x8 m=>
  bp (pur (aLoad false 1 x8 m) m) fun x9 m=>
  bp (pur (lenK 1 x9 m) m) fun x10 m=>
  bp (pur (aBuild Q55 [(0,1),(1,1),(2,1),(3,1)] [(0,(.string ⟨#[105,102,97,99,101]⟩)),(1,x10),(2,(.int .i64 64)),(3,(.func (.func Q18s) ⟨[]⟩ ⟨[x3,x0]⟩))]) m) fun x11 m=>
  bp (pur (aFieldAddr 4 x0) m) fun x12 m=>
  bp (pur (aLoad false 1 x12 m) m) fun x13 m=>
  bp (pur (lenK 1 x13 m) m) fun x14 m=>
  bp (pur (aBuild Q55 [(0,1),(1,1),(2,1),(3,1)] [(0,(.string ⟨#[102,105,108,116,101,114]⟩)),(1,x14),(2,(.int .i64 256)),(3,(.func (.func Q1lm) ⟨[]⟩ ⟨[x0]⟩))]) m) fun x15 m=>
  bp (pur (aFieldAddr 5 x0) m) fun x16 m=>
  bp (pur (aLoad false 1 x16 m) m) fun x17 m=>
  bp (pur (lenK 1 x17 m) m) fun x18 m=>
  bp (pur (aBuild Q55 [(0,1),(1,1),(2,1),(3,1)] [(0,(.string ⟨#[114,101,119,114,105,116,101]⟩)),(1,x18),(2,(.int .i64 256)),(3,(.func (.func Q1ln) ⟨[]⟩ ⟨[x0,x3]⟩))]) m) fun x19 m=>
  bp (pur (aFieldAddr 6 x0) m) fun x20 m=>
  bp (pur (aLoad false 1 x20 m) m) fun x21 m=>
  bp (pur (lenK 1 x21 m) m) fun x22 m=>
  bp (pur (aBuild Q55 [(0,1),(1,1),(2,1),(3,1)] [(0,(.string ⟨#[115,116,97,116,105,99]⟩)),(1,x22),(2,(.int .i64 256)),(3,(.func (.func Q1lo) ⟨[]⟩ ⟨[x3,x0]⟩))]) m) fun x23 m=>
  bp (pur (aFieldAddr 7 x0) m) fun x24 m=>
  bp (pur (aLoad false 1 x24 m) m) fun x25 m=>
  bp (pur (lenK 1 x25 m) m) fun x26 m=>
  bp (pur (aBuild Q55 [(0,1),(1,1),(2,1),(3,1)] [(0,(.string ⟨#[112,114,101,102,105,120,101,115]⟩)),(1,x26),(2,(.int .i64 256)),(3,(.func (.func Q1lp) ⟨[]⟩ ⟨[x0]⟩))]) m) fun x27 m=>
  bp (pur (aFieldAddr 8 x0) m) fun x28 m=>
  bp (pur (aLoad false 1 x28 m) m) fun x29 m=>
  bp (pur (lenK 1 x29 m) m) fun x30 m=>
  bp (pur (aBuild Q55 [(0,1),(1,1),(2,1),(3,1)] [(0,(.string ⟨#[99,111,109,109,117,110,105,116,105,101,115]⟩)),(1,x30),(2,(.int .i64 256)),(3,(.func (.func Q1lq) ⟨[]⟩ ⟨[x0]⟩))]) m) fun x31 m=>
  bp (pur (aFieldAddr 9 x0) m) fun x32 m=>
  bp (pur (aLoad false 1 x32 m) m) fun x33 m=>
  bp (pur (lenK 1 x33 m) m) fun x34 m=>
  bp (pur (aBuild Q55 [(0,1),(1,1),(2,1),(3,1)] [(0,(.string ⟨#[112,111,108,105,99,121]⟩)),(1,x34),(2,(.int .i64 256)),(3,(.func (.func Q1lr) ⟨[]⟩ ⟨[x3,x0]⟩))]) m) fun x35 m=>
  bp (pur (aFieldAddr 10 x0) m) fun x36 m=>
  bp (pur (aLoad false 1 x36 m) m) fun x37 m=>
  bp (pur (lenK 1 x37 m) m) fun x38 m=>
  bp (pur (aBuild Q55 [(0,1),(1,1),(2,1),(3,1)] [(0,(.string ⟨#[111,115,112,102]⟩)),(1,x38),(2,(.int .i64 256)),(3,(.func (.func Q1ls) ⟨[]⟩ ⟨[x3,x0]⟩))]) m) fun x39 m=>
  bp (pur (aFieldAddr 11 x0) m) fun x40 m=>
  bp (pur (aLoad false 1 x40 m) m) fun x41 m=>
  bp (pur (lenK 1 x41 m) m) fun x42 m=>
  bp (pur (aBuild Q55 [(0,1),(1,1),(2,1),(3,1)] [(0,(.string ⟨#[98,103,112]⟩)),(1,x42),(2,(.int .i64 256)),(3,(.func (.func Q1k1) ⟨[]⟩ ⟨[x3,x0]⟩))]) m) fun x43 m=>
  bp (aBuildSlice Q1jp Q55 4 10 [(0,x7),(1,x11),(2,x15),(3,x19),(4,x23),(5,x27),(6,x31),(7,x35),(8,x39),(9,x43)] m) fun x44 m=>
  some (x44,m)
theorem Q1of (G:Gt)(a0:V)(m:M):ef G Tryz.f168 [a0] m = Q13j G a0 m:=
  evFn_of (r:=fun r m=>Q13j G (r 0) m) rfl rfl (fun r m=>by kernel_rfl) m
def Q1nx:En:=⟨Q1c8,Tryz.f168,Tryz.func168,by kernel_rfl,arg1 Q13j,okarg1 Q1of⟩
def Qrj (G:Gt)(p2:V)(m:M):R:=
  some (p2,m)
def Q14u (G:Gt)(p1:V)(m:M):R:=
  bp (pur (aFieldAddr 2 p1) m) fun x0 m=>
  bp (pur (aLoad false 1 x0 m) m) fun x1 m=>
  bp (pur (bin .neq true true .int x1 (.int .u32 0)) m) fun x2 m=>
  brb x2
  (Qrj G (.bool true) m)
  (bp (pur (aFieldAddr 3 p1) m) fun x3 m=>
  bp (pur (aLoad false 1 x3 m) m) fun x4 m=>
  bp (pur (bin .neq true true .int x4 (.int .i64 0)) m) fun x5 m=>
  Qrj G x5 m)
def Qwv (G:Gt)(p0:V)(m:M):R:=
  bp (some (aNew Q1r (Value.cells p0).toList m)) fun x6 m=>
  Q14u G x6 m
theorem Q1lt (G:Gt)(a0:V)(m:M):ef G Tryz.f170 [a0] m = Qwv G a0 m:=
  evFn_of (r:=fun r m=>Qwv G (r 0) m) rfl rfl (tr (seqQ (f:=fun r m=>Q14u G (r 1) m) (tr (seqQ (f:=fun r m=>Qrj G (r 2) m) (fun r m=>by kernel_rfl)) (fun r m=>by kernel_rfl))) (fun r m=>by kernel_rfl)) m
def Q1lc:En:=⟨Q18o,Tryz.f170,Tryz.func170,by kernel_rfl,arg1 Qwv,okarg1 Q1lt⟩
def Q1b0 (G:Gt)(p0:V)(m:M):R:=
  bp (some (aNew Qx (Value.cells p0).toList m)) fun x0 m=>
  bp (some (aNew Qx Q1b m)) fun x1 m=>
  bp (pur (aFieldAddr 2 x0) m) fun x2 m=>
  bp (pur (aLoad false 1 x2 m) m) fun x3 m=>
  bp (pur (aFieldAddr 3 x0) m) fun x4 m=>
  bp (pur (aLoad false 1 x4 m) m) fun x5 m=>
  bp (pur (aFieldAddr 5 x0) m) fun x6 m=>
  bp (pur (aLoad false 1 x6 m) m) fun x7 m=>
  bp (pur (aFieldAddr 6 x0) m) fun x8 m=>
  bp (pur (aLoad false 1 x8 m) m) fun x9 m=>
  bp (G.tab Qix [x3] m) fun x10 m=>
  ckB (again (pur (aLoad false 1 x4 m) m) x5 && (again (pur (aLoad false 1 x6 m) m) x7 && (again (pur (aLoad false 1 x8 m) m) x9 && true)))
  (bp (pur (aFieldAddr 2 x0) m) fun x11 m=>
  bp (G.tab Qct [x5] m) fun x12 m=>
  ckB (again (pur (aLoad false 1 x6 m) m) x7 && (again (pur (aLoad false 1 x8 m) m) x9 && true))
  (bp (G.tab Qay [x7] m) fun x13 m=>
  ckB (again (pur (aLoad false 1 x8 m) m) x9 && true)
  (bp (G.tab Qbr [x9] m) fun x14 m=>
  bp (unt (aStore 1 x11 x10 m)) fun _ m=>
  bp (pur (aFieldAddr 3 x0) m) fun x15 m=>
  bp (unt (aStore 1 x15 x12 m)) fun _ m=>
  bp (pur (aFieldAddr 5 x0) m) fun x16 m=>
  bp (unt (aStore 1 x16 x13 m)) fun _ m=>
  bp (pur (aFieldAddr 6 x0) m) fun x17 m=>
  bp (unt (aStore 1 x17 x14 m)) fun _ m=>
  bp (pur (aFieldAddr 4 x0) m) fun x18 m=>
  bp (pur (aLoad false 1 x18 m) m) fun x19 m=>
  bp (G.tab Qtz [x19,(.func (.func Q1pq) #[] #[])] m) fun x20 m=>
  bp (pur (aFieldAddr 4 x0) m) fun x21 m=>
  bp (unt (aStore 1 x21 x20 m)) fun _ m=>
  bp (pur (aFieldAddr 7 x0) m) fun x22 m=>
  bp (pur (aLoad false 1 x22 m) m) fun x23 m=>
  bp (G.tab Qmg [x23,(.func (.func Q1pr) #[] #[])] m) fun x24 m=>
  bp (pur (aFieldAddr 7 x0) m) fun x25 m=>
  bp (unt (aStore 1 x25 x24 m)) fun _ m=>
  bp (pur (aFieldAddr 8 x0) m) fun x26 m=>
  bp (pur (aLoad false 1 x26 m) m) fun x27 m=>
  bp (G.tab Qit [x27,(.func (.func Q1ps) #[] #[])] m) fun x28 m=>
  bp (pur (aFieldAddr 8 x0) m) fun x29 m=>
  bp (unt (aStore 1 x29 x28 m)) fun _ m=>
  bp (pur (aFieldAddr 9 x0) m) fun x30 m=>
  bp (pur (aLoad false 1 x30 m) m) fun x31 m=>
  bp (G.tab Qu0 [x31,(.func (.func Q1pt) #[] #[])] m) fun x32 m=>
  bp (pur (aFieldAddr 9 x0) m) fun x33 m=>
  bp (unt (aStore 1 x33 x32 m)) fun _ m=>
  bp (pur (aFieldAddr 10 x0) m) fun x34 m=>
  bp (pur (aLoad false 1 x34 m) m) fun x35 m=>
  bp (G.tab Qy1 [x35,(.func (.func Q1pu) #[] #[])] m) fun x36 m=>
  bp (pur (aFieldAddr 10 x0) m) fun x37 m=>
  bp (unt (aStore 1 x37 x36 m)) fun _ m=>
  bp (pur (aFieldAddr 11 x0) m) fun x38 m=>
  bp (pur (aLoad false 1 x38 m) m) fun x39 m=>
  bp (G.tab Q11a [x39,(.func (.func Q1pv) #[] #[])] m) fun x40 m=>
  bp (pur (aFieldAddr 11 x0) m) fun x41 m=>
  bp (unt (aStore 1 x41 x40 m)) fun _ m=>
  bp (pur (aLoad true 12 x0 m) m) fun x42 m=>
  bp (unt (aStore 12 x1 x42 m)) fun _ m=>
  ob (ob (aLoad true 12 x1 m) fun v=>ob (some []) fun l=>some (v :: l)) fun l=>some (resVal l,m))))
theorem Q1sq (G:Gt)(a0:V)(m:M):ef G Tryz.f171 [a0] m = Q1b0 G a0 m:=
  evFn_of (r:=fun r m=>Q1b0 G (r 0) m) rfl rfl (fun r m=>by kernel_rfl) m
def Q1sa:En:=⟨Q1jq,Tryz.f171,Tryz.func171,by kernel_rfl,arg1 Q1b0,okarg1 Q1sq⟩
def Qbh (G:Gt)(p0:V)(m:M):R:=
  bp (pur (lenK 1 p0 m) m) fun x0 m=>
  bp (conv (.int .u64) x0 m) fun x1 m=>
  bp (G.tab Qb3 [x1] m) fun x2 m=>
  bp (G.tab Q59 [p0,(.int .i64 0),x0,x2] m) fun x3 m=>
  some (.tuple ⟨[]⟩,m)
theorem Q13k (G:Gt)(a0:V)(m:M):ef G Tryz.f172 [a0] m = Qbh G a0 m:=
  evFn_of (r:=fun r m=>Qbh G (r 0) m) rfl rfl (fun r m=>by kernel_rfl) m
def Q12i:En:=⟨Qjz,Tryz.f172,Tryz.func172,by kernel_rfl,arg1 Qbh,okarg1 Q13k⟩
def Qgs (G:Gt)(p1 p0:V)(m:M):R:=
  bp (some (aNew Qz6 (Value.cells p1).toList m)) fun x0 m=>
  bp (G.tab Q7a [p0,(.func (.func Qo6) ⟨[]⟩ ⟨[x0]⟩)] m) fun x1 m=>
  some (.tuple ⟨[]⟩,m)
theorem Q19f (G:Gt)(a0 a1:V)(m:M):ef G Tryz.f173 [a0,a1] m = Qgs G a1 a0 m:=
  evFn_of (r:=fun r m=>Qgs G (r 1) (r 0) m) rfl rfl (fun r m=>by kernel_rfl) m
def Q193:En:=⟨Qsu,Tryz.f173,Tryz.func173,by kernel_rfl,arg2 (fun G a0 a1 m=>Qgs G a1 a0 m),okarg2 Q19f⟩
def Q13l (G:Gt)(p0:V)(m:M):R:=
  bp (some (aNew Q1r (Value.cells p0).toList m)) fun x0 m=>
  bp (pur (aFieldAddr 0 x0) m) fun x1 m=>
  bp (pur (aLoad false 1 x1 m) m) fun x2 m=>
  some (x2,m)
theorem Q1og (G:Gt)(a0:V)(m:M):ef G Tryz.f174 [a0] m = Q13l G a0 m:=
  evFn_of (r:=fun r m=>Q13l G (r 0) m) rfl rfl (fun r m=>by kernel_rfl) m
def Q1o1:En:=⟨Q12z,Tryz.f174,Tryz.func174,by kernel_rfl,arg1 Q13l,okarg1 Q1og⟩
def Qfh (G:Gt)(p1 p0:V)(m:M):R:=
  bp (some (aNew Q1bq (Value.cells p1).toList m)) fun x0 m=>
  bp (G.tab Q6a [p0,(.func (.func Q15p) ⟨[]⟩ ⟨[x0]⟩)] m) fun x1 m=>
  some (.tuple ⟨[]⟩,m)
theorem Q184 (G:Gt)(a0 a1:V)(m:M):ef G Tryz.f175 [a0,a1] m = Qfh G a1 a0 m:=
  evFn_of (r:=fun r m=>Qfh G (r 1) (r 0) m) rfl rfl (fun r m=>by kernel_rfl) m
def Q17k:En:=⟨Qpz,Tryz.f175,Tryz.func175,by kernel_rfl,arg2 (fun G a0 a1 m=>Qfh G a1 a0 m),okarg2 Q184⟩
def Qbi (G:Gt)(p1 p0:V)(m:M):R:=
  bp (some (aNew Q17d (Value.cells p1).toList m)) fun x0 m=>
  let x1:V:=(.func (.func Q10i) ⟨[]⟩ ⟨[x0]⟩)
  bp (G.tab Q43 [p0,x1] m) fun x2 m=>
  some (.tuple ⟨[]⟩,m)
theorem Q13m (G:Gt)(a0 a1:V)(m:M):ef G Tryz.f177 [a0,a1] m = Qbi G a1 a0 m:=
  evFn_of (r:=fun r m=>Qbi G (r 1) (r 0) m) rfl rfl (fun r m=>by kernel_rfl) m
def Q12e:En:=⟨Qk0,Tryz.f177,Tryz.func177,by kernel_rfl,arg2 (fun G a0 a1 m=>Qbi G a1 a0 m),okarg2 Q13m⟩
def Q8h (G:Gt)(p1 p0:V)(m:M):R:=
  bp (some (aNew Q13n (Value.cells p1).toList m)) fun x0 m=>
  let x1:V:=(.func (.func Qv5) ⟨[]⟩ ⟨[x0]⟩)
  bp (G.tab Q32 [p0,x1] m) fun x2 m=>
  some (.tuple ⟨[]⟩,m)
theorem Qz7 (G:Gt)(a0 a1:V)(m:M):ef G Tryz.f179 [a0,a1] m = Q8h G a1 a0 m:=
  evFn_of (r:=fun r m=>Q8h G (r 1) (r 0) m) rfl rfl (fun r m=>by kernel_rfl) m
def Qx6:En:=⟨Qgv,Tryz.f179,Tryz.func179,by kernel_rfl,arg2 (fun G a0 a1 m=>Q8h G a1 a0 m),okarg2 Qz7⟩
def Qfi (G:Gt)(p1 p0:V)(m:M):R:=
  bp (some (aNew Q1br (Value.cells p1).toList m)) fun x0 m=>
  bp (G.tab Q6b [p0,(.func (.func Q15q) ⟨[]⟩ ⟨[x0]⟩)] m) fun x1 m=>
  some (.tuple ⟨[]⟩,m)
theorem Q185 (G:Gt)(a0 a1:V)(m:M):ef G Tryz.f181 [a0,a1] m = Qfi G a1 a0 m:=
  evFn_of (r:=fun r m=>Qfi G (r 1) (r 0) m) rfl rfl (fun r m=>by kernel_rfl) m
def Q17m:En:=⟨Qq0,Tryz.f181,Tryz.func181,by kernel_rfl,arg2 (fun G a0 a1 m=>Qfi G a1 a0 m),okarg2 Q185⟩
def Q2v (G:Gt)(p0 p1:V)(m:M):R:=
  bp (pur (lenK 1 p0 m) m) fun x0 m=>
  bp (G.tab Qfp [p0,x0,p1] m) fun x1 m=>
  some (.tuple ⟨[]⟩,m)
theorem Qih (G:Gt)(a0 a1:V)(m:M):ef G Tryz.f183 [a0,a1] m = Q2v G a0 a1 m:=
  evFn_of (r:=fun r m=>Q2v G (r 0) (r 1) m) rfl rfl (fun r m=>by kernel_rfl) m
def Qhe:En:=⟨Q68,Tryz.f183,Tryz.func183,by kernel_rfl,arg2 Q2v,okarg2 Qih⟩
def Q2w (G:Gt)(p0 p1:V)(m:M):R:=
  bp (pur (lenK 1 p0 m) m) fun x0 m=>
  bp (G.tab Qfq [p0,x0,p1] m) fun x1 m=>
  some (.tuple ⟨[]⟩,m)
theorem Qii (G:Gt)(a0 a1:V)(m:M):ef G Tryz.f185 [a0,a1] m = Q2w G a0 a1 m:=
  evFn_of (r:=fun r m=>Q2w G (r 0) (r 1) m) rfl rfl (fun r m=>by kernel_rfl) m
def Qhh:En:=⟨Q69,Tryz.f185,Tryz.func185,by kernel_rfl,arg2 Q2w,okarg2 Qii⟩
def Qcl (G:Gt)(p0 p1 p2:V)(m:M):R:=
  bp (some (aNew Qx (Value.cells p0).toList m)) fun x0 m=>
  bp (some (aNew Qx (Value.cells p1).toList m)) fun x1 m=>
  bp (pur (aLoad false 1 p2 m) m) fun x2 m=>
  bp (pur (aLoad true 12 x0 m) m) fun x3 m=>
  bp (pur (aLoad false 1 p2 m) m) fun x4 m=>
  bp (pur (aLoad true 12 x1 m) m) fun x5 m=>
  bp (evCall G.tab x2 [x3] m) fun x6 m=>
  ckB (again (pur (aLoad false 1 p2 m) m) x4 && (again (pur (aLoad true 12 x1 m) m) x5 && true))
  (bp (evCall G.tab x4 [x5] m) fun x7 m=>
  bp (G.tab Qwn [x6,x7] m) fun x8 m=>
  some (x8,m))
theorem Q15r (G:Gt)(a0 a1 a2:V)(m:M):ef G Tryz.f186 [a0,a1,a2] m = Qcl G a0 a1 a2 m:=
  evFn_of (r:=fun r m=>Qcl G (r 0) (r 1) (r 2) m) rfl rfl (fun r m=>by kernel_rfl) m
def Q15a:En:=⟨Qmf,Tryz.f186,Tryz.func186,by kernel_rfl,arg3 Qcl,okarg3 Q15r⟩
def Qww (G:Gt)(p0 p1:V)(m:M):R:=
  bp (G.tab Qhu [p0,p1] m) fun x0 m=>
  some (x0,m)
theorem Q1lu (G:Gt)(a0 a1:V)(m:M):ef G Tryz.f187 [a0,a1] m = Qww G a0 a1 m:=
  evFn_of (r:=fun r m=>Qww G (r 0) (r 1) m) rfl rfl (fun r m=>by kernel_rfl) m
def Q1l8:En:=⟨Qwn,Tryz.f187,Tryz.func187,by kernel_rfl,arg2 Qww,okarg2 Q1lu⟩
def Q186 (G:Gt)(p0:V)(m:M):R:=
  bp (pur (bin .sub true true .int (.int .i64 32) p0) m) fun x0 m=>
  bp (pur (bin .shl true true .int (.int .u64 1) x0) m) fun x1 m=>
  bp (pur (bin .sub true true .int x1 (.int .u64 1)) m) fun x2 m=>
  bp (conv (.int .u32) x2 m) fun x3 m=>
  some (x3,m)
theorem Q1rc (G:Gt)(a0:V)(m:M):ef G Tryz.f188 [a0] m = Q186 G a0 m:=
  evFn_of (r:=fun r m=>Q186 G (r 0) m) rfl rfl (fun r m=>by kernel_rfl) m
def Q1qz:En:=⟨Q17w,Tryz.f188,Tryz.func188,by kernel_rfl,arg1 Q186,okarg1 Q1rc⟩
def Q46 (G:Gt)(p0 p1:V)(m:M):R:=
  bp (pur (lenK 1 p0 m) m) fun x0 m=>
  bp (conv (.int .u64) x0 m) fun x1 m=>
  bp (G.tab Qb3 [x1] m) fun x2 m=>
  bp (G.tab Q3n [p0,(.int .i64 0),x0,x2,p1] m) fun x3 m=>
  some (.tuple ⟨[]⟩,m)
theorem Qn6 (G:Gt)(a0 a1:V)(m:M):ef G Tryz.f191 [a0,a1] m = Q46 G a0 a1 m:=
  evFn_of (r:=fun r m=>Q46 G (r 0) (r 1) m) rfl rfl (fun r m=>by kernel_rfl) m
def Qm7:En:=⟨Qah,Tryz.f191,Tryz.func191,by kernel_rfl,arg2 Q46,okarg2 Qn6⟩
def Q1g4 (G:Gt)(p0 p1:V)(m:M):R:=
  bp (some (aNew Q66 (Value.cells p0).toList m)) fun x0 m=>
  bp (some (aNew Q66 (Value.cells p1).toList m)) fun x1 m=>
  bp (pur (aFieldAddr 0 x0) m) fun x2 m=>
  bp (pur (aLoad false 1 x2 m) m) fun x3 m=>
  bp (pur (aFieldAddr 0 x1) m) fun x4 m=>
  bp (pur (aLoad false 1 x4 m) m) fun x5 m=>
  bp (pur (aFieldAddr 1 x0) m) fun x6 m=>
  bp (pur (aLoad false 1 x6 m) m) fun x7 m=>
  bp (pur (aFieldAddr 1 x1) m) fun x8 m=>
  bp (pur (aLoad false 1 x8 m) m) fun x9 m=>
  bp (G.tab Qvl [x3,x5] m) fun x10 m=>
  ckB (again (pur (aLoad false 1 x6 m) m) x7 && (again (pur (aLoad false 1 x8 m) m) x9 && true))
  (bp (G.tab Qtw [x7,x9] m) fun x11 m=>
  bp (aBuildSlice Q7o [(.int .i64 0)] 1 2 [(0,x10),(1,x11)] m) fun x12 m=>
  bp (G.tab Q1gq [x12] m) fun x13 m=>
  some (x13,m))
theorem Q1uz (G:Gt)(a0 a1:V)(m:M):ef G Tryz.f192 [a0,a1] m = Q1g4 G a0 a1 m:=
  evFn_of (r:=fun r m=>Q1g4 G (r 0) (r 1) m) rfl rfl (fun r m=>by kernel_rfl) m
def Q1uw:En:=⟨Q1oh,Tryz.f192,Tryz.func192,by kernel_rfl,arg2 Q1g4,okarg2 Q1uz⟩
end
end Go.Ab.Sh

set_option linter.unusedVariables false
set_option maxRecDepth 100000
namespace Go.Ab.Sh
open Go Go.Ab Go.Proofs
noncomputable section
def Q90 (G:Gt)(p0:V)(m:M):R:=
  some (p0,m)
def Q91 (G:Gt)(p0 p3:V)(m:M):R:=
  bp (pur (aSliceSl 2 p0 (some p3) none) m) fun x0 m=>
  bp (unt (aClear Q2p 2 x0 m)) fun _ m=>
  bp (pur (aSliceSl 2 p0 none (some p3)) m) fun x1 m=>
  some (x1,m)
def Q3j (G:Gt)(k1:V → V → V → V → M → R)(p5 p4 p0 p3:V)(m:M):R:=
  bp (pur (bin .add true true .int p5 (.int .i64 1)) m) fun x2 m=>
  k1 x2 p4 p0 p3 m
def Q8i (G:Gt)(k1:V → V → V → V → M → R)(p4 p5 p0 p3:V)(m:M):R:=
  bp (pur (aIndexAddrSl 2 p4 p5) m) fun x3 m=>
  bp (pur (aLoad true 2 x3 m) m) fun x4 m=>
  bp (pur (bin .sub true true .int p5 (.int .i64 1)) m) fun x5 m=>
  bp (pur (aIndexAddrSl 2 p4 x5) m) fun x6 m=>
  bp (pur (aLoad true 2 x6 m) m) fun x7 m=>
  bp (pur (bin .neq false true (.struct [(0,1,false,.int),(1,1,false,.int)]) x4 x7) m) fun x8 m=>
  brb x8
  (bp (pur (aIndexAddrSl 2 p4 p5) m) fun x9 m=>
  bp (pur (aLoad true 2 x9 m) m) fun x10 m=>
  bp (pur (aIndexAddrSl 2 p0 p3) m) fun x11 m=>
  bp (unt (aStore 2 x11 x10 m)) fun _ m=>
  bp (pur (bin .add true true .int p3 (.int .i64 1)) m) fun x12 m=>
  Q3j G k1 p5 p4 p0 x12 m)
  (Q3j G k1 p5 p4 p0 p3 m)
def Q1e (G:Gt):Nat → V → V → V → V → M → R
 | 0,_,_,_,_,_=>none
 | i + 1,p5,p4,p0,p3,m=>
  bp (pur (lenK 1 p4 m) m) fun x13 m=>
  bp (pur (bin .lss false true .int p5 x13) m) fun x14 m=>
  brb x14
  (Q8i G (Q1e G i) p4 p5 p0 p3 m)
  (Q91 G p0 p3 m)
def Q92 (G:Gt)(p5 p4 p0 p3:V)(m:M):R:=
  Q1e G G.rds p5 p4 p0 p3 m
def Q93 (G:Gt)(p4 p0 p3:V)(m:M):R:=
  Q92 G (.int .i64 1) p4 p0 p3 m
def Q94 (G:Gt)(k0:V → V → M → R)(p25 p0 p3:V)(m:M):R:=
  brb p25
  (bp (pur (aSliceSl 2 p0 (some p3) none) m) fun x15 m=>
  Q93 G x15 p0 p3 m)
  (bp (pur (bin .add true true .int p3 (.int .i64 1)) m) fun x16 m=>
  k0 x16 p0 m)
def Q95 (G:Gt)(k0:V → V → M → R)(p0 p3:V)(m:M):R:=
  bp (pur (aIndexAddrSl 2 p0 p3) m) fun x17 m=>
  bp (pur (aLoad true 2 x17 m) m) fun x18 m=>
  bp (pur (bin .sub true true .int p3 (.int .i64 1)) m) fun x19 m=>
  bp (pur (aIndexAddrSl 2 p0 x19) m) fun x20 m=>
  bp (pur (aLoad true 2 x20 m) m) fun x21 m=>
  bp (pur (bin .eql false true (.struct [(0,1,false,.int),(1,1,false,.int)]) x18 x21) m) fun x22 m=>
  Q94 G k0 x22 p0 p3 m
def Q1g (G:Gt):Nat → V → V → M → R
 | 0,_,_,_=>none
 | i + 1,p3,p0,m=>
  bp (pur (lenK 1 p0 m) m) fun x23 m=>
  bp (pur (bin .lss false true .int p3 x23) m) fun x24 m=>
  brb x24
  (Q95 G (Q1g G i) p0 p3 m)
  (Q90 G p0 m)
def Q96 (G:Gt)(p3 p0:V)(m:M):R:=
  Q1g G G.rds p3 p0 m
def Q97 (G:Gt)(p0:V)(m:M):R:=
  Q96 G (.int .i64 1) p0 m
def Q98 (G:Gt)(p0:V)(m:M):R:=
  bp (pur (lenK 1 p0 m) m) fun x25 m=>
  bp (pur (bin .lss true true .int x25 (.int .i64 2)) m) fun x26 m=>
  brb x26
  (some (p0,m))
  (Q97 G p0 m)
def Q4h (G:Gt)(p0:V)(m:M):R:=
  Q98 G p0 m
theorem Qnr (G:Gt)(a0:V)(m:M):ef G Tryz.f193 [a0] m = Q4h G a0 m:=
  evFn_of (r:=fun r m=>Q4h G (r 0) m) rfl rfl (tr (seqQ (f:=fun r m=>Q98 G (r 0) m) (tr (seqQ (f:=fun r m=>Q97 G (r 0) m) (tr (tr (seqQ (f:=fun r m=>Q90 G (r 0) m) (fun r m=>by kernel_rfl)) (seqQ (f:=fun r m=>Q96 G (r 3) (r 0) m) (tr (blockQ (loopQ (fun i r m=>Q1g G i (r 3) (r 0) m) (fun _ _=>rfl) (fun i0=>tr (seqQ (f:=fun r m=>Q95 G (Q1g G i0) (r 0) (r 3) m) (tr (tr seqD (blockQ (seqQ (f:=fun r m=>Q94 G (Q1g G i0) (r 25) (r 0) (r 3) m) (tr (condQ (seqQ (f:=fun r m=>Q93 G (r 4) (r 0) (r 3) m) (tr (tr (seqQ (f:=fun r m=>Q91 G (r 0) (r 3) m) (fun r m=>by kernel_rfl)) (seqQ (f:=fun r m=>Q92 G (r 5) (r 4) (r 0) (r 3) m) (tr (blockQ (loopQ (fun i r m=>Q1e G i (r 5) (r 4) (r 0) (r 3) m) (fun _ _=>rfl) (fun i1=>tr (seqQ (f:=fun r m=>Q8i G (Q1e G i1) (r 4) (r 5) (r 0) (r 3) m) (tr (seqQ (f:=fun r m=>Q3j G (Q1e G i1) (r 5) (r 4) (r 0) (r 3) m) (fun r m=>by kernel_rfl)) (fun r m=>by kernel_rfl))) (fun r m=>by kernel_rfl)))) (fun r m=>by kernel_rfl)))) (fun r m=>by kernel_rfl))) (refQ)) (fun r m=>by kernel_rfl))))) (fun r m=>by kernel_rfl))) (fun r m=>by kernel_rfl)))) (fun r m=>by kernel_rfl)))) (fun r m=>by kernel_rfl))) (fun r m=>by kernel_rfl))) (fun r m=>by kernel_rfl)) m
def Qng:En:=⟨Qaz,Tryz.f193,Tryz.func193,by kernel_rfl,arg1 Q4h,okarg1 Qnr⟩
def Q1k2 (G:Gt)(p0 p1:V)(m:M):R:=
  bp (some (aNew Q1rd (Value.cells p0).toList m)) fun x0 m=>
  bp (some (aNew Qh7 (Value.cells p1).toList m)) fun x1 m=>
  bp (pur (aFieldAddr 8 x1) m) fun x2 m=>
  bp (pur (aLoad false 1 x2 m) m) fun x3 m=>
  brb x3
  (some ((.slice none 0 0),m))
  (bp (pur (aFieldAddr 6 x1) m) fun x4 m=>
  bp (pur (aLoad false 1 x4 m) m) fun x5 m=>
  bp (pur (bin .neq true true .str x5 (.string ⟨#[]⟩)) m) fun x6 m=>
  brb x6
  (bp (pur (aFieldAddr 6 x1) m) fun x7 m=>
  bp (pur (aLoad false 1 x7 m) m) fun x8 m=>
  bp (pur (aFieldAddr 7 x1) m) fun x9 m=>
  bp (pur (aLoad false 1 x9 m) m) fun x10 m=>
  bp (pur (aBuild Q16b [(0,1),(1,1)] [(0,x8),(1,x10)]) m) fun x11 m=>
  bp (aBuildSlice Q10r Q16b 2 1 [(0,x11)] m) fun x12 m=>
  some (x12,m))
  (bp (some (aNew Q1tu [(.slice none 0 0)] m)) fun x13 m=>
  bp (some (aMakeMap m)) fun x14 m=>
  bp (some (aNew Q1ih [(.map none)] m)) fun x15 m=>
  bp (unt (aStore 1 x15 x14 m)) fun _ m=>
  bp (some (aNew Q1oi [.nilFunc] m)) fun x16 m=>
  bp (unt (aStore 1 x16 (.func (.func Q1tv) ⟨[]⟩ ⟨[x15,x0,x16,x13]⟩) m)) fun _ m=>
  bp (pur (aLoad false 1 x16 m) m) fun x17 m=>
  bp (pur (aLoad true 9 x1 m) m) fun x18 m=>
  bp (evCall G.tab x17 [x18] m) fun x19 m=>
  bp (pur (aLoad false 1 x13 m) m) fun x20 m=>
  bp (G.tab Q1b1 [x20] m) fun x21 m=>
  some (x21,m)))
theorem Q1w9 (G:Gt)(a0 a1:V)(m:M):ef G Tryz.f194 [a0,a1] m = Q1k2 G a0 a1 m:=
  evFn_of (r:=fun r m=>Q1k2 G (r 0) (r 1) m) rfl rfl (fun r m=>by kernel_rfl) m
def Q1w4:En:=⟨Q1qa,Tryz.f194,Tryz.func194,by kernel_rfl,arg2 Q1k2,okarg2 Q1w9⟩
def Q1b2 (G:Gt)(p0:V)(m:M):R:=
  bp (G.tab Qdz [p0,(.func (.func Q1pw) #[] #[])] m) fun x0 m=>
  bp (G.tab Qf1 [p0] m) fun x1 m=>
  some (x1,m)
theorem Q1sr (G:Gt)(a0:V)(m:M):ef G Tryz.f195 [a0] m = Q1b2 G a0 m:=
  evFn_of (r:=fun r m=>Q1b2 G (r 0) m) rfl rfl (fun r m=>by kernel_rfl) m
def Q1s8:En:=⟨Q1b1,Tryz.f195,Tryz.func195,by kernel_rfl,arg1 Q1b2,okarg1 Q1sr⟩
def Qrb (G:Gt)(p2 p1:V)(m:M):R:=
  bp (pur (aLoad false 1 p2 m) m) fun x0 m=>
  bp (pur (aNilCheck x0) m) fun x1 m=>
  bp (pur (aFieldAddr 5 x1) m) fun x2 m=>
  bp (pur (aLoad false 1 x2 m) m) fun x3 m=>
  bp (conv (.int .i64) p1 m) fun x4 m=>
  bp (unt (aMapUpdate .int x3 x4 (.bool true) m)) fun _ m=>
  bp (conv (.int .i64) p1 m) fun x5 m=>
  some (.tuple ⟨[x5,(.int .i64 0)]⟩,m)
def Q7x (G:Gt):Nat → V → V → V → V → V → M → R
 | 0,_,_,_,_,_,_=>none
 | i + 1,p32,p31,p30,p2,p1,m=>
  bp (pur (bin .lss false true .int p32 p31) m) fun x6 m=>
  brb x6
  (bp (pur (aIndexAddrSl 1 p30 p32) m) fun x7 m=>
  bp (pur (aLoad false 1 x7 m) m) fun x8 m=>
  bp (pur (aLoad false 1 p2 m) m) fun x9 m=>
  bp (pur (aNilCheck x9) m) fun x10 m=>
  bp (pur (aFieldAddr 6 x10) m) fun x11 m=>
  bp (pur (aLoad false 1 x11 m) m) fun x12 m=>
  bp (unt (aMapUpdate .int x12 x8 (.bool true) m)) fun _ m=>
  bp (pur (bin .add true true .int p32 (.int .i64 1)) m) fun x13 m=>
  (Q7x G i) x13 p31 p30 p2 p1 m)
  (Qrb G p2 p1 m)
def Qrh (G:Gt)(p32 p31 p30 p2 p1:V)(m:M):R:=
  Q7x G G.rds p32 p31 p30 p2 p1 m
def Qrg (G:Gt)(p6 p2 p1:V)(m:M):R:=
  bp (pur (aLoad false 1 p6 m) m) fun x14 m=>
  bp (pur (lenK 1 x14 m) m) fun x15 m=>
  Qrh G (.int .i64 0) x15 x14 p2 p1 m
def Qrf (G:Gt)(p2 p6 p1:V)(m:M):R:=
  bp (pur (aLoad false 1 p2 m) m) fun x16 m=>
  bp (pur (aNilCheck x16) m) fun x17 m=>
  bp (pur (aFieldAddr 6 x17) m) fun x18 m=>
  bp (pur (aLoad false 1 x18 m) m) fun x19 m=>
  bp (pur (lenK 2 x19 m) m) fun x20 m=>
  bp (pur (aLoad false 1 p6 m) m) fun x21 m=>
  bp (pur (lenK 1 x21 m) m) fun x22 m=>
  bp (pur (bin .add false true .int x20 x22) m) fun x23 m=>
  bp (pur (aLoad false 1 p2 m) m) fun x24 m=>
  bp (pur (aNilCheck x24) m) fun x25 m=>
  bp (pur (aFieldAddr 1 x25) m) fun x26 m=>
  bp (pur (aLoad false 1 x26 m) m) fun x27 m=>
  bp (pur (bin .gtr false true .int x23 x27) m) fun x28 m=>
  brb x28
  (some (.tuple ⟨[(.int .i64 0),(.int .i64 3)]⟩,m))
  (Qrg G p6 p2 p1 m)
def Qre (G:Gt)(p8 p1 p2 p6:V)(m:M):R:=
  bp (pur (aLoad false 1 p8 m) m) fun x29 m=>
  bp (evCall G.tab x29 [p1] m) fun x30 m=>
  Qrf G p2 p6 p1 m
def Qrd (G:Gt)(p7 p2 p6 p8 p1:V)(m:M):R:=
  bp (unt (aStore 1 p8 (.func (.func Q1z) ⟨[]⟩ ⟨[p7,p2,p6,p8]⟩) m)) fun _ m=>
  Qre G p8 p1 p2 p6 m
def Qrc (G:Gt)(p7 p2 p6 p1:V)(m:M):R:=
  bp (some (aNew Q160 [.nilFunc] m)) fun x31 m=>
  Qrd G p7 p2 p6 x31 p1 m
def Qip (G:Gt)(p2 p6 p1:V)(m:M):R:=
  bp (some (aMakeMap m)) fun x32 m=>
  bp (unt (aMapUpdate .int x32 (.int .i32 0) (.bool true) m)) fun _ m=>
  bp (unt (aMapUpdate .int x32 (.int .i32 1) (.bool true) m)) fun _ m=>
  bp (some (aNew Qp9 [(.map none)] m)) fun x33 m=>
  bp (unt (aStore 1 x33 x32 m)) fun _ m=>
  Qrc G x33 p2 p6 p1 m
def Qc9 (G:Gt)(p2 p1:V)(m:M):R:=
  bp (some (aNew Q11q [(.slice none 0 0)] m)) fun x34 m=>
  Qip G p2 x34 p1 m
def Q41 (G:Gt)(p0 p1:V)(m:M):R:=
  bp (some (aNew Q2f (Value.cells p0).toList m)) fun x35 m=>
  Qc9 G x35 p1 m
theorem Q1lv (G:Gt)(a0 a1:V)(m:M):ef G Tryz.f196 [a0,a1] m = Q41 G a0 a1 m:=
  evFn_of (r:=fun r m=>Q41 G (r 0) (r 1) m) rfl rfl (tr (seqQ (f:=fun r m=>Qc9 G (r 2) (r 1) m) (tr (seqQ (f:=fun r m=>Qip G (r 2) (r 6) (r 1) m) (tr (seqQ (f:=fun r m=>Qrc G (r 7) (r 2) (r 6) (r 1) m) (tr (seqQ (f:=fun r m=>Qrd G (r 7) (r 2) (r 6) (r 8) (r 1) m) (tr (seqQ (f:=fun r m=>Qre G (r 8) (r 1) (r 2) (r 6) m) (tr (seqQ (f:=fun r m=>Qrf G (r 2) (r 6) (r 1) m) (tr (seqQ (f:=fun r m=>Qrg G (r 6) (r 2) (r 1) m) (tr (tr (seqQ (f:=fun r m=>Qrb G (r 2) (r 1) m) (fun r m=>by kernel_rfl)) (seqQ (f:=fun r m=>Qrh G (r 32) (r 31) (r 30) (r 2) (r 1) m) (tr (blockQ (loopQ (fun i r m=>Q7x G i (r 32) (r 31) (r 30) (r 2) (r 1) m) (fun _ _=>rfl) (fun i0=>fun r m=>by kernel_rfl))) (fun r m=>by kernel_rfl)))) (fun r m=>by kernel_rfl))) (fun r m=>by kernel_rfl))) (fun r m=>by kernel_rfl))) (fun r m=>by kernel_rfl))) (fun r m=>by kernel_rfl))) (fun r m=>by kernel_rfl))) (fun r m=>by kernel_rfl))) (fun r m=>by kernel_rfl)) m
def Qwh:En:=⟨Q5c,Tryz.f196,Tryz.func196,by kernel_rfl,arg2 Q41,okarg2 Q1lv⟩
def Qft (G:Gt)(p10:V)(m:M):R:=
  some (p10,m)
def Qm4 (G:Gt)(p11 p0 p9 p10:V)(m:M):R:=
  bp (pur (un .not p11) m) fun x0 m=>
  brb x0
  (bp (pur (aNilCheck p0) m) fun x1 m=>
  bp (pur (aFieldAddr 2 x1) m) fun x2 m=>
  bp (pur (aLoad false 1 x2 m) m) fun x3 m=>
  bp (pur (lenK 1 x3 m) m) fun x4 m=>
  bp (conv (.int .i32) x4 m) fun x5 m=>
  bp (pur (aNilCheck p0) m) fun x6 m=>
  bp (pur (aFieldAddr 2 x6) m) fun x7 m=>
  bp (pur (aLoad false 1 x7 m) m) fun x8 m=>
  bp (pur (aLoad true 3 p9 m) m) fun x9 m=>
  bp (aBuildSlice Qu Q8m 3 1 [(0,x9)] m) fun x10 m=>
  bp (apS Qu 3 12 x8 x10 m) fun x11 m=>
  bp (pur (aNilCheck p0) m) fun x12 m=>
  bp (pur (aFieldAddr 2 x12) m) fun x13 m=>
  bp (unt (aStore 1 x13 x11 m)) fun _ m=>
  bp (pur (aNilCheck p0) m) fun x14 m=>
  bp (pur (aFieldAddr 3 x14) m) fun x15 m=>
  bp (pur (aLoad false 1 x15 m) m) fun x16 m=>
  bp (pur (aLoad true 3 p9 m) m) fun x17 m=>
  bp (unt (aMapUpdate (.struct [(0,1,false,.int),(1,1,false,.int),(2,1,false,.int)]) x16 x17 x5 m)) fun _ m=>
  Qft G x5 m)
  (Qft G p10 m)
def Qm3 (G:Gt)(p0 p9:V)(m:M):R:=
  bp (pur (aNilCheck p0) m) fun x18 m=>
  bp (pur (aFieldAddr 3 x18) m) fun x19 m=>
  bp (pur (aLoad false 1 x19 m) m) fun x20 m=>
  bp (pur (aLoad true 3 p9 m) m) fun x21 m=>
  bp (pur (aLookup (.struct [(0,1,false,.int),(1,1,false,.int),(2,1,false,.int)]) (.int .i32 0) true x20 x21 m) m) fun x22 m=>
  bp (pur (aExtract x22 0) m) fun x23 m=>
  bp (pur (aExtract x22 1) m) fun x24 m=>
  Qm4 G x24 p0 p9 x23 m
def Qm2 (G:Gt)(p1 p2 p3 p0:V)(m:M):R:=
  bp (pur (aBuild Q8m [(0,1),(1,1),(2,1)] [(0,p1),(1,p2),(2,p3)]) m) fun x25 m=>
  bp (some (aNew Qu Q8m m)) fun x26 m=>
  bp (unt (aStore 3 x26 x25 m)) fun _ m=>
  Qm3 G p0 x26 m
def Qfs (G:Gt)(p2 p3 p1 p0:V)(m:M):R:=
  bp (pur (bin .eql false true .int p2 p3) m) fun x27 m=>
  brb x27
  (some (p2,m))
  (Qm2 G p1 p2 p3 p0 m)
def Q49 (G:Gt)(p2 p3 p1 p0:V)(m:M):R:=
  Qfs G p2 p3 p1 p0 m
theorem Q1oj (G:Gt)(a0 a1 a2 a3:V)(m:M):ef G Tryz.f197 [a0,a1,a2,a3] m = Q49 G a2 a3 a1 a0 m:=
  evFn_of (r:=fun r m=>Q49 G (r 2) (r 3) (r 1) (r 0) m) rfl rfl (tr (seqQ (f:=fun r m=>Qfs G (r 2) (r 3) (r 1) (r 0) m) (tr (seqQ (f:=fun r m=>Qm2 G (r 1) (r 2) (r 3) (r 0) m) (tr (seqQ (f:=fun r m=>Qm3 G (r 0) (r 9) m) (tr (seqQ (f:=fun r m=>Qm4 G (r 11) (r 0) (r 9) (r 10) m) (tr (seqQ (f:=fun r m=>Qft G (r 10) m) (fun r m=>by kernel_rfl)) (fun r m=>by kernel_rfl))) (fun r m=>by kernel_rfl))) (fun r m=>by kernel_rfl))) (fun r m=>by kernel_rfl))) (fun r m=>by kernel_rfl)) m
def Q12f:En:=⟨Q7s,Tryz.f197,Tryz.func197,by kernel_rfl,arg4 (fun G a0 a1 a2 a3 m=>Q49 G a2 a3 a1 a0 m),okarg4 Q1oj⟩
def Q3b (G:Gt)(p29 p5 p6 p7 p4:V)(m:M):R:=
  brb p29
  (bp (pur (aLoad false 1 p5 m) m) fun x2 m=>
  some (x2,m))
  (bp (pur (aLoad false 1 p5 m) m) fun x3 m=>
  bp (pur (aLoad false 1 p6 m) m) fun x4 m=>
  bp (pur (aLoad false 1 p7 m) m) fun x5 m=>
  bp (pur (aBuildArr Q13h 1 [(0,x3),(1,x4),(2,x5)]) m) fun x6 m=>
  bp (some (aNew Qpm Q13h m)) fun x7 m=>
  bp (unt (aStore 3 x7 x6 m)) fun _ m=>
  bp (pur (aLoad false 1 p4 m) m) fun x8 m=>
  bp (pur (aNilCheck x8) m) fun x9 m=>
  bp (pur (aFieldAddr 4 x9) m) fun x10 m=>
  bp (pur (aLoad false 1 x10 m) m) fun x11 m=>
  bp (pur (aLoad true 3 x7 m) m) fun x12 m=>
  bp (pur (aLookup (.struct [(0,1,false,.int),(1,1,false,.int),(2,1,false,.int)]) (.int .i32 0) true x11 x12 m) m) fun x13 m=>
  bp (pur (aExtract x13 0) m) fun x14 m=>
  bp (pur (aExtract x13 1) m) fun x15 m=>
  brb x15
  (some (x14,m))
  (bp (pur (aLoad false 1 p4 m) m) fun x16 m=>
  bp (pur (aNilCheck x16) m) fun x17 m=>
  bp (pur (aFieldAddr 2 x17) m) fun x18 m=>
  bp (pur (aLoad false 1 x18 m) m) fun x19 m=>
  bp (pur (aLoad false 1 p5 m) m) fun x20 m=>
  bp (pur (aIndexAddrSl 3 x19 x20) m) fun x21 m=>
  bp (pur (aFieldAddr 0 x21) m) fun x22 m=>
  bp (pur (aLoad false 1 x22 m) m) fun x23 m=>
  bp (pur (aLoad false 1 p4 m) m) fun x24 m=>
  bp (pur (aNilCheck x24) m) fun x25 m=>
  bp (pur (aFieldAddr 2 x25) m) fun x26 m=>
  bp (pur (aLoad false 1 x26 m) m) fun x27 m=>
  bp (pur (aLoad false 1 p6 m) m) fun x28 m=>
  bp (pur (aIndexAddrSl 3 x27 x28) m) fun x29 m=>
  bp (pur (aFieldAddr 0 x29) m) fun x30 m=>
  bp (pur (aLoad false 1 x30 m) m) fun x31 m=>
  bp (pur (aLoad false 1 p4 m) m) fun x32 m=>
  bp (pur (aNilCheck x32) m) fun x33 m=>
  bp (pur (aFieldAddr 2 x33) m) fun x34 m=>
  bp (pur (aLoad false 1 x34 m) m) fun x35 m=>
  bp (pur (aLoad false 1 p7 m) m) fun x36 m=>
  bp (pur (aIndexAddrSl 3 x35 x36) m) fun x37 m=>
  bp (pur (aFieldAddr 0 x37) m) fun x38 m=>
  bp (pur (aLoad false 1 x38 m) m) fun x39 m=>
  bp (pur (aMin3 x23 x31 x39) m) fun x40 m=>
  bp (some (aNew Q2z [(.int .i32 0)] m)) fun x41 m=>
  bp (unt (aStore 1 x41 x40 m)) fun _ m=>
  let x42:V:=(.func (.func Q6h) ⟨[]⟩ ⟨[p4,p5,x41,p6,p7]⟩)
  bp (evCall G.tab x42 [(.bool false)] m) fun x43 m=>
  bp (pur (aLoad false 1 p4 m) m) fun x44 m=>
  bp (pur (aLoad false 1 x41 m) m) fun x45 m=>
  bp (evCall G.tab x42 [(.bool true)] m) fun x46 m=>
  ckB (again (pur (aLoad false 1 p4 m) m) x44 && (again (pur (aLoad false 1 x41 m) m) x45 && true))
  (bp (G.tab Q7s [x44,x45,x43,x46] m) fun x47 m=>
  bp (pur (aLoad false 1 p4 m) m) fun x48 m=>
  bp (pur (aNilCheck x48) m) fun x49 m=>
  bp (pur (aFieldAddr 4 x49) m) fun x50 m=>
  bp (pur (aLoad false 1 x50 m) m) fun x51 m=>
  bp (pur (aLoad true 3 x7 m) m) fun x52 m=>
  bp (unt (aMapUpdate (.struct [(0,1,false,.int),(1,1,false,.int),(2,1,false,.int)]) x51 x52 x47 m)) fun _ m=>
  some (x47,m))))
def Qe5 (G:Gt)(p25 p7 p6 p5 p4:V)(m:M):R:=
  brb p25
  (bp (pur (aLoad false 1 p7 m) m) fun x1 m=>
  some (x1,m))
  (bp (pur (aLoad false 1 p6 m) m) fun x53 m=>
  bp (pur (bin .eql true true .int x53 (.int .i32 1)) m) fun x54 m=>
  brb x54
  (bp (pur (aLoad false 1 p7 m) m) fun x55 m=>
  bp (pur (bin .eql true true .int x55 (.int .i32 0)) m) fun x56 m=>
  Q3b G x56 p5 p6 p7 p4 m)
  (Q3b G (.bool false) p5 p6 p7 p4 m))
def Q6m (G:Gt)(p16 p6 p5 p7 p4:V)(m:M):R:=
  brb p16
  (bp (pur (aLoad false 1 p6 m) m) fun x0 m=>
  some (x0,m))
  (bp (pur (aLoad false 1 p5 m) m) fun x57 m=>
  bp (pur (bin .eql true true .int x57 (.int .i32 0)) m) fun x58 m=>
  Qe5 G x58 p7 p6 p5 p4 m)
def Q4r (G:Gt)(p5 p6 p7 p4:V)(m:M):R:=
  bp (pur (aLoad false 1 p5 m) m) fun x59 m=>
  bp (pur (bin .eql true true .int x59 (.int .i32 1)) m) fun x60 m=>
  brb x60
  (Q6m G (.bool true) p6 p5 p7 p4 m)
  (bp (pur (aLoad false 1 p6 m) m) fun x61 m=>
  bp (pur (aLoad false 1 p7 m) m) fun x62 m=>
  bp (pur (bin .eql false true .int x61 x62) m) fun x63 m=>
  Q6m G x63 p6 p5 p7 p4 m)
def Q24 (G:Gt)(p0 p1 p2 p3:V)(m:M):R:=
  bp (some (aNew Q2f (Value.cells p0).toList m)) fun x64 m=>
  bp (some (aNew Q2z (Value.cells p1).toList m)) fun x65 m=>
  bp (some (aNew Q2z (Value.cells p2).toList m)) fun x66 m=>
  bp (some (aNew Q2z (Value.cells p3).toList m)) fun x67 m=>
  Q4r G x65 x66 x67 x64 m
theorem Q1n4 (G:Gt)(a0 a1 a2 a3:V)(m:M):ef G Tryz.f198 [a0,a1,a2,a3] m = Q24 G a0 a1 a2 a3 m:=
  evFn_of (r:=fun r m=>Q24 G (r 0) (r 1) (r 2) (r 3) m) rfl rfl (tr (seqQ (f:=fun r m=>Q4r G (r 5) (r 6) (r 7) (r 4) m) (tr (tr seqD (blockQ (seqQ (f:=fun r m=>Q6m G (r 16) (r 6) (r 5) (r 7) (r 4) m) (tr (condQ (refQ) (seqQ (f:=fun r m=>Qe5 G (r 25) (r 7) (r 6) (r 5) (r 4) m) (tr (condQ (refQ) (seqQ (f:=fun r m=>Q3b G (r 29) (r 5) (r 6) (r 7) (r 4) m) (fun r m=>by kernel_rfl))) (fun r m=>by kernel_rfl)))) (fun r m=>by kernel_rfl))))) (fun r m=>by kernel_rfl))) (fun r m=>by kernel_rfl)) m
def Qzy:En:=⟨Q25,Tryz.f198,Tryz.func198,by kernel_rfl,arg4 Q24,okarg4 Q1n4⟩
def Q8j (G:Gt)(p0:V)(m:M):R:=
  bp (pur (bin .eql true true .slice p0 (.slice none 0 0)) m) fun x0 m=>
  brb x0
  (some ((.slice none 0 0),m))
  (bp (aBuildSlice Q10r Q16b 2 0 [] m) fun x1 m=>
  bp (apS Q10r 2 24 x1 p0 m) fun x2 m=>
  some (x2,m))
theorem Qz8 (G:Gt)(a0:V)(m:M):ef G Tryz.f209 [a0] m = Q8j G a0 m:=
  evFn_of (r:=fun r m=>Q8j G (r 0) m) rfl rfl (fun r m=>by kernel_rfl) m
def Qx7:En:=⟨Qha,Tryz.f209,Tryz.func209,by kernel_rfl,arg1 Q8j,okarg1 Qz8⟩
end
end Go.Ab.Sh
