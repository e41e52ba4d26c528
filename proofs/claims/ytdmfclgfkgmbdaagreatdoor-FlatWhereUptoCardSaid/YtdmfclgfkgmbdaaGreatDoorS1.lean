/-
  Functions of the program as plain definitions. No conditions.
-/
import Derived.Test.YtdmfclgfkgmbdaaGreatDoorAb5
import Derived.Test.YtdmfclgfkgmbdaaGreatDoorZ
import Derived.KernelRfl
import Derived.Test.YtdmfclgfkgmbdaaGreatDoorProg
set_option linter.unusedSimpArgs false
set_option linter.unusedVariables false
set_option maxRecDepth 100000
namespace Go.Ab.Sh
open Go Go.Ab Go.Proofs
noncomputable section
def Q43 (G:Gt)(p0 p9 p8 p3 p2 p5:V)(m:M):R:=bp (pur (X5 p0) m) fun x0 m=>bp (pur (X3 17 x0) m) fun x1 m=>bp (unt (X8 1 x1 p9 m)) fun _ m=>bp (pur (X5 p8) m) fun x2 m=>bp (pur (X3 9 x2) m) fun x3 m=>bp (pur (X7 false 1 x3 m) m) fun x4 m=>bp (pur (X5 p8) m) fun x5 m=>bp (pur (X3 9 x5) m) fun x6 m=>bp (pur (X7 false 1 x6 m) m) fun x7 m=>bp (pur (Xb 3 x7 p9) m) fun x8 m=>bp (pur (X3 1 x8) m) fun x9 m=>bp (pur (X7 false 1 x9 m) m) fun x10 m=>bp (pur (Xi Qhq [(0,1),(1,1),(2,1),(3,1),(4,1),(5,1),(6,1),(7,1),(8,1),(9,1),(10,1),(11,1),(12,1),(13,1),(14,1)] [(0,p3),(1,p2),(4,(.int .i64 (-1))),(5,(.int .i64 (-1))),(6,(.int .i64 (-1))),(7,(.int .i64 (-1))),(8,(.int .i64 (-1))),(9,(.int .i64 (-1)))]) m) fun x11 m=>bp (X9 Qkf Qhq 15 1 [(0,x11)] m) fun x12 m=>bp (apS Qkf 15 168 x10 x12 m) fun x13 m=>ckB (again (pur (X7 false 1 x3 m) m) x4 && true) (bp (pur (Xb 3 x4 p9) m) fun x14 m=>bp (pur (X3 1 x14) m) fun x15 m=>bp (unt (X8 1 x15 x13 m)) fun _ m=>bp (pur (X7 false 1 p5 m) m) fun x16 m=>bp (conv (.int .u32) p3 m) fun x17 m=>bp (G.tab Q5s [x17] m) fun x18 m=>ckB (again (pur (X7 false 1 p5 m) m) x16 && true) (bp (X9 Q1 [(.string ⟨#[]⟩)] 1 3 [(0,(.string ⟨#[114,111,117,116,101,45,109,97,112]⟩)),(1,x16),(2,x18)] m) fun x19 m=>bp (G.tab Q1u [p0,(.func (.func Q5a) ⟨[p0]⟩ ⟨[]⟩),x19] m) fun x20 m=>some (.tuple ⟨[]⟩,m)))
def Q8u (G:Gt)(p9 p8 p5 p0 p3 p2:V)(m:M):R:=bp (pur (bin .lss true true .int p9 (.int .i64 0)) m) fun x21 m=>brb x21 (bp (pur (X5 p8) m) fun x22 m=>bp (pur (X3 9 x22) m) fun x23 m=>bp (pur (X7 false 1 x23 m) m) fun x24 m=>bp (pur (lenK 1 x24 m) m) fun x25 m=>bp (pur (X5 p8) m) fun x26 m=>bp (pur (X3 9 x26) m) fun x27 m=>bp (pur (X7 false 1 x27 m) m) fun x28 m=>bp (pur (X7 false 1 p5 m) m) fun x29 m=>bp (pur (Xi Qag [(0,1),(1,1),(2,1)] [(0,x29)]) m) fun x30 m=>bp (X9 Q64 Qag 3 1 [(0,x30)] m) fun x31 m=>bp (apS Q64 3 48 x28 x31 m) fun x32 m=>bp (pur (X5 p8) m) fun x33 m=>bp (pur (X3 9 x33) m) fun x34 m=>bp (unt (X8 1 x34 x32 m)) fun _ m=>Q43 G p0 x25 p8 p3 p2 p5 m) (Q43 G p0 p9 p8 p3 p2 p5 m)
def Q8t (G:Gt)(p8 p5 p0 p3 p2:V)(m:M):R:=bp (pur (X5 p8) m) fun x35 m=>bp (pur (X3 9 x35) m) fun x36 m=>bp (pur (X7 false 1 x36 m) m) fun x37 m=>bp (G.tab Q11 [x37,(.func (.func Q1m) ⟨[]⟩ ⟨[p5]⟩)] m) fun x38 m=>Q8u G x38 p8 p5 p0 p3 p2 m
def Q8s (G:Gt)(p0 p5 p3 p2:V)(m:M):R:=bp (pur (X5 p0) m) fun x39 m=>bp (pur (X3 0 x39) m) fun x40 m=>Q8t G x40 p5 p0 p3 p2 m
def Q3g (G:Gt)(p1 p0 p3 p2:V)(m:M):R:=bp (some (aNew Q1 (Value.cells p1).toList m)) fun x41 m=>Q8s G p0 x41 p3 p2 m
theorem Qj4 (G:Gt)(a0 a1 a2 a3:V)(m:M):ef G Tryz.f25 [a0,a1,a2,a3] m = Q3g G a1 a0 a3 a2 m:=Xg (r:=fun r m=>Q3g G (r 1) (r 0) (r 3) (r 2) m) rfl rfl (tr (seqQ (f:=fun r m=>Q8s G (r 0) (r 5) (r 3) (r 2) m) (tr (seqQ (f:=fun r m=>Q8t G (r 8) (r 5) (r 0) (r 3) (r 2) m) (tr (seqQ (f:=fun r m=>Q8u G (r 9) (r 8) (r 5) (r 0) (r 3) (r 2) m) (tr (seqQ (f:=fun r m=>Q43 G (r 0) (r 9) (r 8) (r 3) (r 2) (r 5) m))))))))) m
def Qal:En:=⟨Q7b,Tryz.f25,Tryz.func25,by kernel_rfl,arg4 (fun G a0 a1 a2 a3 m=>Q3g G a1 a0 a3 a2 m),Xqb Qj4⟩
def Q49 (G:Gt)(p8:V)(m:M):R:=some (p8,m)
def Q48 (G:Gt)(p29 p0 p8:V)(m:M):R:=brb p29 (bp (G.tab Q3 [p0,(.int .i64 131)] m) fun x0 m=>Q49 G p8 m) (Q49 G p8 m)
def Q93 (G:Gt)(p9 p8 p1 p0:V)(m:M):R:=bp (pur (un .not p9) m) fun x1 m=>brb x1 (Q48 G (.bool true) p0 p8 m) (bp (pur (bin .lss false true .int p8 p1) m) fun x2 m=>Q48 G x2 p0 p8 m)
def Q92 (G:Gt)(p7 p2 p1 p0:V)(m:M):R:=bp (G.tab Qaw [p7,p2] m) fun x3 m=>bp (pur (Xd x3 0) m) fun x4 m=>bp (pur (Xd x3 1) m) fun x5 m=>Q93 G x5 x4 p1 p0 m
def Q91 (G:Gt)(p7 p0 p2 p1:V)(m:M):R:=bp (G.tab Qgk [p7] m) fun x6 m=>bp (pur (un .not x6) m) fun x7 m=>brb x7 (bp (G.tab Q3 [p0,(.int .i64 130)] m) fun x8 m=>some ((.int .i64 0),m)) (Q92 G p7 p2 p1 p0 m)
def Q90 (G:Gt)(p0 p2 p1:V)(m:M):R:=bp (G.tab Qd [p0] m) fun x9 m=>Q91 G x9 p0 p2 p1 m
def Q3o (G:Gt)(p0 p2 p1:V)(m:M):R:=Q90 G p0 p2 p1 m
theorem Qj5 (G:Gt)(a0 a1 a2:V)(m:M):ef G Tryz.f26 [a0,a1,a2] m = Q3o G a0 a2 a1 m:=Xg (r:=fun r m=>Q3o G (r 0) (r 2) (r 1) m) rfl rfl (tr (seqQ (f:=fun r m=>Q90 G (r 0) (r 2) (r 1) m) (tr (seqQ (f:=fun r m=>Q91 G (r 7) (r 0) (r 2) (r 1) m) (tr (seqQ (f:=fun r m=>Q92 G (r 7) (r 2) (r 1) (r 0) m) (tr (seqQ (f:=fun r m=>Q93 G (r 9) (r 8) (r 1) (r 0) m) (tr (tr (seqQ (f:=fun r m=>Q49 G (r 8) m)) (seqQ (f:=fun r m=>Q48 G (r 29) (r 0) (r 8) m)))))))))))) m
def Qao:En:=⟨Q0,Tryz.f26,Tryz.func26,by kernel_rfl,arg3 (fun G a0 a1 a2 m=>Q3o G a0 a2 a1 m),Xft Qj5⟩
def Q3h (G:Gt)(p0 p1:V)(m:M):R:=bp (pur (X5 p0) m) fun x0 m=>bp (pur (X3 0 x0) m) fun x1 m=>bp (X9 Q1 [(.string ⟨#[]⟩)] 1 2 [(0,(.string ⟨#[111,115,112,102]⟩)),(1,(.string ⟨#[98,103,112]⟩))] m) fun x2 m=>bp (G.tab Qr [p1,x2] m) fun x3 m=>bp (pur (bin .eql true true .int x3 (.int .i64 0)) m) fun x4 m=>brb x4 (bp (G.tab Q5f [p1] m) fun x5 m=>bp (X9 Q1 [(.string ⟨#[]⟩)] 1 3 [(0,(.string ⟨#[114,111,117,116,101,114]⟩)),(1,(.string ⟨#[111,115,112,102]⟩)),(2,x5)] m) fun x6 m=>bp (G.tab Q1u [p0,(.func (.func Q6s) ⟨[p0]⟩ ⟨[]⟩),x6] m) fun x7 m=>bp (pur (X5 x1) m) fun x8 m=>bp (pur (X3 10 x8) m) fun x9 m=>bp (pur (X7 false 1 x9 m) m) fun x10 m=>bp (pur (Xi Qjc [(0,1),(1,1),(2,1)] [(0,x5)]) m) fun x11 m=>bp (X9 Qli Qjc 3 1 [(0,x11)] m) fun x12 m=>bp (apS Qli 3 48 x10 x12 m) fun x13 m=>bp (pur (X5 x1) m) fun x14 m=>bp (pur (X3 10 x14) m) fun x15 m=>bp (unt (X8 1 x15 x13 m)) fun _ m=>some (.tuple ⟨[]⟩,m)) (bp (G.tab Q0 [p1,(.int .i64 1),(.int .i64 4294967295)] m) fun x16 m=>bp (G.tab Q5f [p1] m) fun x17 m=>bp (X9 Q1 [(.string ⟨#[]⟩)] 1 3 [(0,(.string ⟨#[114,111,117,116,101,114]⟩)),(1,(.string ⟨#[98,103,112]⟩)),(2,x17)] m) fun x18 m=>bp (G.tab Q1u [p0,(.func (.func Q74) ⟨[p0]⟩ ⟨[]⟩),x18] m) fun x19 m=>bp (pur (X5 x1) m) fun x20 m=>bp (pur (X3 11 x20) m) fun x21 m=>bp (pur (X7 false 1 x21 m) m) fun x22 m=>bp (conv (.int .u32) x16 m) fun x23 m=>bp (pur (Xi Qkb [(0,1),(1,1),(2,1),(3,1),(4,1),(5,1)] [(0,x17),(1,x23)]) m) fun x24 m=>bp (X9 Qm0 Qkb 6 1 [(0,x24)] m) fun x25 m=>bp (apS Qm0 6 96 x22 x25 m) fun x26 m=>bp (pur (X5 x1) m) fun x27 m=>bp (pur (X3 11 x27) m) fun x28 m=>bp (unt (X8 1 x28 x26 m)) fun _ m=>some (.tuple ⟨[]⟩,m))
theorem Qj6 (G:Gt)(a0 a1:V)(m:M):ef G Tryz.f27 [a0,a1] m = Q3h G a0 a1 m:=Xg (r:=fun r m=>Q3h G (r 0) (r 1) m) rfl rfl (fun r m=>by kernel_rfl) m
def Qaj:En:=⟨Q7c,Tryz.f27,Tryz.func27,by kernel_rfl,arg2 Q3h,X13 Qj6⟩
def Q3s (G:Gt)(p0 p1:V)(m:M):R:=bp (G.tab Q8p [p0] m) fun x0 m=>bp (G.tab Qs [p0,x0,p1] m) fun x1 m=>some (.tuple ⟨[]⟩,m)
theorem Qkk (G:Gt)(a0 a1:V)(m:M):ef G Tryz.f28 [a0,a1] m = Q3s G a0 a1 m:=Xg (r:=fun r m=>Q3s G (r 0) (r 1) m) rfl rfl (fun r m=>by kernel_rfl) m
def Qe3:En:=⟨Q3,Tryz.f28,Tryz.func28,by kernel_rfl,arg2 Q3s,X13 Qkk⟩
def Q88 (G:Gt)(p9 p10 p0:V)(m:M):R:=bp (pur (Xb 1 p9 p10) m) fun x0 m=>bp (unt (X8 1 x0 p0 m)) fun _ m=>bp (pur (bin .add true true .int p10 (.int .i64 1)) m) fun x1 m=>bp (pur (X7f 1 p9 none (some x1)) m) fun x2 m=>some (x2,m)
def Q6d (G:Gt):Nat→V→V→V→V→V→V→M→R
 | 0,_,_,_,_,_,_,_=>none
 | i + 1,p10,p3,p0,p1,p9,p2,m=>bp (pur (bin .lss false true .int p10 p3) m) fun x3 m=>brb x3 (bp (G.tab Qdu [p0,p1] m) fun x4 m=>bp (pur (bin .lss true true .int x4 (.int .i64 0)) m) fun x5 m=>brb x5 (Q88 G p9 p10 p0 m) (bp (pur (bin .add false true .int x4 p2) m) fun x6 m=>bp (pur (X11 p0 none (some x6)) m) fun x7 m=>bp (pur (Xb 1 p9 p10) m) fun x8 m=>bp (unt (X8 1 x8 x7 m)) fun _ m=>bp (pur (lenK 0 p1 m) m) fun x9 m=>bp (pur (bin .add false true .int x4 x9) m) fun x10 m=>bp (pur (X11 p0 (some x10) none) m) fun x11 m=>bp (pur (bin .add true true .int p10 (.int .i64 1)) m) fun x12 m=>(Q6d G i) x12 p3 x11 p1 p9 p2 m)) (Q88 G p9 p10 p0 m)
def Qct (G:Gt)(p10 p3 p0 p1 p9 p2:V)(m:M):R:=Q6d G G.rds p10 p3 p0 p1 p9 p2 m
def Qcs (G:Gt)(p3 p0 p1 p9 p2:V)(m:M):R:=Qct G (.int .i64 0) p3 p0 p1 p9 p2 m
def Qcr (G:Gt)(p3 p0 p1 p9 p2:V)(m:M):R:=bp (pur (bin .sub true true .int p3 (.int .i64 1)) m) fun x13 m=>Qcs G x13 p0 p1 p9 p2 m
def Qcq (G:Gt)(p3 p0 p1 p2:V)(m:M):R:=bp (X37 Q1 [(.string ⟨#[]⟩)] 1 16 p3 p3 m) fun x14 m=>Qcr G p3 p0 p1 x14 p2 m
def Q89 (G:Gt)(p3 p0 p1 p2:V)(m:M):R:=bp (pur (lenK 0 p0 m) m) fun x15 m=>bp (pur (bin .add true true .int x15 (.int .i64 1)) m) fun x16 m=>bp (pur (aMin p3 x16) m) fun x17 m=>Qcq G x17 p0 p1 p2 m
def Qcp (G:Gt)(p3 p0 p1 p2:V)(m:M):R:=bp (pur (bin .lss true true .int p3 (.int .i64 0)) m) fun x18 m=>brb x18 (bp (G.tab Q7h [p0,p1] m) fun x19 m=>bp (pur (bin .add true true .int x19 (.int .i64 1)) m) fun x20 m=>Q89 G x20 p0 p1 p2 m) (Q89 G p3 p0 p1 p2 m)
def Qco (G:Gt)(p1 p0 p3 p2:V)(m:M):R:=bp (pur (bin .eql true true .str p1 (.string ⟨#[]⟩)) m) fun x21 m=>brb x21 (bp (G.tab Qkz [p0,p3] m) fun x22 m=>some (x22,m)) (Qcp G p3 p0 p1 p2 m)
def Qcn (G:Gt)(p3 p1 p0 p2:V)(m:M):R:=bp (pur (bin .eql true true .int p3 (.int .i64 0)) m) fun x23 m=>brb x23 (some ((.slice none 0 0),m)) (Qco G p1 p0 p3 p2 m)
def Q3v (G:Gt)(p3 p1 p0 p2:V)(m:M):R:=Qcn G p3 p1 p0 p2 m
theorem Qkl (G:Gt)(a0 a1 a2 a3:V)(m:M):ef G Tryz.f32 [a0,a1,a2,a3] m = Q3v G a3 a1 a0 a2 m:=Xg (r:=fun r m=>Q3v G (r 3) (r 1) (r 0) (r 2) m) rfl rfl (tr (seqQ (f:=fun r m=>Qcn G (r 3) (r 1) (r 0) (r 2) m) (tr (seqQ (f:=fun r m=>Qco G (r 1) (r 0) (r 3) (r 2) m) (tr (seqQ (f:=fun r m=>Qcp G (r 3) (r 0) (r 1) (r 2) m) (tr (seqQ (f:=fun r m=>Q89 G (r 3) (r 0) (r 1) (r 2) m) (tr (seqQ (f:=fun r m=>Qcq G (r 3) (r 0) (r 1) (r 2) m) (tr (seqQ (f:=fun r m=>Qcr G (r 3) (r 0) (r 1) (r 9) (r 2) m) (tr (seqQ (f:=fun r m=>Qcs G (r 3) (r 0) (r 1) (r 9) (r 2) m) (tr (seqQ (f:=fun r m=>Qct G (r 10) (r 3) (r 0) (r 1) (r 9) (r 2) m) (tr (tr (seqQ (f:=fun r m=>Q88 G (r 9) (r 10) (r 0) m)) (Xy (X36 (fun i r m=>Q6d G i (r 10) (r 3) (r 0) (r 1) (r 9) (r 2) m) (fun _ _=>rfl) (fun i0=>fun r m=>by kernel_rfl))))))))))))))))))))) m
def Qe1:En:=⟨Q9h,Tryz.f32,Tryz.func32,by kernel_rfl,arg4 (fun G a0 a1 a2 a3 m=>Q3v G a3 a1 a0 a2 m),Xqb Qkl⟩
def Q5v (G:Gt)(p0:V)(m:M):R:=some (p0,m)
def Q3q (G:Gt)(k0:J2)(p13 p0 p1:V)(m:M):R:=brb p13 (bp (pur (X11 p0 (some (.int .i64 1)) none) m) fun x0 m=>k0 x0 p1 m) (Q5v G p0 m)
def Q1h (G:Gt):Nat→V→V→M→R
 | 0,_,_,_=>none
 | i + 1,p0,p1,m=>bp (pur (lenK 0 p0 m) m) fun x1 m=>bp (pur (bin .gtr true true .int x1 (.int .i64 0)) m) fun x2 m=>brb x2 (bp (pur (Xh p0 (.int .i64 0)) m) fun x3 m=>bp (pur (bin .eql false true .int x3 p1) m) fun x4 m=>Q3q G (Q1h G i) x4 p0 p1 m) (Q3q G (Q1h G i) (.bool false) p0 p1 m)
def Q8f (G:Gt)(p0 p1:V)(m:M):R:=Q1h G G.rds p0 p1 m
def Q32 (G:Gt)(p0 p1:V)(m:M):R:=Q8f G p0 p1 m
theorem Qip (G:Gt)(a0 a1:V)(m:M):ef G Tryz.f33 [a0,a1] m = Q32 G a0 a1 m:=Xg (r:=fun r m=>Q32 G (r 0) (r 1) m) rfl rfl (tr (seqQ (f:=fun r m=>Q8f G (r 0) (r 1) m) (tr (tr (seqQ (f:=fun r m=>Q5v G (r 0) m)) (Xy (X36 (fun i r m=>Q1h G i (r 0) (r 1) m) (fun _ _=>rfl) (fun i0=>tr (tr seqD (seqQ (f:=fun r m=>Q3q G (Q1h G i0) (r 13) (r 0) (r 1) m)))))))))) m
def Q9k:En:=⟨Q4q,Tryz.f33,Tryz.func33,by kernel_rfl,arg2 Q32,X13 Qip⟩
def Q8k (G:Gt)(p2:V)(m:M):R:=bp (pur (X7 true 256 p2 m) m) fun x0 m=>bp (unt (X8 256 p2 x0 m)) fun _ m=>ob (ob (X7 true 256 p2 m) fun v=>ob (some [(.bool true)]) fun l=>some (v :: l)) fun l=>some (X1g l,m)
def Q2e (G:Gt):Nat→V→V→V→M→R
 | 0,_,_,_,_=>none
 | i + 1,p4,p0,p2,m=>bp (pur (lenK 0 p0 m) m) fun x1 m=>bp (pur (bin .lss false true .int p4 x1) m) fun x2 m=>brb x2 (bp (pur (Xh p0 p4) m) fun x3 m=>bp (pur (bin .geq true true .int x3 (.int .u8 128)) m) fun x4 m=>brb x4 (bp (pur (X7 true 256 p2 m) m) fun x5 m=>bp (unt (X8 256 p2 x5 m)) fun _ m=>ob (ob (X7 true 256 p2 m) fun v=>ob (some [(.bool false)]) fun l=>some (v :: l)) fun l=>some (X1g l,m)) (bp (pur (X1w 256 1 p2 x3) m) fun x6 m=>bp (unt (X8 1 x6 (.bool true) m)) fun _ m=>bp (pur (bin .add true true .int p4 (.int .i64 1)) m) fun x7 m=>(Q2e G i) x7 p0 p2 m)) (Q8k G p2 m)
def Q8m (G:Gt)(p4 p0 p2:V)(m:M):R:=Q2e G G.rds p4 p0 p2 m
def Q8l (G:Gt)(p0 p2:V)(m:M):R:=Q8m G (.int .i64 0) p0 p2 m
def Q33 (G:Gt)(p0:V)(m:M):R:=bp (some (aNew Q21 Q2m m)) fun x8 m=>Q8l G p0 x8 m
theorem Qiq (G:Gt)(a0:V)(m:M):ef G Tryz.f34 [a0] m = Q33 G a0 m:=Xg (r:=fun r m=>Q33 G (r 0) m) rfl rfl (tr (seqQ (f:=fun r m=>Q8l G (r 0) (r 2) m) (tr (tr (seqQ (f:=fun r m=>Q8k G (r 2) m)) (seqQ (f:=fun r m=>Q8m G (r 4) (r 0) (r 2) m) (tr (Xy (X36 (fun i r m=>Q2e G i (r 4) (r 0) (r 2) m) (fun _ _=>rfl) (fun i0=>fun r m=>by kernel_rfl))))))))) m
def Q9l:En:=⟨Q4u,Tryz.f34,Tryz.func34,by kernel_rfl,arg1 Q33,X1y Qiq⟩
def Q3c (G:Gt)(p0:V)(m:M):R:=some (p0,m)
def Q24 (G:Gt):Nat→V→V→M→R
 | 0,_,_,_=>none
 | i + 1,p0,p1,m=>bp (pur (lenK 0 p0 m) m) fun x0 m=>bp (pur (bin .gtr true true .int x0 (.int .i64 0)) m) fun x1 m=>brb x1 (bp (pur (Xh p0 (.int .i64 0)) m) fun x2 m=>bp (G.tab Q2f [p1,x2] m) fun x3 m=>bp (pur (un .not x3) m) fun x4 m=>brb x4 (Q3c G p0 m) (bp (pur (X11 p0 (some (.int .i64 1)) none) m) fun x5 m=>(Q24 G i) x5 p1 m)) (Q3c G p0 m)
def Q83 (G:Gt)(p0 p1:V)(m:M):R:=Q24 G G.rds p0 p1 m
def Q2r (G:Gt)(p0 p1:V)(m:M):R:=Q83 G p0 p1 m
theorem Qie (G:Gt)(a0 a1:V)(m:M):ef G Tryz.f35 [a0,a1] m = Q2r G a0 a1 m:=Xg (r:=fun r m=>Q2r G (r 0) (r 1) m) rfl rfl (tr (seqQ (f:=fun r m=>Q83 G (r 0) (r 1) m) (tr (tr (seqQ (f:=fun r m=>Q3c G (r 0) m)) (Xy (X36 (fun i r m=>Q24 G i (r 0) (r 1) m) (fun _ _=>rfl) (fun i0=>fun r m=>by kernel_rfl))))))) m
def Q8v:En:=⟨Q44,Tryz.f35,Tryz.func35,by kernel_rfl,arg2 Q2r,X13 Qie⟩
def Q1z (G:Gt)(p0 p1:V)(m:M):R:=bp (G.tab Q1e [p0,p1] m) fun x0 m=>bp (pur (bin .geq true true .int x0 (.int .i64 0)) m) fun x1 m=>brb x1 (bp (pur (X11 p0 none (some x0)) m) fun x2 m=>bp (pur (lenK 0 p1 m) m) fun x3 m=>bp (pur (bin .add false true .int x0 x3) m) fun x4 m=>bp (pur (X11 p0 (some x4) none) m) fun x5 m=>some (.tuple ⟨[x2,x5,(.bool true)]⟩,m)) (some (.tuple ⟨[p0,(.string ⟨#[]⟩),(.bool false)]⟩,m))
theorem Qhg (G:Gt)(a0 a1:V)(m:M):ef G Tryz.f37 [a0,a1] m = Q1z G a0 a1 m:=Xg (r:=fun r m=>Q1z G (r 0) (r 1) m) rfl rfl (fun r m=>by kernel_rfl) m
def Q7l:En:=⟨Q57,Tryz.f37,Tryz.func37,by kernel_rfl,arg2 Q1z,X13 Qhg⟩
def Qhx (G:Gt)(m:M):R:=some ((.bool true),m)
def Q76 (G:Gt)(k0:J1)(p51 p14:V)(m:M):R:=brb p51 (some ((.bool false),m)) (k0 p14 m)
def Q61 (G:Gt)(k0:J1)(p5 p3 p4 p14:V)(m:M):R:=bp (pur (un .not p5) m) fun x0 m=>brb x0 (bp (pur (bin .eql true true .int p3 (.int .i64 0)) m) fun x1 m=>brb x1 (Q76 G k0 (.bool true) p14 m) (bp (pur (bin .lss true true .int p4 (.int .i32 48)) m) fun x2 m=>brb x2 (bp (G.tab Q2a [(.string ⟨#[45,95,46,47]⟩),p4] m) fun x3 m=>bp (pur (bin .lss true true .int x3 (.int .i64 0)) m) fun x4 m=>Q76 G k0 x4 p14 m) (bp (pur (bin .gtr true true .int p4 (.int .i32 57)) m) fun x5 m=>brb x5 (bp (G.tab Q2a [(.string ⟨#[45,95,46,47]⟩),p4] m) fun x6 m=>bp (pur (bin .lss true true .int x6 (.int .i64 0)) m) fun x7 m=>Q76 G k0 x7 p14 m) (Q76 G k0 (.bool false) p14 m)))) (Q76 G k0 (.bool false) p14 m)
def Qhz (G:Gt)(k0:J1)(p4 p3 p14:V)(m:M):R:=bp (pur (bin .geq true true .int p4 (.int .i32 97)) m) fun x8 m=>brb x8 (bp (pur (bin .leq true true .int p4 (.int .i32 122)) m) fun x9 m=>brb x9 (Q61 G k0 (.bool true) p3 p4 p14 m) (bp (pur (bin .geq true true .int p4 (.int .i32 65)) m) fun x10 m=>brb x10 (bp (pur (bin .leq true true .int p4 (.int .i32 90)) m) fun x11 m=>Q61 G k0 x11 p3 p4 p14 m) (Q61 G k0 (.bool false) p3 p4 p14 m))) (bp (pur (bin .geq true true .int p4 (.int .i32 65)) m) fun x12 m=>brb x12 (bp (pur (bin .leq true true .int p4 (.int .i32 90)) m) fun x13 m=>Q61 G k0 x13 p3 p4 p14 m) (Q61 G k0 (.bool false) p3 p4 p14 m))
def Qhy (G:Gt)(k0:J1)(p15 p14:V)(m:M):R:=bp (pur (Xd p15 1) m) fun x14 m=>bp (pur (Xd p15 2) m) fun x15 m=>Qhz G k0 x15 x14 p14 m
def Qff (G:Gt)(k0:J1)(p16 p15 p14:V)(m:M):R:=brb p16 (Qhy G k0 p15 p14 m) (Qhx G m)
def Q2d (G:Gt):Nat→V→M→R
 | 0,_,_=>none
 | i + 1,p14,m=>bp (X3w p14 m) fun x16 m=>bp (pur (Xd x16 0) m) fun x17 m=>Qff G (Q2d G i) x17 x16 p14 m
def Qi2 (G:Gt)(p14:V)(m:M):R:=Q2d G G.rds p14 m
def Qi1 (G:Gt)(p0:V)(m:M):R:=bp (X3i p0 m) fun x18 m=>Qi2 G x18 m
def Qf4 (G:Gt)(p12 p0:V)(m:M):R:=brb p12 (some ((.bool false),m)) (Qi1 G p0 m)
def Qi0 (G:Gt)(p0:V)(m:M):R:=bp (pur (bin .eql true true .str p0 (.string ⟨#[]⟩)) m) fun x19 m=>brb x19 (Qf4 G (.bool true) p0 m) (bp (pur (lenK 0 p0 m) m) fun x20 m=>bp (pur (bin .gtr true true .int x20 (.int .i64 32)) m) fun x21 m=>Qf4 G x21 p0 m)
def Qeb (G:Gt)(p0:V)(m:M):R:=Qi0 G p0 m
theorem Qno (G:Gt)(a0:V)(m:M):ef G Tryz.f38 [a0] m = Qeb G a0 m:=Xg (r:=fun r m=>Qeb G (r 0) m) rfl rfl (tr (seqQ (f:=fun r m=>Qi0 G (r 0) m) (tr (tr (seqQ (f:=fun r m=>Qi1 G (r 0) m) (tr (tr (seqQ (f:=fun r m=>Qhx G m)) (seqQ (f:=fun r m=>Qi2 G (r 14) m) (tr (Xy (X36 (fun i r m=>Q2d G i (r 14) m) (fun _ _=>rfl) (fun i0=>tr (seqQ (f:=fun r m=>Qff G (Q2d G i0) (r 16) (r 15) (r 14) m) (tr (seqQ (f:=fun r m=>Qhy G (Q2d G i0) (r 15) (r 14) m) (tr (Xy (seqQ (f:=fun r m=>Qhz G (Q2d G i0) (r 4) (r 3) (r 14) m) (tr (seqQ (f:=fun r m=>Q61 G (Q2d G i0) (r 5) (r 3) (r 4) (r 14) m) (tr (seqQ (f:=fun r m=>Q76 G (Q2d G i0) (r 51) (r 14) m))))))))))))))))))) (seqQ (f:=fun r m=>Qf4 G (r 12) (r 0) m)))))) m
def Qje:En:=⟨Qhl,Tryz.f38,Tryz.func38,by kernel_rfl,arg1 Qeb,X1y Qno⟩
end
end Go.Ab.Sh

set_option maxRecDepth 100000
namespace Go.Ab.Sh
open Go Go.Ab Go.Proofs
noncomputable section
def Q3l (G:Gt)(p0 p1:V)(m:M):R:=bp (pur (X5 p0) m) fun x0 m=>bp (pur (X3 13 x0) m) fun x1 m=>bp (pur (X7 false 1 x1 m) m) fun x2 m=>bp (X9 Q1 [(.string ⟨#[]⟩)] 1 3 [(0,(.string ⟨#[105,110]⟩)),(1,x2),(2,(.string ⟨#[46]⟩))] m) fun x3 m=>bp (apS Q1 1 16 x3 p1 m) fun x4 m=>bp (G.tab Q2h [p0,x4] m) fun x5 m=>some (.tuple ⟨[]⟩,m)
theorem Qj7 (G:Gt)(a0 a1:V)(m:M):ef G Tryz.f40 [a0,a1] m = Q3l G a0 a1 m:=Xg (r:=fun r m=>Q3l G (r 0) (r 1) m) rfl rfl (fun r m=>by kernel_rfl) m
def Qam:En:=⟨Q6,Tryz.f40,Tryz.func40,by kernel_rfl,arg2 Q3l,X13 Qj7⟩
def Q5k (G:Gt)(p3:V)(m:M):R:=some (p3,m)
def Q7i (G:Gt)(p4 p0 p3:V)(m:M):R:=bp (pur (bin .neq true true .int p4 (.int .i64 0)) m) fun x0 m=>brb x0 (bp (G.tab Q3 [p0,(.int .i64 130)] m) fun x1 m=>Q5k G p3 m) (Q5k G p3 m)
def Qb3 (G:Gt)(p0:V)(m:M):R:=bp (G.tab Qd [p0] m) fun x2 m=>bp (G.tab Qe9 [x2] m) fun x3 m=>bp (pur (Xd x3 0) m) fun x4 m=>bp (pur (Xd x3 1) m) fun x5 m=>Q7i G x5 p0 x4 m
def Q4i (G:Gt)(p0:V)(m:M):R:=Qb3 G p0 m
theorem Qju (G:Gt)(a0:V)(m:M):ef G Tryz.f41 [a0] m = Q4i G a0 m:=Xg (r:=fun r m=>Q4i G (r 0) m) rfl rfl (tr (seqQ (f:=fun r m=>Qb3 G (r 0) m) (tr (seqQ (f:=fun r m=>Q7i G (r 4) (r 0) (r 3) m) (tr (seqQ (f:=fun r m=>Q5k G (r 3) m))))))) m
def Qdc:En:=⟨Qt,Tryz.f41,Tryz.func41,by kernel_rfl,arg1 Q4i,X1y Qju⟩
def Q5n (G:Gt)(p6:V)(m:M):R:=some (p6,m)
def Q7j (G:Gt)(p7 p0 p6:V)(m:M):R:=bp (pur (bin .neq true true .int p7 (.int .i64 0)) m) fun x0 m=>brb x0 (bp (G.tab Q3 [p0,(.int .i64 10)] m) fun x1 m=>Q5n G p6 m) (Q5n G p6 m)
def Q5m (G:Gt)(p5 p0:V)(m:M):R:=bp (G.tab Qgl [p5] m) fun x2 m=>bp (pur (Xd x2 0) m) fun x3 m=>bp (pur (Xd x2 1) m) fun x4 m=>Q7j G x4 p0 x3 m
def Qb5 (G:Gt)(p1 p5 p0:V)(m:M):R:=brb p1 (bp (pur (un .xor p5) m) fun x5 m=>Q5m G x5 p0 m) (Q5m G p5 p0 m)
def Qb4 (G:Gt)(p0 p1:V)(m:M):R:=bp (G.tab Qt [p0] m) fun x6 m=>Qb5 G p1 x6 p0 m
def Q4j (G:Gt)(p0 p1:V)(m:M):R:=Qb4 G p0 p1 m
theorem Qjv (G:Gt)(a0 a1:V)(m:M):ef G Tryz.f42 [a0,a1] m = Q4j G a0 a1 m:=Xg (r:=fun r m=>Q4j G (r 0) (r 1) m) rfl rfl (tr (seqQ (f:=fun r m=>Qb4 G (r 0) (r 1) m) (tr (seqQ (f:=fun r m=>Qb5 G (r 1) (r 5) (r 0) m) (tr (seqQ (f:=fun r m=>Q5m G (r 5) (r 0) m) (tr (seqQ (f:=fun r m=>Q7j G (r 7) (r 0) (r 6) m) (tr (seqQ (f:=fun r m=>Q5n G (r 6) m))))))))))) m
def Qdm:En:=⟨Q3a,Tryz.f42,Tryz.func42,by kernel_rfl,arg2 Q4j,X13 Qjv⟩
def Q5g (G:Gt)(p0:V)(m:M):R:=bp (G.tab Qe [p0,(.string ⟨#[118,114,102]⟩)] m) fun x0 m=>brb x0 (bp (G.tab Qb [p0] m) fun x1 m=>some (x1,m)) (some ((.string ⟨#[]⟩),m))
theorem Qkm (G:Gt)(a0:V)(m:M):ef G Tryz.f43 [a0] m = Q5g G a0 m:=Xg (r:=fun r m=>Q5g G (r 0) m) rfl rfl (fun r m=>by kernel_rfl) m
def Qdw:En:=⟨Q5f,Tryz.f43,Tryz.func43,by kernel_rfl,arg1 Q5g,X1y Qkm⟩
def Q6b (G:Gt)(p7 p6:V)(m:M):R:=bp (pur (X7 true 2 p7 m) m) fun x0 m=>bp (unt (X8 2 p6 x0 m)) fun _ m=>ob (ob (X7 true 2 p6 m) fun v=>ob (some []) fun l=>some (v :: l)) fun l=>some (X1g l,m)
def Qcm (G:Gt)(p7 p0 p6:V)(m:M):R:=bp (pur (X7 true 2 p7 m) m) fun x1 m=>bp (G.tab Qe8 [x1] m) fun x2 m=>bp (pur (bin .neq true true .int x2 (.int .i64 0)) m) fun x3 m=>brb x3 (bp (G.tab Q3 [p0,(.int .i64 10)] m) fun x4 m=>Q6b G p7 p6 m) (Q6b G p7 p6 m)
def Qcl (G:Gt)(p1 p2 p0 p6:V)(m:M):R:=bp (pur (Xi Ql [(0,1),(1,1)] [(0,p1),(1,p2)]) m) fun x5 m=>bp (some (aNew Qu Ql m)) fun x6 m=>bp (unt (X8 2 x6 x5 m)) fun _ m=>Qcm G x6 p0 p6 m
def Q5p (G:Gt)(p1 p2 p0:V)(m:M):R:=bp (some (aNew Qu Ql m)) fun x7 m=>Qcl G p1 p2 p0 x7 m
theorem Qkn (G:Gt)(a0 a1 a2:V)(m:M):ef G Tryz.f44 [a0,a1,a2] m = Q5p G a1 a2 a0 m:=Xg (r:=fun r m=>Q5p G (r 1) (r 2) (r 0) m) rfl rfl (tr (seqQ (f:=fun r m=>Qcl G (r 1) (r 2) (r 0) (r 6) m) (tr (seqQ (f:=fun r m=>Qcm G (r 7) (r 0) (r 6) m) (tr (seqQ (f:=fun r m=>Q6b G (r 7) (r 6) m))))))) m
def Qe4:En:=⟨Q5o,Tryz.f44,Tryz.func44,by kernel_rfl,arg3 (fun G a0 a1 a2 m=>Q5p G a1 a2 a0 m),Xft Qkn⟩
def Q8q (G:Gt)(p21 p0:V)(m:M):R:=brb p21 (bp (pur (X5 p0) m) fun x0 m=>bp (pur (X3 1 x0) m) fun x1 m=>bp (pur (X7 false 1 x1 m) m) fun x2 m=>bp (pur (bin .add true true .int x2 (.int .i64 1)) m) fun x3 m=>bp (pur (X5 p0) m) fun x4 m=>bp (pur (X3 1 x4) m) fun x5 m=>bp (unt (X8 1 x5 x3 m)) fun _ m=>some ((.bool true),m)) (some ((.bool false),m))
def Qdp (G:Gt)(p0 p1:V)(m:M):R:=bp (G.tab Q18 [p0] m) fun x6 m=>brt x6 (bp (pur (X5 p0) m) fun x7 m=>bp (pur (X3 0 x7) m) fun x8 m=>bp (pur (X7 false 1 x8 m) m) fun x9 m=>bp (pur (X5 p0) m) fun x10 m=>bp (pur (X3 1 x10) m) fun x11 m=>bp (pur (X7 false 1 x11 m) m) fun x12 m=>bp (pur (Xb 3 x9 x12) m) fun x13 m=>bp (pur (X3 0 x13) m) fun x14 m=>bp (pur (X7 false 1 x14 m) m) fun x15 m=>bp (pur (bin .eql false true .str x15 p1) m) fun x16 m=>Q8q G x16 p0 m) (Q8q G (.bool false) p0 m) (none)
def Q6f (G:Gt)(p0 p1:V)(m:M):R:=Qdp G p0 p1 m
theorem Ql1 (G:Gt)(a0 a1:V)(m:M):ef G Tryz.f45 [a0,a1] m = Q6f G a0 a1 m:=Xg (r:=fun r m=>Q6f G (r 0) (r 1) m) rfl rfl (tr (seqQ (f:=fun r m=>Qdp G (r 0) (r 1) m) (tr (tr seqD (seqQ (f:=fun r m=>Q8q G (r 21) (r 0) m)))))) m
def Qeg:En:=⟨Qe,Tryz.f45,Tryz.func45,by kernel_rfl,arg2 Q6f,X13 Ql1⟩
def Q86 (G:Gt)(p3:V)(m:M):R:=some (p3,m)
def Qck (G:Gt)(p3 p0:V)(m:M):R:=bp (pur (bin .eql true true .int p3 (.int .u32 0)) m) fun x0 m=>brb x0 (bp (G.tab Q3 [p0,(.int .i64 131)] m) fun x1 m=>Q86 G p3 m) (Q86 G p3 m)
def Qcj (G:Gt)(p0:V)(m:M):R:=bp (G.tab Qt [p0] m) fun x2 m=>Qck G x2 p0 m
def Q5l (G:Gt)(p0:V)(m:M):R:=Qcj G p0 m
theorem Qko (G:Gt)(a0:V)(m:M):ef G Tryz.f46 [a0] m = Q5l G a0 m:=Xg (r:=fun r m=>Q5l G (r 0) m) rfl rfl (tr (seqQ (f:=fun r m=>Qcj G (r 0) m) (tr (seqQ (f:=fun r m=>Qck G (r 3) (r 0) m) (tr (seqQ (f:=fun r m=>Q86 G (r 3) m))))))) m
def Qe7:En:=⟨Q79,Tryz.f46,Tryz.func46,by kernel_rfl,arg1 Q5l,X1y Qko⟩
def Q1l (G:Gt)(p1 p5 p4:V)(m:M):R:=bp (G.tab Q6t [p1] m) fun x0 m=>bp (pur (X3 2 p5) m) fun x1 m=>bp (unt (X8 2 x1 x0 m)) fun _ m=>bp (pur (X3 1 p5) m) fun x2 m=>bp (pur (X7 false 1 x2 m) m) fun x3 m=>bp (G.tab Q68 [p1,x3] m) fun x4 m=>bp (pur (X3 6 p5) m) fun x5 m=>bp (unt (X8 2 x5 x4 m)) fun _ m=>bp (G.tab Q6t [p1] m) fun x6 m=>bp (pur (X3 4 p5) m) fun x7 m=>bp (unt (X8 2 x7 x6 m)) fun _ m=>bp (pur (X3 1 p5) m) fun x8 m=>bp (pur (X7 false 1 x8 m) m) fun x9 m=>bp (G.tab Q68 [p1,x9] m) fun x10 m=>bp (pur (X3 8 p5) m) fun x11 m=>bp (unt (X8 2 x11 x10 m)) fun _ m=>bp (pur (X5 p4) m) fun x12 m=>bp (pur (X3 1 x12) m) fun x13 m=>bp (pur (X7 false 1 x13 m) m) fun x14 m=>bp (pur (X7 true 10 p5 m) m) fun x15 m=>bp (X9 Qjg Qhn 10 1 [(0,x15)] m) fun x16 m=>bp (apS Qjg 10 64 x14 x16 m) fun x17 m=>bp (pur (X5 p4) m) fun x18 m=>bp (pur (X3 1 x18) m) fun x19 m=>bp (unt (X8 1 x19 x17 m)) fun _ m=>some (.tuple ⟨[]⟩,m)
def Qb7 (G:Gt)(p1 p5 p4:V)(m:M):R:=bp (G.tab Qe [p1,(.string ⟨#[97,110,121]⟩)] m) fun x20 m=>brb x20 (bp (pur (X3 1 p5) m) fun x21 m=>bp (unt (X8 1 x21 (.int .i64 (-1)) m)) fun _ m=>Q1l G p1 p5 p4 m) (bp (G.tab Qe [p1,(.string ⟨#[116,99,112]⟩)] m) fun x22 m=>brb x22 (bp (pur (X3 1 p5) m) fun x23 m=>bp (unt (X8 1 x23 (.int .i64 6) m)) fun _ m=>Q1l G p1 p5 p4 m) (bp (G.tab Qe [p1,(.string ⟨#[117,100,112]⟩)] m) fun x24 m=>brb x24 (bp (pur (X3 1 p5) m) fun x25 m=>bp (unt (X8 1 x25 (.int .i64 17) m)) fun _ m=>Q1l G p1 p5 p4 m) (bp (G.tab Qe [p1,(.string ⟨#[105,99,109,112]⟩)] m) fun x26 m=>brb x26 (bp (pur (X3 1 p5) m) fun x27 m=>bp (unt (X8 1 x27 (.int .i64 1) m)) fun _ m=>Q1l G p1 p5 p4 m) (bp (G.tab Q0 [p1,(.int .i64 0),(.int .i64 255)] m) fun x28 m=>bp (pur (X3 1 p5) m) fun x29 m=>bp (unt (X8 1 x29 x28 m)) fun _ m=>Q1l G p1 p5 p4 m))))
def Qb6 (G:Gt)(p1 p4:V)(m:M):R:=bp (X9 Q1 [(.string ⟨#[]⟩)] 1 2 [(0,(.string ⟨#[112,101,114,109,105,116]⟩)),(1,(.string ⟨#[100,101,110,121]⟩))] m) fun x30 m=>bp (G.tab Qr [p1,x30] m) fun x31 m=>bp (pur (bin .eql true true .int x31 (.int .i64 0)) m) fun x32 m=>bp (pur (Xi Qhn [(0,1),(1,1),(2,2),(4,2),(6,2),(8,2)] [(0,x32)]) m) fun x33 m=>bp (some (aNew Qjg Qhn m)) fun x34 m=>bp (unt (X8 10 x34 x33 m)) fun _ m=>Qb7 G p1 x34 p4 m
def Q4o (G:Gt)(p0 p1:V)(m:M):R:=bp (pur (X5 p0) m) fun x35 m=>bp (pur (X3 0 x35) m) fun x36 m=>bp (pur (X3 4 x36) m) fun x37 m=>bp (pur (X7 false 1 x37 m) m) fun x38 m=>bp (pur (X5 p0) m) fun x39 m=>bp (pur (X3 0 x39) m) fun x40 m=>bp (pur (X3 4 x40) m) fun x41 m=>bp (pur (X7 false 1 x41 m) m) fun x42 m=>bp (pur (lenK 1 x42 m) m) fun x43 m=>bp (pur (bin .sub true true .int x43 (.int .i64 1)) m) fun x44 m=>bp (pur (Xb 2 x38 x44) m) fun x45 m=>Qb6 G p1 x45 m
theorem Qjw (G:Gt)(a0 a1:V)(m:M):ef G Tryz.f47 [a0,a1] m = Q4o G a0 a1 m:=Xg (r:=fun r m=>Q4o G (r 0) (r 1) m) rfl rfl (tr (seqQ (f:=fun r m=>Qb6 G (r 1) (r 4) m) (tr (seqQ (f:=fun r m=>Qb7 G (r 1) (r 5) (r 4) m) (tr (seqQ (f:=fun r m=>Q1l G (r 1) (r 5) (r 4) m))))))) m
def Qd9:En:=⟨Q6r,Tryz.f47,Tryz.func47,by kernel_rfl,arg2 Q4o,X13 Qjw⟩
def Q4w (G:Gt)(p3 p2:V)(m:M):R:=bp (pur (X7 true 5 p3 m) m) fun x0 m=>bp (unt (X8 5 p2 x0 m)) fun _ m=>ob (ob (X7 true 5 p2 m) fun v=>ob (some []) fun l=>some (v :: l)) fun l=>some (X1g l,m)
def Q4x (G:Gt)(p0 p3 p2:V)(m:M):R:=bp (G.tab Qe [p0,(.string ⟨#[108,101]⟩)] m) fun x1 m=>brb x1 (bp (pur (X3 3 p3) m) fun x2 m=>bp (pur (X7 false 1 x2 m) m) fun x3 m=>bp (G.tab Q0 [p0,x3,(.int .i64 32)] m) fun x4 m=>bp (pur (X3 4 p3) m) fun x5 m=>bp (unt (X8 1 x5 x4 m)) fun _ m=>Q4w G p3 p2 m) (Q4w G p3 p2 m)
def Q70 (G:Gt)(p0 p4 p3 p2:V)(m:M):R:=bp (G.tab Qe [p0,(.string ⟨#[103,101]⟩)] m) fun x6 m=>brb x6 (bp (pur (X3 1 p4) m) fun x7 m=>bp (pur (X7 false 1 x7 m) m) fun x8 m=>bp (G.tab Q0 [p0,x8,(.int .i64 32)] m) fun x9 m=>bp (pur (X3 3 p3) m) fun x10 m=>bp (unt (X8 1 x10 x9 m)) fun _ m=>bp (pur (X3 4 p3) m) fun x11 m=>bp (unt (X8 1 x11 (.int .i64 32) m)) fun _ m=>Q4x G p0 p3 p2 m) (Q4x G p0 p3 p2 m)
def Q37 (G:Gt)(p4 p3 p0 p2:V)(m:M):R:=bp (pur (X7 true 2 p4 m) m) fun x12 m=>bp (pur (X3 1 p4) m) fun x13 m=>bp (pur (X7 false 1 x13 m) m) fun x14 m=>bp (pur (X3 1 p4) m) fun x15 m=>bp (pur (X7 false 1 x15 m) m) fun x16 m=>bp (pur (X3 1 p3) m) fun x17 m=>bp (unt (X8 2 x17 x12 m)) fun _ m=>ckB (again (pur (X7 false 1 x13 m) m) x14 && (again (pur (X7 false 1 x15 m) m) x16 && true)) (bp (pur (X3 3 p3) m) fun x18 m=>bp (unt (X8 1 x18 x14 m)) fun _ m=>ckB (again (pur (X7 false 1 x15 m) m) x16 && true) (bp (pur (X3 4 p3) m) fun x19 m=>bp (unt (X8 1 x19 x16 m)) fun _ m=>Q70 G p0 p4 p3 p2 m))
def Q9s (G:Gt)(p5 p4 p3 p0 p2:V)(m:M):R:=bp (pur (bin .eql true true .int p5 (.int .i64 0)) m) fun x20 m=>brb x20 (Q37 G p4 p3 p0 p2 m) (bp (pur (bin .eql true true .int p5 (.int .i64 10)) m) fun x21 m=>brb x21 (bp (G.tab Q3 [p0,(.int .i64 10)] m) fun x22 m=>Q37 G p4 p3 p0 p2 m) (bp (G.tab Q3 [p0,(.int .i64 130)] m) fun x23 m=>Q37 G p4 p3 p0 p2 m))
def Q9r (G:Gt)(p0 p3 p2:V)(m:M):R:=bp (G.tab Qd [p0] m) fun x24 m=>bp (G.tab Q9g [x24] m) fun x25 m=>bp (pur (Xd x25 0) m) fun x26 m=>bp (pur (Xd x25 1) m) fun x27 m=>bp (some (aNew Qu Ql m)) fun x28 m=>bp (unt (X8 2 x28 x26 m)) fun _ m=>Q9s G x27 x28 p3 p0 p2 m
def Q9q (G:Gt)(p0 p2:V)(m:M):R:=bp (X9 Q1 [(.string ⟨#[]⟩)] 1 2 [(0,(.string ⟨#[112,101,114,109,105,116]⟩)),(1,(.string ⟨#[100,101,110,121]⟩))] m) fun x29 m=>bp (G.tab Qr [p0,x29] m) fun x30 m=>bp (pur (bin .eql true true .int x30 (.int .i64 0)) m) fun x31 m=>bp (pur (Xi Q3x [(0,1),(1,2),(3,1),(4,1)] [(0,x31)]) m) fun x32 m=>bp (some (aNew Qei Q3x m)) fun x33 m=>bp (unt (X8 5 x33 x32 m)) fun _ m=>Q9r G p0 x33 p2 m
def Q41 (G:Gt)(p0:V)(m:M):R:=bp (some (aNew Qei Q3x m)) fun x34 m=>Q9q G p0 x34 m
theorem Qji (G:Gt)(a0:V)(m:M):ef G Tryz.f48 [a0] m = Q41 G a0 m:=Xg (r:=fun r m=>Q41 G (r 0) m) rfl rfl (tr (seqQ (f:=fun r m=>Q9q G (r 0) (r 2) m) (tr (seqQ (f:=fun r m=>Q9r G (r 0) (r 3) (r 2) m) (tr (seqQ (f:=fun r m=>Q9s G (r 5) (r 4) (r 3) (r 0) (r 2) m) (tr (seqQ (f:=fun r m=>Q37 G (r 4) (r 3) (r 0) (r 2) m) (tr (seqQ (f:=fun r m=>Q70 G (r 0) (r 4) (r 3) (r 2) m) (tr (seqQ (f:=fun r m=>Q4x G (r 0) (r 3) (r 2) m) (tr (seqQ (f:=fun r m=>Q4w G (r 3) (r 2) m))))))))))))))) m
def Qc3:En:=⟨Q87,Tryz.f48,Tryz.func48,by kernel_rfl,arg1 Q41,X1y Qji⟩
def Qx (G:Gt)(m:M):R:=some ((.int .i64 (-1)),m)
def Q8 (G:Gt):Nat→V→V→V→V→M→R
 | 0,_,_,_,_,_=>none
 | i + 1,p8,p7,p1,p0,m=>bp (pur (bin .lss false true .int p8 p7) m) fun x0 m=>brb x0 (bp (pur (Xb 2 p0 p8) m) fun x1 m=>bp (pur (X7 true 2 x1 m) m) fun x2 m=>bp (X59 G.tab p1 [x2] m) fun x3 m=>brb x3 (some (p8,m)) (bp (pur (bin .add true true .int p8 (.int .i64 1)) m) fun x4 m=>(Q8 G i) x4 p7 p1 p0 m)) (Qx G m)
def Q1j (G:Gt)(p8 p7 p1 p0:V)(m:M):R:=Q8 G G.rds p8 p7 p1 p0 m
def Q1i (G:Gt)(p0 p1:V)(m:M):R:=bp (pur (lenK 1 p0 m) m) fun x5 m=>Q1j G (.int .i64 0) x5 p1 p0 m
def Qi (G:Gt)(p0 p1:V)(m:M):R:=Q1i G p0 p1 m
theorem Q7v (G:Gt)(a0 a1:V)(m:M):ef G Tryz.f49 [a0,a1] m = Qi G a0 a1 m:=Xg (r:=fun r m=>Qi G (r 0) (r 1) m) rfl rfl (tr (seqQ (f:=fun r m=>Q1i G (r 0) (r 1) m) (tr (tr (seqQ (f:=fun r m=>Qx G m)) (seqQ (f:=fun r m=>Q1j G (r 8) (r 7) (r 1) (r 0) m) (tr (Xy (X36 (fun i r m=>Q8 G i (r 8) (r 7) (r 1) (r 0) m) (fun _ _=>rfl) (fun i0=>fun r m=>by kernel_rfl))))))))) m
def Q1o:En:=⟨Qm,Tryz.f49,Tryz.func49,by kernel_rfl,arg2 Qi,X13 Q7v⟩
def Q4l (G:Gt)(p0 p1:V)(m:M):R:=bp (some (aNew Q6w (Value.cells p0).toList m)) fun x0 m=>bp (pur (X3 0 x0) m) fun x1 m=>bp (pur (X7 false 1 x1 m) m) fun x2 m=>bp (pur (X7 false 1 p1 m) m) fun x3 m=>bp (pur (bin .eql false true .str x2 x3) m) fun x4 m=>some (x4,m)
theorem Qjx (G:Gt)(a0 a1:V)(m:M):ef G Tryz.f50 [a0,a1] m = Q4l G a0 a1 m:=Xg (r:=fun r m=>Q4l G (r 0) (r 1) m) rfl rfl (fun r m=>by kernel_rfl) m
def Qdk:En:=⟨Q28,Tryz.f50,Tryz.func50,by kernel_rfl,arg2 Q4l,X13 Qjx⟩
def Q9t (G:Gt)(p3:V)(m:M):R:=some (p3,m)
def Q4y (G:Gt)(k0:J3)(p3 p5 p0:V)(m:M):R:=bp (X9 Qg9 [(.int .u32 0)] 1 1 [(0,p5)] m) fun x0 m=>bp (apS Qg9 1 4 p3 x0 m) fun x1 m=>bp (G.tab Q18 [p0] m) fun x2 m=>k0 x2 p0 x1 m
def Q9v (G:Gt)(k0:J3)(p6 p0 p3 p5:V)(m:M):R:=bp (pur (bin .neq true true .int p6 (.int .i64 0)) m) fun x3 m=>brb x3 (bp (G.tab Q3 [p0,(.int .i64 130)] m) fun x4 m=>Q4y G k0 p3 p5 p0 m) (Q4y G k0 p3 p5 p0 m)
def Q9u (G:Gt)(k0:J3)(p0 p3:V)(m:M):R:=bp (G.tab Qd [p0] m) fun x5 m=>bp (G.tab Qf5 [x5] m) fun x6 m=>bp (pur (Xd x6 0) m) fun x7 m=>bp (pur (Xd x6 1) m) fun x8 m=>Q9v G k0 x8 p0 p3 x7 m
def Q12 (G:Gt):Nat→V→V→V→M→R
 | 0,_,_,_,_=>none
 | i + 1,p4,p0,p3,m=>brb p4 (Q9u G (Q12 G i) p0 p3 m) (Q9t G p3 m)
def Q9y (G:Gt)(p4 p0 p3:V)(m:M):R:=Q12 G G.rds p4 p0 p3 m
def Q9x (G:Gt)(p0 p3:V)(m:M):R:=Q9y G (.bool true) p0 p3 m
def Q9w (G:Gt)(p0:V)(m:M):R:=Q9x G p0 (.slice none 0 0) m
def Q2x (G:Gt)(p0:V)(m:M):R:=Q9w G p0 m
theorem Qjj (G:Gt)(a0:V)(m:M):ef G Tryz.f51 [a0] m = Q2x G a0 m:=Xg (r:=fun r m=>Q2x G (r 0) m) rfl rfl (tr (seqQ (f:=fun r m=>Q9w G (r 0) m) (tr (seqQ (f:=fun r m=>Q9x G (r 0) (r 3) m) (tr (tr (seqQ (f:=fun r m=>Q9t G (r 3) m)) (seqQ (f:=fun r m=>Q9y G (r 4) (r 0) (r 3) m) (tr (Xy (X36 (fun i r m=>Q12 G i (r 4) (r 0) (r 3) m) (fun _ _=>rfl) (fun i0=>tr (seqQ (f:=fun r m=>Q9u G (Q12 G i0) (r 0) (r 3) m) (tr (tr seqD (Xy (seqQ (f:=fun r m=>Q9v G (Q12 G i0) (r 6) (r 0) (r 3) (r 5) m) (tr (seqQ (f:=fun r m=>Q4y G (Q12 G i0) (r 3) (r 5) (r 0) m))))))))))))))))))) m
def Qc2:En:=⟨Q2v,Tryz.f51,Tryz.func51,by kernel_rfl,arg1 Q2x,X1y Qjj⟩
end
end Go.Ab.Sh

set_option maxRecDepth 100000
namespace Go.Ab.Sh
open Go Go.Ab Go.Proofs
noncomputable section
def Qq (G:Gt)(m:M):R:=some ((.int .i64 (-1)),m)
def Q4 (G:Gt):Nat→V→V→V→V→M→R
 | 0,_,_,_,_,_=>none
 | i + 1,p8,p7,p1,p0,m=>bp (pur (bin .lss false true .int p8 p7) m) fun x0 m=>brb x0 (bp (pur (Xb 2 p0 p8) m) fun x1 m=>bp (pur (X7 true 2 x1 m) m) fun x2 m=>bp (X59 G.tab p1 [x2] m) fun x3 m=>brb x3 (some (p8,m)) (bp (pur (bin .add true true .int p8 (.int .i64 1)) m) fun x4 m=>(Q4 G i) x4 p7 p1 p0 m)) (Qq G m)
def Q15 (G:Gt)(p8 p7 p1 p0:V)(m:M):R:=Q4 G G.rds p8 p7 p1 p0 m
def Q14 (G:Gt)(p0 p1:V)(m:M):R:=bp (pur (lenK 1 p0 m) m) fun x5 m=>Q15 G (.int .i64 0) x5 p1 p0 m
def Qa (G:Gt)(p0 p1:V)(m:M):R:=Q14 G p0 p1 m
theorem Q6u (G:Gt)(a0 a1:V)(m:M):ef G Tryz.f52 [a0,a1] m = Qa G a0 a1 m:=Xg (r:=fun r m=>Qa G (r 0) (r 1) m) rfl rfl (tr (seqQ (f:=fun r m=>Q14 G (r 0) (r 1) m) (tr (tr (seqQ (f:=fun r m=>Qq G m)) (seqQ (f:=fun r m=>Q15 G (r 8) (r 7) (r 1) (r 0) m) (tr (Xy (X36 (fun i r m=>Q4 G i (r 8) (r 7) (r 1) (r 0) m) (fun _ _=>rfl) (fun i0=>fun r m=>by kernel_rfl))))))))) m
def Q19:En:=⟨Qj,Tryz.f52,Tryz.func52,by kernel_rfl,arg2 Qa,X13 Q6u⟩
def Q4n (G:Gt)(p0 p1:V)(m:M):R:=bp (some (aNew Q4m (Value.cells p0).toList m)) fun x0 m=>bp (pur (X3 0 x0) m) fun x1 m=>bp (pur (X7 false 1 x1 m) m) fun x2 m=>bp (pur (X7 false 1 p1 m) m) fun x3 m=>bp (pur (bin .eql false true .str x2 x3) m) fun x4 m=>some (x4,m)
theorem Qjy (G:Gt)(a0 a1:V)(m:M):ef G Tryz.f53 [a0,a1] m = Q4n G a0 a1 m:=Xg (r:=fun r m=>Q4n G (r 0) (r 1) m) rfl rfl (fun r m=>by kernel_rfl) m
def Qdf:En:=⟨Q29,Tryz.f53,Tryz.func53,by kernel_rfl,arg2 Q4n,X13 Qjy⟩
def Q4f (G:Gt)(p0 p1:V)(m:M):R:=bp (G.tab Qd [p0] m) fun x0 m=>bp (pur (bin .neq false true .str x0 p1) m) fun x1 m=>brb x1 (bp (G.tab Q3 [p0,(.int .i64 130)] m) fun x2 m=>some (.tuple ⟨[]⟩,m)) (some (.tuple ⟨[]⟩,m))
theorem Qjz (G:Gt)(a0 a1:V)(m:M):ef G Tryz.f54 [a0,a1] m = Q4f G a0 a1 m:=Xg (r:=fun r m=>Q4f G (r 0) (r 1) m) rfl rfl (fun r m=>by kernel_rfl) m
def Qdn:En:=⟨Q6p,Tryz.f54,Tryz.func54,by kernel_rfl,arg2 Q4f,X13 Qjz⟩
def Q4r (G:Gt)(m:M):R:=some ((.int .i64 (-1)),m)
def Q17 (G:Gt):Nat→V→V→V→V→M→R
 | 0,_,_,_,_,_=>none
 | i + 1,p8,p7,p1,p0,m=>bp (pur (bin .lss false true .int p8 p7) m) fun x0 m=>brb x0 (bp (pur (Xb 1 p0 p8) m) fun x1 m=>bp (pur (X7 false 1 x1 m) m) fun x2 m=>bp (pur (bin .eql false true .str p1 x2) m) fun x3 m=>brb x3 (some (p8,m)) (bp (pur (bin .add true true .int p8 (.int .i64 1)) m) fun x4 m=>(Q17 G i) x4 p7 p1 p0 m)) (Q4r G m)
def Q4t (G:Gt)(p8 p7 p1 p0:V)(m:M):R:=Q17 G G.rds p8 p7 p1 p0 m
def Q4s (G:Gt)(p0 p1:V)(m:M):R:=bp (pur (lenK 1 p0 m) m) fun x5 m=>Q4t G (.int .i64 0) x5 p1 p0 m
def Q1g (G:Gt)(p0 p1:V)(m:M):R:=Q4s G p0 p1 m
theorem Qf9 (G:Gt)(a0 a1:V)(m:M):ef G Tryz.f55 [a0,a1] m = Q1g G a0 a1 m:=Xg (r:=fun r m=>Q1g G (r 0) (r 1) m) rfl rfl (tr (seqQ (f:=fun r m=>Q4s G (r 0) (r 1) m) (tr (tr (seqQ (f:=fun r m=>Q4r G m)) (seqQ (f:=fun r m=>Q4t G (r 8) (r 7) (r 1) (r 0) m) (tr (Xy (X36 (fun i r m=>Q17 G i (r 8) (r 7) (r 1) (r 0) m) (fun _ _=>rfl) (fun i0=>fun r m=>by kernel_rfl))))))))) m
def Q5r:En:=⟨Q31,Tryz.f55,Tryz.func55,by kernel_rfl,arg2 Q1g,X13 Qf9⟩
def Q1c (G:Gt)(m:M):R:=some ((.int .i64 (-1)),m)
def Qh (G:Gt):Nat→V→V→V→V→M→R
 | 0,_,_,_,_,_=>none
 | i + 1,p8,p7,p1,p0,m=>bp (pur (bin .lss false true .int p8 p7) m) fun x0 m=>brb x0 (bp (pur (Xb 3 p0 p8) m) fun x1 m=>bp (pur (X7 true 3 x1 m) m) fun x2 m=>bp (X59 G.tab p1 [x2] m) fun x3 m=>brb x3 (some (p8,m)) (bp (pur (bin .add true true .int p8 (.int .i64 1)) m) fun x4 m=>(Qh G i) x4 p7 p1 p0 m)) (Q1c G m)
def Q23 (G:Gt)(p8 p7 p1 p0:V)(m:M):R:=Qh G G.rds p8 p7 p1 p0 m
def Q22 (G:Gt)(p0 p1:V)(m:M):R:=bp (pur (lenK 1 p0 m) m) fun x5 m=>Q23 G (.int .i64 0) x5 p1 p0 m
def Qn (G:Gt)(p0 p1:V)(m:M):R:=Q22 G p0 p1 m
theorem Qad (G:Gt)(a0 a1:V)(m:M):ef G Tryz.f56 [a0,a1] m = Qn G a0 a1 m:=Xg (r:=fun r m=>Qn G (r 0) (r 1) m) rfl rfl (tr (seqQ (f:=fun r m=>Q22 G (r 0) (r 1) m) (tr (tr (seqQ (f:=fun r m=>Q1c G m)) (seqQ (f:=fun r m=>Q23 G (r 8) (r 7) (r 1) (r 0) m) (tr (Xy (X36 (fun i r m=>Qh G i (r 8) (r 7) (r 1) (r 0) m) (fun _ _=>rfl) (fun i0=>fun r m=>by kernel_rfl))))))))) m
def Q27:En:=⟨Q11,Tryz.f56,Tryz.func56,by kernel_rfl,arg2 Qn,X13 Qad⟩
def Q2t (G:Gt)(p0 p1:V)(m:M):R:=bp (some (aNew Q64 (Value.cells p0).toList m)) fun x0 m=>bp (pur (X3 0 x0) m) fun x1 m=>bp (pur (X7 false 1 x1 m) m) fun x2 m=>bp (pur (X7 false 1 p1 m) m) fun x3 m=>bp (pur (bin .eql false true .str x2 x3) m) fun x4 m=>some (x4,m)
theorem Qif (G:Gt)(a0 a1:V)(m:M):ef G Tryz.f57 [a0,a1] m = Q2t G a0 a1 m:=Xg (r:=fun r m=>Q2t G (r 0) (r 1) m) rfl rfl (fun r m=>by kernel_rfl) m
def Q8x:En:=⟨Q1m,Tryz.f57,Tryz.func57,by kernel_rfl,arg2 Q2t,X13 Qif⟩
def Qz (G:Gt)(p0 p6 p7:V)(m:M):R:=bp (X9 Q1 [(.string ⟨#[]⟩)] 1 2 [(0,p6),(1,p7)] m) fun x0 m=>bp (G.tab Q6 [p0,x0] m) fun x1 m=>some (.tuple ⟨[]⟩,m)
def Qbp (G:Gt)(p7 p5 p1 p0 p6:V)(m:M):R:=bp (pur (bin .eql true true .str p7 (.string ⟨#[112,114,101,102,105,120,45,108,105,115,116]⟩)) m) fun x2 m=>brb x2 (bp (G.tab Qb [p1] m) fun x3 m=>bp (pur (X5 p5) m) fun x4 m=>bp (pur (X3 2 x4) m) fun x5 m=>bp (unt (X8 1 x5 x3 m)) fun _ m=>Qz G p0 p6 p7 m) (bp (pur (bin .eql true true .str p7 (.string ⟨#[99,111,109,109,117,110,105,116,121,45,108,105,115,116]⟩)) m) fun x6 m=>brb x6 (bp (G.tab Qb [p1] m) fun x7 m=>bp (pur (X5 p5) m) fun x8 m=>bp (pur (X3 3 x8) m) fun x9 m=>bp (unt (X8 1 x9 x7 m)) fun _ m=>Qz G p0 p6 p7 m) (bp (pur (bin .eql true true .str p7 (.string ⟨#[116,97,103]⟩)) m) fun x10 m=>brb x10 (bp (G.tab Q0 [p1,(.int .i64 0),(.int .i64 16777216)] m) fun x11 m=>bp (pur (X5 p5) m) fun x12 m=>bp (pur (X3 4 x12) m) fun x13 m=>bp (unt (X8 1 x13 x11 m)) fun _ m=>Qz G p0 p6 p7 m) (bp (pur (bin .eql true true .str p7 (.string ⟨#[109,101,116,114,105,99]⟩)) m) fun x14 m=>brb x14 (bp (G.tab Q0 [p1,(.int .i64 0),(.int .i64 16777216)] m) fun x15 m=>bp (pur (X5 p5) m) fun x16 m=>bp (pur (X3 5 x16) m) fun x17 m=>bp (unt (X8 1 x17 x15 m)) fun _ m=>Qz G p0 p6 p7 m) (bp (pur (bin .eql true true .str p7 (.string ⟨#[97,115]⟩)) m) fun x18 m=>brb x18 (bp (G.tab Q0 [p1,(.int .i64 1),(.int .i64 4294967295)] m) fun x19 m=>bp (pur (X5 p5) m) fun x20 m=>bp (pur (X3 6 x20) m) fun x21 m=>bp (unt (X8 1 x21 x19 m)) fun _ m=>Qz G p0 p6 p7 m) (bp (G.tab Q3 [p1,(.int .i64 130)] m) fun x22 m=>Qz G p0 p6 p7 m)))))
def Qbo (G:Gt)(p30 p1 p5 p0 p6 p27:V)(m:M):R:=brb p30 (bp (G.tab Qd [p1] m) fun x23 m=>Qbp G x23 p5 p1 p0 p6 m) (bp (pur (bin .eql true true .str p27 (.string ⟨#[115,101,116]⟩)) m) fun x24 m=>brb x24 (bp (G.tab Q9e [p0,p1,p5] m) fun x25 m=>bp (X9 Q1 [(.string ⟨#[]⟩)] 1 2 [(0,p6),(1,x25)] m) fun x26 m=>bp (G.tab Q6 [p0,x26] m) fun x27 m=>some (.tuple ⟨[]⟩,m)) (bp (pur (bin .eql true true .str p27 (.string ⟨#[99,111,110,116,105,110,117,101]⟩)) m) fun x28 m=>brb x28 (bp (pur (X5 p5) m) fun x29 m=>bp (pur (X3 0 x29) m) fun x30 m=>bp (pur (X7 false 1 x30 m) m) fun x31 m=>bp (pur (bin .add true true .int x31 (.int .i64 1)) m) fun x32 m=>bp (G.tab Q0 [p1,x32,(.int .i64 65535)] m) fun x33 m=>bp (pur (X5 p5) m) fun x34 m=>bp (pur (X3 14 x34) m) fun x35 m=>bp (unt (X8 1 x35 x33 m)) fun _ m=>bp (X9 Q1 [(.string ⟨#[]⟩)] 1 1 [(0,p6)] m) fun x36 m=>bp (G.tab Q6 [p0,x36] m) fun x37 m=>some (.tuple ⟨[]⟩,m)) (bp (G.tab Q3 [p1,(.int .i64 130)] m) fun x38 m=>some (.tuple ⟨[]⟩,m))))
def Qbn (G:Gt)(p27 p1 p5 p0 p6:V)(m:M):R:=bp (pur (bin .eql true true .str p27 (.string ⟨#[109,97,116,99,104]⟩)) m) fun x39 m=>Qbo G x39 p1 p5 p0 p6 p27 m
def Qbm (G:Gt)(p6 p1 p5 p0:V)(m:M):R:=Qbn G p6 p1 p5 p0 p6 m
def Qbl (G:Gt)(p1 p5 p0:V)(m:M):R:=bp (G.tab Qd [p1] m) fun x40 m=>Qbm G x40 p1 p5 p0 m
def Qbk (G:Gt)(p4 p1 p0:V)(m:M):R:=bp (pur (lenK 1 p4 m) m) fun x41 m=>bp (pur (bin .sub true true .int x41 (.int .i64 1)) m) fun x42 m=>bp (pur (Xb 15 p4 x42) m) fun x43 m=>Qbl G p1 x43 p0 m
def Q5b (G:Gt)(p0 p1:V)(m:M):R:=bp (pur (X5 p0) m) fun x44 m=>bp (pur (X3 0 x44) m) fun x45 m=>bp (pur (X3 9 x45) m) fun x46 m=>bp (pur (X7 false 1 x46 m) m) fun x47 m=>bp (pur (X5 p0) m) fun x48 m=>bp (pur (X3 17 x48) m) fun x49 m=>bp (pur (X7 false 1 x49 m) m) fun x50 m=>bp (pur (Xb 3 x47 x50) m) fun x51 m=>bp (pur (X3 1 x51) m) fun x52 m=>bp (pur (X7 false 1 x52 m) m) fun x53 m=>Qbk G x53 p1 p0 m
theorem Qkp (G:Gt)(a0 a1:V)(m:M):ef G Tryz.f58 [a0,a1] m = Q5b G a0 a1 m:=Xg (r:=fun r m=>Q5b G (r 0) (r 1) m) rfl rfl (tr (seqQ (f:=fun r m=>Qbk G (r 4) (r 1) (r 0) m) (tr (seqQ (f:=fun r m=>Qbl G (r 1) (r 5) (r 0) m) (tr (seqQ (f:=fun r m=>Qbm G (r 6) (r 1) (r 5) (r 0) m) (tr (seqQ (f:=fun r m=>Qbn G (r 27) (r 1) (r 5) (r 0) (r 6) m) (tr (Xy (seqQ (f:=fun r m=>Qbo G (r 30) (r 1) (r 5) (r 0) (r 6) (r 27) m) (tr (X3l (seqQ (f:=fun r m=>Qbp G (r 7) (r 5) (r 1) (r 0) (r 6) m) (tr (seqQ (f:=fun r m=>Qz G (r 0) (r 6) (r 7) m)))) (refQ)))))))))))))) m
def Qe6:En:=⟨Q5a,Tryz.f58,Tryz.func58,by kernel_rfl,arg2 Q5b,X13 Qkp⟩
def Qha (G:Gt)(p3:V)(m:M):R:=bp (pur (X3j 4 1 p3 none none m) m) fun x0 m=>bp (G.tab Q34 [x0,(.string ⟨#[46]⟩)] m) fun x1 m=>some (x1,m)
def Q9d (G:Gt):Nat→V→V→V→M→R
 | 0,_,_,_,_=>none
 | i + 1,p5,p0,p3,m=>bp (pur (bin .lss true true .int p5 (.int .i64 4)) m) fun x2 m=>brb x2 (bp (pur (bin .mul true true .int (.int .i64 8) p5) m) fun x3 m=>bp (pur (bin .sub true true .int (.int .i64 24) x3) m) fun x4 m=>bp (pur (bin .shr false true .int p0 x4) m) fun x5 m=>bp (pur (bin .and true true .int x5 (.int .u32 255)) m) fun x6 m=>bp (conv (.int .i64) x6 m) fun x7 m=>bp (G.tab Q1r [x7] m) fun x8 m=>bp (pur (X1w 4 1 p3 p5) m) fun x9 m=>bp (unt (X8 1 x9 x8 m)) fun _ m=>bp (pur (bin .add true true .int p5 (.int .i64 1)) m) fun x10 m=>(Q9d G i) x10 p0 p3 m) (Qha G p3 m)
def Qhd (G:Gt)(p5 p0 p3:V)(m:M):R:=Q9d G G.rds p5 p0 p3 m
def Qhc (G:Gt)(p0 p3:V)(m:M):R:=Qhd G (.int .i64 0) p0 p3 m
def Qhb (G:Gt)(p0:V)(m:M):R:=bp (some (aNew Qin Qio m)) fun x11 m=>Qhc G p0 x11 m
def Qd1 (G:Gt)(p0:V)(m:M):R:=Qhb G p0 m
theorem Qn1 (G:Gt)(a0:V)(m:M):ef G Tryz.f59 [a0] m = Qd1 G a0 m:=Xg (r:=fun r m=>Qd1 G (r 0) m) rfl rfl (tr (seqQ (f:=fun r m=>Qhb G (r 0) m) (tr (seqQ (f:=fun r m=>Qhc G (r 0) (r 3) m) (tr (tr (seqQ (f:=fun r m=>Qha G (r 3) m)) (seqQ (f:=fun r m=>Qhd G (r 5) (r 0) (r 3) m) (tr (Xy (X36 (fun i r m=>Q9d G i (r 5) (r 0) (r 3) m) (fun _ _=>rfl) (fun i0=>fun r m=>by kernel_rfl))))))))))) m
def Qik:En:=⟨Q5s,Tryz.f59,Tryz.func59,by kernel_rfl,arg1 Qd1,X1y Qn1⟩
def Q98 (G:Gt)(p2:V)(m:M):R:=some (p2,m)
def Qh4 (G:Gt)(p0:V)(m:M):R:=bp (pur (bin .neq true true .str p0 (.string ⟨#[]⟩)) m) fun x0 m=>brb x0 (bp (G.tab Qb0 [p0,(.string ⟨#[48,49,50,51,52,53,54,55,56,57]⟩)] m) fun x1 m=>bp (pur (bin .eql true true .str x1 (.string ⟨#[]⟩)) m) fun x2 m=>brb x2 (bp (pur (bin .eql true true .str p0 (.string ⟨#[48]⟩)) m) fun x3 m=>brb x3 (Q98 G (.bool true) m) (bp (pur (Xh p0 (.int .i64 0)) m) fun x4 m=>bp (pur (bin .neq true true .int x4 (.int .u8 48)) m) fun x5 m=>Q98 G x5 m)) (Q98 G (.bool false) m)) (Q98 G (.bool false) m)
def Qcz (G:Gt)(p0:V)(m:M):R:=Qh4 G p0 m
theorem Qn2 (G:Gt)(a0:V)(m:M):ef G Tryz.f60 [a0] m = Qcz G a0 m:=Xg (r:=fun r m=>Qcz G (r 0) m) rfl rfl (tr (seqQ (f:=fun r m=>Qh4 G (r 0) m) (tr (seqQ (f:=fun r m=>Q98 G (r 2) m))))) m
def Qil:En:=⟨Qgk,Tryz.f60,Tryz.func60,by kernel_rfl,arg1 Qcz,X1y Qn2⟩
def Q6x (G:Gt)(p29 p6:V)(m:M):R:=brb p29 (some (.tuple ⟨[(.int .i64 0),(.bool false)]⟩,m)) (some (.tuple ⟨[p6,(.bool true)]⟩,m))
def Qgb (G:Gt)(p7 p6 p1 p0:V)(m:M):R:=bp (pur (bin .neq true false .iface p7 .nilIface) m) fun x0 m=>brb x0 (Q6x G (.bool true) p6 m) (bp (pur (bin .lss true true .int p6 (.int .i64 0)) m) fun x1 m=>brb x1 (Q6x G (.bool true) p6 m) (bp (pur (bin .gtr false true .int p6 p1) m) fun x2 m=>brb x2 (Q6x G (.bool true) p6 m) (bp (G.tab Q1r [p6] m) fun x3 m=>bp (pur (bin .neq false true .str x3 p0) m) fun x4 m=>Q6x G x4 p6 m)))
def Qga (G:Gt)(p0 p1:V)(m:M):R:=bp (G.tab Q35 [p0] m) fun x5 m=>bp (pur (Xd x5 0) m) fun x6 m=>bp (pur (Xd x5 1) m) fun x7 m=>Qgb G x7 x6 p1 p0 m
def Qba (G:Gt)(p0 p1:V)(m:M):R:=Qga G p0 p1 m
theorem Qmn (G:Gt)(a0 a1:V)(m:M):ef G Tryz.f61 [a0,a1] m = Qba G a0 a1 m:=Xg (r:=fun r m=>Qba G (r 0) (r 1) m) rfl rfl (tr (seqQ (f:=fun r m=>Qga G (r 0) (r 1) m) (tr (seqQ (f:=fun r m=>Qgb G (r 7) (r 6) (r 1) (r 0) m) (tr (tr seqD (seqQ (f:=fun r m=>Q6x G (r 29) (r 6) m)))))))) m
def Qht:En:=⟨Qaw,Tryz.f61,Tryz.func61,by kernel_rfl,arg2 Qba,X13 Qmn⟩
def Q4p (G:Gt)(p0 p1:V)(m:M):R:=bp (pur (X5 p0) m) fun x0 m=>bp (pur (X3 0 x0) m) fun x1 m=>bp (pur (X3 10 x1) m) fun x2 m=>bp (pur (X7 false 1 x2 m) m) fun x3 m=>bp (pur (X5 p0) m) fun x4 m=>bp (pur (X3 0 x4) m) fun x5 m=>bp (pur (X3 10 x5) m) fun x6 m=>bp (pur (X7 false 1 x6 m) m) fun x7 m=>bp (pur (lenK 1 x7 m) m) fun x8 m=>bp (pur (bin .sub true true .int x8 (.int .i64 1)) m) fun x9 m=>bp (pur (Xb 3 x3 x9) m) fun x10 m=>bp (G.tab Qd [p1] m) fun x11 m=>bp (pur (bin .eql true true .str x11 (.string ⟨#[114,111,117,116,101,114,45,105,100]⟩)) m) fun x12 m=>brb x12 (bp (G.tab Qt [p1] m) fun x13 m=>bp (pur (X5 x10) m) fun x14 m=>bp (pur (X3 1 x14) m) fun x15 m=>bp (unt (X8 1 x15 x13 m)) fun _ m=>bp (X9 Q1 [(.string ⟨#[]⟩)] 1 1 [(0,x11)] m) fun x16 m=>bp (G.tab Q6 [p0,x16] m) fun x17 m=>some (.tuple ⟨[]⟩,m)) (bp (pur (bin .eql true true .str x11 (.string ⟨#[114,101,100,105,115,116,114,105,98,117,116,101]⟩)) m) fun x18 m=>brb x18 (bp (pur (X5 x10) m) fun x19 m=>bp (pur (X3 2 x19) m) fun x20 m=>bp (pur (X7 false 1 x20 m) m) fun x21 m=>bp (G.tab Q3n [p1,(.string ⟨#[98,103,112]⟩),(.int .u8 8),(.bool true)] m) fun x22 m=>ckB (again (pur (X7 false 1 x20 m) m) x21 && true) (bp (X9 Q7a Q4v 4 1 [(0,x22)] m) fun x23 m=>bp (apS Q7a 4 40 x21 x23 m) fun x24 m=>bp (pur (X5 x10) m) fun x25 m=>bp (pur (X3 2 x25) m) fun x26 m=>bp (unt (X8 1 x26 x24 m)) fun _ m=>some (.tuple ⟨[]⟩,m))) (bp (G.tab Q3 [p1,(.int .i64 130)] m) fun x27 m=>some (.tuple ⟨[]⟩,m)))
theorem Qk0 (G:Gt)(a0 a1:V)(m:M):ef G Tryz.f62 [a0,a1] m = Q4p G a0 a1 m:=Xg (r:=fun r m=>Q4p G (r 0) (r 1) m) rfl rfl (fun r m=>by kernel_rfl) m
def Qdo:En:=⟨Q6s,Tryz.f62,Tryz.func62,by kernel_rfl,arg2 Q4p,X13 Qk0⟩
def Q58 (G:Gt)(p0 p1:V)(m:M):R:=bp (pur (X5 p0) m) fun x0 m=>bp (pur (X3 0 x0) m) fun x1 m=>bp (pur (X3 11 x1) m) fun x2 m=>bp (pur (X7 false 1 x2 m) m) fun x3 m=>bp (pur (X5 p0) m) fun x4 m=>bp (pur (X3 0 x4) m) fun x5 m=>bp (pur (X3 11 x5) m) fun x6 m=>bp (pur (X7 false 1 x6 m) m) fun x7 m=>bp (pur (lenK 1 x7 m) m) fun x8 m=>bp (pur (bin .sub true true .int x8 (.int .i64 1)) m) fun x9 m=>bp (pur (Xb 6 x3 x9) m) fun x10 m=>bp (G.tab Qd [p1] m) fun x11 m=>bp (pur (bin .eql true true .str x11 (.string ⟨#[114,111,117,116,101,114,45,105,100]⟩)) m) fun x12 m=>brb x12 (bp (G.tab Qt [p1] m) fun x13 m=>bp (pur (X5 x10) m) fun x14 m=>bp (pur (X3 2 x14) m) fun x15 m=>bp (unt (X8 1 x15 x13 m)) fun _ m=>bp (X9 Q1 [(.string ⟨#[]⟩)] 1 1 [(0,x11)] m) fun x16 m=>bp (G.tab Q6 [p0,x16] m) fun x17 m=>some (.tuple ⟨[]⟩,m)) (bp (pur (bin .eql true true .str x11 (.string ⟨#[110,101,116,119,111,114,107]⟩)) m) fun x18 m=>brb x18 (bp (G.tab Qt [p1] m) fun x19 m=>bp (G.tab Q3a [p1,(.bool false)] m) fun x20 m=>bp (G.tab Q5o [p1,x19,x20] m) fun x21 m=>bp (some (aNew Qu Ql m)) fun x22 m=>bp (unt (X8 2 x22 x21 m)) fun _ m=>bp (pur (X7 true 2 x22 m) m) fun x23 m=>bp (G.tab Q7u [x23] m) fun x24 m=>bp (X9 Q1 [(.string ⟨#[]⟩)] 1 2 [(0,x11),(1,x24)] m) fun x25 m=>bp (G.tab Q6 [p0,x25] m) fun x26 m=>bp (pur (X5 x10) m) fun x27 m=>bp (pur (X3 3 x27) m) fun x28 m=>bp (pur (X7 false 1 x28 m) m) fun x29 m=>bp (pur (X7 true 2 x22 m) m) fun x30 m=>bp (X9 Qu Ql 2 1 [(0,x30)] m) fun x31 m=>bp (apS Qu 2 16 x29 x31 m) fun x32 m=>bp (pur (X5 x10) m) fun x33 m=>bp (pur (X3 3 x33) m) fun x34 m=>bp (unt (X8 1 x34 x32 m)) fun _ m=>some (.tuple ⟨[]⟩,m)) (bp (pur (bin .eql true true .str x11 (.string ⟨#[110,101,105,103,104,98,111,114]⟩)) m) fun x35 m=>brb x35 (bp (G.tab Q6j [p0,p1,x10] m) fun x36 m=>some (.tuple ⟨[]⟩,m)) (bp (pur (bin .eql true true .str x11 (.string ⟨#[114,101,100,105,115,116,114,105,98,117,116,101]⟩)) m) fun x37 m=>brb x37 (bp (pur (X5 x10) m) fun x38 m=>bp (pur (X3 5 x38) m) fun x39 m=>bp (pur (X7 false 1 x39 m) m) fun x40 m=>bp (G.tab Q3n [p1,(.string ⟨#[111,115,112,102]⟩),(.int .u8 4),(.bool false)] m) fun x41 m=>ckB (again (pur (X7 false 1 x39 m) m) x40 && true) (bp (X9 Q7a Q4v 4 1 [(0,x41)] m) fun x42 m=>bp (apS Q7a 4 40 x40 x42 m) fun x43 m=>bp (pur (X5 x10) m) fun x44 m=>bp (pur (X3 5 x44) m) fun x45 m=>bp (unt (X8 1 x45 x43 m)) fun _ m=>some (.tuple ⟨[]⟩,m))) (bp (G.tab Q3 [p1,(.int .i64 130)] m) fun x46 m=>some (.tuple ⟨[]⟩,m)))))
theorem Qkq (G:Gt)(a0 a1:V)(m:M):ef G Tryz.f63 [a0,a1] m = Q58 G a0 a1 m:=Xg (r:=fun r m=>Q58 G (r 0) (r 1) m) rfl rfl (fun r m=>by kernel_rfl) m
def Qdv:En:=⟨Q74,Tryz.f63,Tryz.func63,by kernel_rfl,arg2 Q58,X13 Qkq⟩
end
end Go.Ab.Sh

set_option maxRecDepth 100000
namespace Go.Ab.Sh
open Go Go.Ab Go.Proofs
noncomputable section
def Q38 (G:Gt)(p0:V)(m:M):R:=bp (some (aNew Q5 Q2 m)) fun x0 m=>bp (pur (X5 p0) m) fun x1 m=>bp (pur (X3 0 x1) m) fun x2 m=>bp (pur (X7 false 1 x2 m) m) fun x3 m=>bp (pur (X5 p0) m) fun x4 m=>bp (pur (X3 1 x4) m) fun x5 m=>bp (pur (X7 false 1 x5 m) m) fun x6 m=>bp (pur (aMax x6 (.int .i64 1)) m) fun x7 m=>bp (pur (bin .sub true true .int x7 (.int .i64 1)) m) fun x8 m=>bp (pur (Xb 3 x3 x8) m) fun x9 m=>bp (pur (X3 1 x9) m) fun x10 m=>bp (pur (X7 true 2 x10 m) m) fun x11 m=>bp (unt (X8 2 x0 x11 m)) fun _ m=>ob (ob (X7 true 2 x0 m) fun v=>ob (some []) fun l=>some (v :: l)) fun l=>some (X1g l,m)
theorem Qk1 (G:Gt)(a0:V)(m:M):ef G Tryz.f64 [a0] m = Q38 G a0 m:=Xg (r:=fun r m=>Q38 G (r 0) m) rfl rfl (fun r m=>by kernel_rfl) m
def Qdg:En:=⟨Q8p,Tryz.f64,Tryz.func64,by kernel_rfl,arg1 Q38,X1y Qk1⟩
def Q6q (G:Gt)(p2 p0:V)(m:M):R:=bp (conv (.int .u8) p0 m) fun x0 m=>bp (pur (Xh (.string ⟨#[0,1,2,2,3,3,3,3,4,4,4,4,4,4,4,4,5,5,5,5,5,5,5,5,5,5,5,5,5,5,5,5,6,6,6,6,6,6,6,6,6,6,6,6,6,6,6,6,6,6,6,6,6,6,6,6,6,6,6,6,6,6,6,6,7,7,7,7,7,7,7,7,7,7,7,7,7,7,7,7,7,7,7,7,7,7,7,7,7,7,7,7,7,7,7,7,7,7,7,7,7,7,7,7,7,7,7,7,7,7,7,7,7,7,7,7,7,7,7,7,7,7,7,7,7,7,7,7,8,8,8,8,8,8,8,8,8,8,8,8,8,8,8,8,8,8,8,8,8,8,8,8,8,8,8,8,8,8,8,8,8,8,8,8,8,8,8,8,8,8,8,8,8,8,8,8,8,8,8,8,8,8,8,8,8,8,8,8,8,8,8,8,8,8,8,8,8,8,8,8,8,8,8,8,8,8,8,8,8,8,8,8,8,8,8,8,8,8,8,8,8,8,8,8,8,8,8,8,8,8,8,8,8,8,8,8,8,8,8,8,8,8,8,8,8,8,8,8,8,8,8,8,8,8,8,8]⟩) x0) m) fun x1 m=>bp (conv (.int .i64) x1 m) fun x2 m=>bp (pur (bin .add false true .int p2 x2) m) fun x3 m=>some (x3,m)
def Q8r (G:Gt)(p0 p2:V)(m:M):R:=bp (pur (bin .geq true true .int p0 (.int .u32 256)) m) fun x4 m=>brb x4 (bp (pur (bin .shr true true .int p0 (.int .u64 8)) m) fun x5 m=>bp (pur (bin .add true true .int p2 (.int .i64 8)) m) fun x6 m=>Q6q G x6 x5 m) (Q6q G p2 p0 m)
def Qdq (G:Gt)(p0 p2:V)(m:M):R:=bp (pur (bin .geq true true .int p0 (.int .u32 65536)) m) fun x7 m=>brb x7 (bp (pur (bin .shr true true .int p0 (.int .u64 16)) m) fun x8 m=>Q8r G x8 (.int .i64 16) m) (Q8r G p0 p2 m)
def Q6g (G:Gt)(p0:V)(m:M):R:=Qdq G p0 (.int .i64 0) m
theorem Ql2 (G:Gt)(a0:V)(m:M):ef G Tryz.f73 [a0] m = Q6g G a0 m:=Xg (r:=fun r m=>Q6g G (r 0) m) rfl rfl (tr (seqQ (f:=fun r m=>Qdq G (r 0) (r 2) m) (tr (seqQ (f:=fun r m=>Q8r G (r 0) (r 2) m) (tr (seqQ (f:=fun r m=>Q6q G (r 2) (r 0) m))))))) m
def Qef:En:=⟨Qaf,Tryz.f73,Tryz.func73,by kernel_rfl,arg1 Q6g,X1y Ql2⟩
def Q7k (G:Gt)(p0 p1:V)(m:M):R:=bp (G.tab Q1e [p0,p1] m) fun x0 m=>some (x0,m)
theorem Qlk (G:Gt)(a0 a1:V)(m:M):ef G Tryz.f77 [a0,a1] m = Q7k G a0 a1 m:=Xg (r:=fun r m=>Q7k G (r 0) (r 1) m) rfl rfl (fun r m=>by kernel_rfl) m
def Qfd:En:=⟨Qdu,Tryz.f77,Tryz.func77,by kernel_rfl,arg2 Q7k,X13 Qlk⟩
def Q1q (G:Gt)(p0 p1:V)(m:M):R:=bp (pur (X5 p0) m) fun x0 m=>bp (pur (X1w 256 1 x0 p1) m) fun x1 m=>bp (pur (X7 false 1 x1 m) m) fun x2 m=>some (x2,m)
theorem Qgj (G:Gt)(a0 a1:V)(m:M):ef G Tryz.f78 [a0,a1] m = Q1q G a0 a1 m:=Xg (r:=fun r m=>Q1q G (r 0) (r 1) m) rfl rfl (fun r m=>by kernel_rfl) m
def Q6v:En:=⟨Q2f,Tryz.f78,Tryz.func78,by kernel_rfl,arg2 Q1q,X13 Qgj⟩
def Qaq (G:Gt)(m:M):R:=some ((.int .i64 (-1)),m)
def Q3j (G:Gt):Nat→V→M→R
 | 0,_,_=>none
 | i + 1,p175,m=>bp (X3w p175 m) fun x2 m=>bp (pur (Xd x2 0) m) fun x3 m=>brb x3 (bp (pur (Xd x2 1) m) fun x4 m=>bp (pur (Xd x2 2) m) fun x5 m=>bp (pur (bin .eql true true .int x5 (.int .i32 65533)) m) fun x6 m=>brb x6 (some (x4,m)) ((Q3j G i) p175 m)) (Qaq G m)
def Qar (G:Gt)(p175:V)(m:M):R:=Q3j G G.rds p175 m
def Qa7 (G:Gt)(m:M):R:=some ((.int .i64 (-1)),m)
def Qa8 (G:Gt)(k0:J6)(p9 p0 p14 p15 p7 p8:V)(m:M):R:=bp (pur (bin .add true true .int p9 (.int .i64 1)) m) fun x15 m=>k0 x15 p0 p14 p15 p7 p8 m
def Qej (G:Gt)(p9 p8:V)(m:M):R:=bp (pur (bin .sub false true .int p9 p8) m) fun x16 m=>some (x16,m)
def Qa9 (G:Gt)(k0:J6):Nat→V→V→V→V→V→V→V→M→R
 | 0,_,_,_,_,_,_,_,_=>none
 | i + 1,p16,p7,p0,p9,p8,p14,p15,m=>bp (pur (lenK 0 p7 m) m) fun x17 m=>bp (pur (bin .lss false true .int p16 x17) m) fun x18 m=>brb x18 (bp (pur (bin .sub false true .int p9 p16) m) fun x19 m=>bp (pur (Xh p0 x19) m) fun x20 m=>bp (pur (bin .sub false true .int p8 p16) m) fun x21 m=>bp (pur (Xh p7 x21) m) fun x22 m=>bp (pur (bin .neq false true .int x20 x22) m) fun x23 m=>brb x23 (Qa8 G k0 p9 p0 p14 p15 p7 p8 m) (bp (pur (bin .add true true .int p16 (.int .i64 1)) m) fun x24 m=>(Qa9 G k0 i) x24 p7 p0 p9 p8 p14 p15 m)) (Qej G p9 p8 m)
def Qek (G:Gt)(k0:J6)(p16 p7 p0 p9 p8 p14 p15:V)(m:M):R:=Qa9 G k0 G.rds p16 p7 p0 p9 p8 p14 p15 m
def Qaa (G:Gt)(k0:J6)(p139 p7 p0 p9 p8 p14 p15:V)(m:M):R:=brb p139 (Qek G k0 (.int .i64 2) p7 p0 p9 p8 p14 p15 m) (Qa8 G k0 p9 p0 p14 p15 p7 p8 m)
def Qel (G:Gt)(k0:J6)(p0 p9 p14 p15 p7 p8:V)(m:M):R:=bp (pur (Xh p0 p9) m) fun x25 m=>bp (pur (bin .eql false true .int x25 p14) m) fun x26 m=>brb x26 (bp (pur (bin .sub true true .int p9 (.int .i64 1)) m) fun x27 m=>bp (pur (Xh p0 x27) m) fun x28 m=>bp (pur (bin .eql false true .int x28 p15) m) fun x29 m=>Qaa G k0 x29 p7 p0 p9 p8 p14 p15 m) (Qaa G k0 (.bool false) p7 p0 p9 p8 p14 p15 m)
def Q1p (G:Gt):Nat→V→V→V→V→V→V→M→R
 | 0,_,_,_,_,_,_,_=>none
 | i + 1,p9,p0,p14,p15,p7,p8,m=>bp (pur (lenK 0 p0 m) m) fun x30 m=>bp (pur (bin .lss false true .int p9 x30) m) fun x31 m=>brb x31 (Qel G (Q1p G i) p0 p9 p14 p15 p7 p8 m) (Qa7 G m)
def Qem (G:Gt)(p9 p0 p14 p15 p7 p8:V)(m:M):R:=Q1p G G.rds p9 p0 p14 p15 p7 p8 m
def Qen (G:Gt)(p9 p0 p14 p15 p7 p8:V)(m:M):R:=Qem G p9 p0 p14 p15 p7 p8 m
def Qeo (G:Gt)(p7 p8 p9 p0 p14:V)(m:M):R:=bp (pur (bin .sub true true .int p8 (.int .i64 1)) m) fun x32 m=>bp (pur (Xh p7 x32) m) fun x33 m=>Qen G p9 p0 p14 x33 p7 p8 m
def Qep (G:Gt)(p0 p9 p8 p1 p7:V)(m:M):R:=brb (.bool true) (bp (pur (bin .sub false true .int p9 p8) m) fun x8 m=>bp (pur (X11 p0 (some x8) none) m) fun x9 m=>bp (conv .intStr p1 m) fun x10 m=>bp (G.tab Qfs [x9,x10] m) fun x11 m=>bp (pur (bin .geq true true .int x11 (.int .i64 0)) m) fun x12 m=>brb x12 (bp (pur (bin .add false true .int p9 x11) m) fun x13 m=>bp (pur (bin .sub false true .int x13 p8) m) fun x14 m=>some (x14,m)) (Qa7 G m)) (bp (pur (Xh p7 p8) m) fun x34 m=>Qeo G p7 p8 p9 p0 x34 m)
def Qir (G:Gt)(p0 p9 p8 p1 p7:V)(m:M):R:=Qep G p0 p9 p8 p1 p7 m
def Qeq (G:Gt)(m:M):R:=some ((.int .i64 (-1)),m)
def Q73 (G:Gt)(k0:J4)(p98 p9 p0 p7 p8:V)(m:M):R:=brb p98 (none) (k0 p9 p0 p7 p8 m)
def Qer (G:Gt)(k0:J4)(p10 p9 p0 p7 p8:V)(m:M):R:=bp (G.tab Qhe [p9] m) fun x35 m=>bp (pur (bin .gtr false true .int p10 x35) m) fun x36 m=>brb x36 (bp (pur (lenK 0 p0 m) m) fun x37 m=>bp (pur (bin .lss false true .int p9 x37) m) fun x38 m=>brb x38 (Q73 G k0 (.bool true) p9 p0 p7 p8 m) (Q73 G k0 (.bool false) p9 p0 p7 p8 m)) (Q73 G k0 (.bool false) p9 p0 p7 p8 m)
def Qes (G:Gt)(k0:J4)(p9 p10 p0 p7 p8:V)(m:M):R:=bp (pur (bin .add true true .int p9 (.int .i64 1)) m) fun x39 m=>Qer G k0 p10 x39 p0 p7 p8 m
def Qet (G:Gt)(k0:J4)(p10 p9 p0 p7 p8:V)(m:M):R:=bp (pur (bin .add true true .int p10 (.int .i64 1)) m) fun x40 m=>Qes G k0 p9 x40 p0 p7 p8 m
def Qis (G:Gt)(k0:J4)(p10 p9 p0 p7 p8:V)(m:M):R:=Qet G k0 p10 p9 p0 p7 p8 m
def Qeu (G:Gt)(p9 p8:V)(m:M):R:=bp (pur (bin .sub false true .int p9 p8) m) fun x41 m=>some (x41,m)
def Qab (G:Gt):Nat→V→V→V→V→V→M→R
 | 0,_,_,_,_,_,_=>none
 | i + 1,p12,p7,p0,p9,p8,m=>bp (pur (lenK 0 p7 m) m) fun x42 m=>bp (pur (bin .lss false true .int p12 x42) m) fun x43 m=>brb x43 (bp (pur (bin .sub false true .int p9 p12) m) fun x44 m=>bp (pur (Xh p0 x44) m) fun x45 m=>bp (pur (bin .sub false true .int p8 p12) m) fun x46 m=>bp (pur (Xh p7 x46) m) fun x47 m=>bp (pur (bin .neq false true .int x45 x47) m) fun x48 m=>brb x48 (none) (bp (pur (bin .add true true .int p12 (.int .i64 1)) m) fun x49 m=>(Qab G i) x49 p7 p0 p9 p8 m)) (Qeu G p9 p8 m)
def Qev (G:Gt)(p12 p7 p0 p9 p8:V)(m:M):R:=Qab G G.rds p12 p7 p0 p9 p8 m
def Qac (G:Gt)(p7 p0 p9 p8:V)(m:M):R:=Qev G (.int .i64 1) p7 p0 p9 p8 m
def Q9n (G:Gt)(k0:J4)(p0 p9 p7 p8:V)(m:M):R:=bp (pur (Xh p0 p9) m) fun x50 m=>bp (pur (Xh p7 p8) m) fun x51 m=>bp (pur (bin .neq false true .int x50 x51) m) fun x52 m=>brb x52 (bp (pur (bin .add true true .int p9 (.int .i64 1)) m) fun x53 m=>bp (pur (X11 p0 (some x53) none) m) fun x54 m=>bp (pur (Xh p7 p8) m) fun x55 m=>bp (G.tab Q6o [x54,x55] m) fun x56 m=>bp (pur (bin .lss true true .int x56 (.int .i64 0)) m) fun x57 m=>brb x57 (some ((.int .i64 (-1)),m)) (bp (pur (bin .add true true .int x56 (.int .i64 1)) m) fun x58 m=>bp (pur (bin .add false true .int p9 x58) m) fun x59 m=>Qac G p7 p0 x59 p8 m)) (Qac G p7 p0 p9 p8 m)
def Qy (G:Gt):Nat→V→V→V→V→M→R
 | 0,_,_,_,_,_=>none
 | i + 1,p9,p0,p7,p8,m=>bp (pur (lenK 0 p0 m) m) fun x60 m=>bp (pur (bin .lss false true .int p9 x60) m) fun x61 m=>brb x61 (Q9n G (Qy G i) p0 p9 p7 p8 m) (Qeq G m)
def Q9m (G:Gt)(p9 p0 p7 p8:V)(m:M):R:=Qy G G.rds p9 p0 p7 p8 m
def Qav (G:Gt)(p9 p0 p7 p8:V)(m:M):R:=Q9m G p9 p0 p7 p8 m
def Qau (G:Gt)(p8 p0 p7:V)(m:M):R:=Qav G p8 p0 p7 p8 m
def Qat (G:Gt)(p7 p0:V)(m:M):R:=bp (pur (lenK 0 p7 m) m) fun x62 m=>bp (pur (bin .sub true true .int x62 (.int .i64 1)) m) fun x63 m=>Qau G x63 p0 p7 m
def Qas (G:Gt)(p183 p1 p0:V)(m:M):R:=brb p183 (some ((.int .i64 (-1)),m)) (bp (conv .intStr p1 m) fun x64 m=>Qat G x64 p0 m)
def Q7d (G:Gt)(p171 p0 p1:V)(m:M):R:=brb p171 (bp (X3i p0 m) fun x7 m=>Qar G x7 m) (bp (G.tab Q60 [p1] m) fun x65 m=>bp (pur (un .not x65) m) fun x66 m=>Qas G x66 p1 p0 m)
def Q3i (G:Gt)(p160 p0 p1:V)(m:M):R:=brb p160 (bp (conv (.int .u8) p1 m) fun x0 m=>bp (G.tab Q6o [p0,x0] m) fun x1 m=>some (x1,m)) (bp (pur (bin .eql true true .int p1 (.int .i32 65533)) m) fun x67 m=>Q7d G x67 p0 p1 m)
def Q5e (G:Gt)(p1 p0:V)(m:M):R:=bp (pur (bin .leq true true .int (.int .i32 0) p1) m) fun x68 m=>brb x68 (bp (pur (bin .lss true true .int p1 (.int .i32 128)) m) fun x69 m=>Q3i G x69 p0 p1 m) (Q3i G (.bool false) p0 p1 m)
def Q2b (G:Gt)(p1 p0:V)(m:M):R:=Q5e G p1 p0 m
theorem Qk2 (G:Gt)(a0 a1:V)(m:M):ef G Tryz.f82 [a0,a1] m = Q2b G a1 a0 m:=Xg (r:=fun r m=>Q2b G (r 1) (r 0) m) rfl rfl (tr (seqQ (f:=fun r m=>Q5e G (r 1) (r 0) m) (tr (Xy (seqQ (f:=fun r m=>Q3i G (r 160) (r 0) (r 1) m) (tr (X3l (refQ) (seqQ (f:=fun r m=>Q7d G (r 171) (r 0) (r 1) m) (tr (X3l (tr (seqQ (f:=fun r m=>Qaq G m)) (seqQ (f:=fun r m=>Qar G (r 175) m) (tr (Xy (X36 (fun i r m=>Q3j G i (r 175) m) (fun _ _=>rfl) (fun i0=>fun r m=>by kernel_rfl)))))) (seqQ (f:=fun r m=>Qas G (r 183) (r 1) (r 0) m) (tr (X3l (refQ) (Xq2 (seqQ (f:=fun r m=>Qat G (r 7) (r 0) m) (tr (seqQ (f:=fun r m=>Qau G (r 8) (r 0) (r 7) m) (tr (seqQ (f:=fun r m=>Qav G (r 9) (r 0) (r 7) (r 8) m) (tr (seqQ (f:=fun r m=>Q9m G (r 9) (r 0) (r 7) (r 8) m) (tr (tr (seqQ (f:=fun r m=>Qeq G m) (tr (seqQ (f:=fun r m=>Qir G (r 0) (r 9) (r 8) (r 1) (r 7) m) (tr (seqQ (f:=fun r m=>Qep G (r 0) (r 9) (r 8) (r 1) (r 7) m) (tr (tr (seqQ (f:=fun r m=>Qa7 G m)) (X3l (refQ) (Xq2 (seqQ (f:=fun r m=>Qeo G (r 7) (r 8) (r 9) (r 0) (r 14) m) (tr (seqQ (f:=fun r m=>Qen G (r 9) (r 0) (r 14) (r 15) (r 7) (r 8) m) (tr (seqQ (f:=fun r m=>Qem G (r 9) (r 0) (r 14) (r 15) (r 7) (r 8) m) (tr (Xy (X36 (fun i r m=>Q1p G i (r 9) (r 0) (r 14) (r 15) (r 7) (r 8) m) (fun _ _=>rfl) (fun i0=>tr (seqQ (f:=fun r m=>Qel G (Q1p G i0) (r 0) (r 9) (r 14) (r 15) (r 7) (r 8) m) (tr (tr (seqQ (f:=fun r m=>Qa8 G (Q1p G i0) (r 9) (r 0) (r 14) (r 15) (r 7) (r 8) m)) (Xy (seqQ (f:=fun r m=>Qaa G (Q1p G i0) (r 139) (r 7) (r 0) (r 9) (r 8) (r 14) (r 15) m) (tr (X3l (tr (seqQ (f:=fun r m=>Qej G (r 9) (r 8) m)) (seqQ (f:=fun r m=>Qek G (Q1p G i0) (r 16) (r 7) (r 0) (r 9) (r 8) (r 14) (r 15) m) (tr (Xy (X36 (fun i r m=>Qa9 G (Q1p G i0) i (r 16) (r 7) (r 0) (r 9) (r 8) (r 14) (r 15) m) (fun _ _=>rfl) (fun i1=>fun r m=>by kernel_rfl)))))) (refQ)))))))))))))))))))))))))) (Xy (X36 (fun i r m=>Qy G i (r 9) (r 0) (r 7) (r 8) m) (fun _ _=>rfl) (fun i0=>tr (seqQ (f:=fun r m=>Q9n G (Qy G i0) (r 0) (r 9) (r 7) (r 8) m) (tr (Xy (Xq2 (seqQ (f:=fun r m=>Qac G (r 7) (r 0) (r 9) (r 8) m) (tr (tr (seqQ (f:=fun r m=>Qeu G (r 9) (r 8) m) (tr (seqQ (f:=fun r m=>Qis G (Qy G i0) (r 10) (r 9) (r 0) (r 7) (r 8) m) (tr (seqQ (f:=fun r m=>Qet G (Qy G i0) (r 10) (r 9) (r 0) (r 7) (r 8) m) (tr (seqQ (f:=fun r m=>Qes G (Qy G i0) (r 9) (r 10) (r 0) (r 7) (r 8) m) (tr (seqQ (f:=fun r m=>Qer G (Qy G i0) (r 10) (r 9) (r 0) (r 7) (r 8) m) (tr (seqQ (f:=fun r m=>Q73 G (Qy G i0) (r 98) (r 9) (r 0) (r 7) (r 8) m)))))))))))) (seqQ (f:=fun r m=>Qev G (r 12) (r 7) (r 0) (r 9) (r 8) m) (tr (Xy (X36 (fun i r m=>Qab G i (r 12) (r 7) (r 0) (r 9) (r 8) m) (fun _ _=>rfl) (fun i1=>fun r m=>by kernel_rfl)))))))))))))))))))))))))))))))))))))) m
def Qdl:En:=⟨Q2a,Tryz.f82,Tryz.func82,by kernel_rfl,arg2 (fun G a0 a1 m=>Q2b G a1 a0 m),X13 Qk2⟩
def Qgc (G:Gt)(p5:V)(m:M):R:=some (.tuple ⟨[p5,(.int .i64 0)]⟩,m)
def Q8e (G:Gt):Nat→V→V→V→M→R
 | 0,_,_,_,_=>none
 | i + 1,p14,p4,p5,m=>bp (pur (bin .lss true true .int p14 (.int .i64 4)) m) fun x0 m=>brb x0 (bp (pur (Xb 1 p4 p14) m) fun x1 m=>bp (pur (X7 false 1 x1 m) m) fun x2 m=>bp (G.tab Q6i [x2,(.int .i64 255)] m) fun x3 m=>bp (pur (Xd x3 0) m) fun x4 m=>bp (pur (Xd x3 1) m) fun x5 m=>bp (pur (un .not x5) m) fun x6 m=>brb x6 (some (.tuple ⟨[(.int .u32 0),(.int .i64 4)]⟩,m)) (bp (pur (bin .shl true true .int p5 (.int .u64 8)) m) fun x7 m=>bp (conv (.int .u32) x4 m) fun x8 m=>bp (pur (bin .or false true .int x7 x8) m) fun x9 m=>bp (pur (bin .add true true .int p14 (.int .i64 1)) m) fun x10 m=>(Q8e G i) x10 p4 x9 m)) (Qgc G p5 m)
def Qgh (G:Gt)(p14 p4 p5:V)(m:M):R:=Q8e G G.rds p14 p4 p5 m
def Qgg (G:Gt)(p4 p5:V)(m:M):R:=Qgh G (.int .i64 0) p4 p5 m
def Qgf (G:Gt)(p4:V)(m:M):R:=Qgg G p4 (.int .u32 0) m
def Qge (G:Gt)(p4:V)(m:M):R:=bp (pur (lenK 1 p4 m) m) fun x11 m=>bp (pur (bin .neq true true .int x11 (.int .i64 4)) m) fun x12 m=>brb x12 (some (.tuple ⟨[(.int .u32 0),(.int .i64 4)]⟩,m)) (Qgf G p4 m)
def Qgd (G:Gt)(p0:V)(m:M):R:=bp (G.tab Q5y [p0,(.string ⟨#[46]⟩)] m) fun x13 m=>Qge G x13 m
def Qb9 (G:Gt)(p0:V)(m:M):R:=Qgd G p0 m
theorem Qmo (G:Gt)(a0:V)(m:M):ef G Tryz.f86 [a0] m = Qb9 G a0 m:=Xg (r:=fun r m=>Qb9 G (r 0) m) rfl rfl (tr (seqQ (f:=fun r m=>Qgd G (r 0) m) (tr (seqQ (f:=fun r m=>Qge G (r 4) m) (tr (seqQ (f:=fun r m=>Qgf G (r 4) m) (tr (seqQ (f:=fun r m=>Qgg G (r 4) (r 5) m) (tr (tr (seqQ (f:=fun r m=>Qgc G (r 5) m)) (seqQ (f:=fun r m=>Qgh G (r 14) (r 4) (r 5) m) (tr (Xy (X36 (fun i r m=>Q8e G i (r 14) (r 4) (r 5) m) (fun _ _=>rfl) (fun i0=>fun r m=>by kernel_rfl))))))))))))))) m
def Qhw:En:=⟨Qe9,Tryz.f86,Tryz.func86,by kernel_rfl,arg1 Qb9,X1y Qmo⟩
def Qd0 (G:Gt)(p0:V)(m:M):R:=bp (pur (un .xor p0) m) fun x0 m=>bp (G.tab Q52 [x0] m) fun x1 m=>bp (G.tab Qcw [x1] m) fun x2 m=>bp (pur (un .xor x2) m) fun x3 m=>bp (pur (bin .neq false true .int x3 p0) m) fun x4 m=>brb x4 (some (.tuple ⟨[(.int .i64 0),(.int .i64 10)]⟩,m)) (some (.tuple ⟨[x1,(.int .i64 0)]⟩,m))
theorem Qn3 (G:Gt)(a0:V)(m:M):ef G Tryz.f87 [a0] m = Qd0 G a0 m:=Xg (r:=fun r m=>Qd0 G (r 0) m) rfl rfl (fun r m=>by kernel_rfl) m
def Qij:En:=⟨Qgl,Tryz.f87,Tryz.func87,by kernel_rfl,arg1 Qd0,X1y Qn3⟩
def Qed (G:Gt)(p3 p1:V)(m:M):R:=brb p3 (some ((.int .i64 1),m)) (bp (pur (X3 0 p1) m) fun x0 m=>bp (pur (X7 false 1 x0 m) m) fun x1 m=>bp (pur (X3 1 p1) m) fun x2 m=>bp (pur (X7 false 1 x2 m) m) fun x3 m=>bp (G.tab Qcw [x3] m) fun x4 m=>ckB (again (pur (X7 false 1 x0 m) m) x1 && true) (bp (pur (bin .and false true .int x1 x4) m) fun x5 m=>bp (pur (bin .neq true true .int x5 (.int .u32 0)) m) fun x6 m=>brb x6 (some ((.int .i64 10),m)) (some ((.int .i64 0),m))))
def Qgi (G:Gt)(p1:V)(m:M):R:=bp (pur (X3 1 p1) m) fun x7 m=>bp (pur (X7 false 1 x7 m) m) fun x8 m=>bp (pur (bin .lss true true .int x8 (.int .i64 0)) m) fun x9 m=>brb x9 (Qed G (.bool true) p1 m) (bp (pur (X3 1 p1) m) fun x10 m=>bp (pur (X7 false 1 x10 m) m) fun x11 m=>bp (pur (bin .gtr true true .int x11 (.int .i64 32)) m) fun x12 m=>Qed G x12 p1 m)
def Qb8 (G:Gt)(p0:V)(m:M):R:=bp (some (aNew Qu (Value.cells p0).toList m)) fun x13 m=>Qgi G x13 m
theorem Qmp (G:Gt)(a0:V)(m:M):ef G Tryz.f88 [a0] m = Qb8 G a0 m:=Xg (r:=fun r m=>Qb8 G (r 0) m) rfl rfl (tr (seqQ (f:=fun r m=>Qgi G (r 1) m) (tr (tr seqD (Xy (seqQ (f:=fun r m=>Qed G (r 3) (r 1) m))))))) m
def Qhu:En:=⟨Qe8,Tryz.f88,Tryz.func88,by kernel_rfl,arg1 Qb8,X1y Qmp⟩
def Q4k (G:Gt)(p0:V)(m:M):R:=bp (some (aNew Qu Ql m)) fun x0 m=>bp (G.tab Qe [p0,(.string ⟨#[97,110,121]⟩)] m) fun x1 m=>brb x1 (bp (pur (Xi Ql [(0,1),(1,1)] []) m) fun x2 m=>bp (unt (X8 2 x0 x2 m)) fun _ m=>ob (ob (X7 true 2 x0 m) fun v=>ob (some []) fun l=>some (v :: l)) fun l=>some (X1g l,m)) (bp (G.tab Qe [p0,(.string ⟨#[104,111,115,116]⟩)] m) fun x3 m=>brb x3 (bp (G.tab Qt [p0] m) fun x4 m=>bp (pur (Xi Ql [(0,1),(1,1)] [(0,x4),(1,(.int .i64 32))]) m) fun x5 m=>bp (unt (X8 2 x0 x5 m)) fun _ m=>ob (ob (X7 true 2 x0 m) fun v=>ob (some []) fun l=>some (v :: l)) fun l=>some (X1g l,m)) (bp (G.tab Qt [p0] m) fun x6 m=>bp (G.tab Q3a [p0,(.bool true)] m) fun x7 m=>bp (G.tab Q5o [p0,x6,x7] m) fun x8 m=>bp (unt (X8 2 x0 x8 m)) fun _ m=>ob (ob (X7 true 2 x0 m) fun v=>ob (some []) fun l=>some (v :: l)) fun l=>some (X1g l,m)))
theorem Qk3 (G:Gt)(a0:V)(m:M):ef G Tryz.f89 [a0] m = Q4k G a0 m:=Xg (r:=fun r m=>Q4k G (r 0) m) rfl rfl (fun r m=>by kernel_rfl) m
def Qdd:En:=⟨Q6t,Tryz.f89,Tryz.func89,by kernel_rfl,arg1 Q4k,X1y Qk3⟩
end
end Go.Ab.Sh
