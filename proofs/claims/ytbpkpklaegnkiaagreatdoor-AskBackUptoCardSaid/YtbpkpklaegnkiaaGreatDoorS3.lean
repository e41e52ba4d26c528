/-
  Functions of the program as plain definitions. No conditions.
-/
import Derived.Test.YtbpkpklaegnkiaaGreatDoorAb5
import Derived.Test.YtbpkpklaegnkiaaGreatDoorZ
import Derived.KernelRfl
import Derived.Test.YtbpkpklaegnkiaaGreatDoorProg
set_option linter.unusedSimpArgs false
set_option linter.unusedVariables false
set_option maxRecDepth 100000
namespace Go.Ab.Sh
open Go Go.Ab Go.Proofs
noncomputable section
def Q5n (G:Gt)(p1 p0:V)(m:M):R:=bp (pur (X4 false 1 p1 m) m) fun x0 m=>bp (G.tab Q6g [x0,p0] m) fun x1 m=>bp (pur (un .not x1) m) fun x2 m=>some (x2,m)
theorem Q105 (G:Gt)(a0 a1:V)(m:M):ef G Tryz.f542 [a0,a1] m = Q5n G a1 a0 m:=Xb (r:=fun r m=>Q5n G (r 1) (r 0) m) rfl rfl (fun r m=>by kernel_rfl) m
def Qfd:En:=⟨Qn9,Tryz.f542,Tryz.func542,by kernel_rfl,arg2 (fun G a0 a1 m=>Q5n G a1 a0 m),X19 Q105⟩
def Q2a (G:Gt)(p0 p1:V)(m:M):R:=bp (G.tab Q4x [p0,p1] m) fun x0 m=>bp (pur (bin .geq true true .int x0 (.int .i64 0)) m) fun x1 m=>some (x1,m)
theorem Qqh (G:Gt)(a0 a1:V)(m:M):ef G Tryz.f543 [a0,a1] m = Q2a G a0 a1 m:=Xb (r:=fun r m=>Q2a G (r 0) (r 1) m) rfl rfl (fun r m=>by kernel_rfl) m
def Q6j:En:=⟨Q6g,Tryz.f543,Tryz.func543,by kernel_rfl,arg2 Q2a,X19 Qqh⟩
def Qco:En:=wE Qcn Tryz.f548 Tryz.func548 ⟨_,by go_invoke; rfl⟩
def Qh4:En:=wE Qgi Tryz.f573 Tryz.func573 ⟨_,by go_invoke; rfl⟩
def Q88 (G:Gt)(p10:V)(m:M):R:=some (p10,m)
def Qcx (G:Gt)(p11 p0 p9 p10:V)(m:M):R:=bp (pur (un .not p11) m) fun x0 m=>brb x0 (bp (pur (Xa p0) m) fun x1 m=>bp (pur (X0 2 x1) m) fun x2 m=>bp (pur (X4 false 1 x2 m) m) fun x3 m=>bp (pur (lenK 1 x3 m) m) fun x4 m=>bp (conv (.int .i32) x4 m) fun x5 m=>bp (pur (Xa p0) m) fun x6 m=>bp (pur (X0 2 x6) m) fun x7 m=>bp (pur (X4 false 1 x7 m) m) fun x8 m=>bp (pur (X4 true 3 p9 m) m) fun x9 m=>bp (Xc Qd Qb5 3 1 [(0,x9)] m) fun x10 m=>bp (apS Qd 3 12 x8 x10 m) fun x11 m=>bp (pur (Xa p0) m) fun x12 m=>bp (pur (X0 2 x12) m) fun x13 m=>bp (unt (X8 1 x13 x11 m)) fun _ m=>bp (pur (Xa p0) m) fun x14 m=>bp (pur (X0 3 x14) m) fun x15 m=>bp (pur (X4 false 1 x15 m) m) fun x16 m=>bp (pur (X4 true 3 p9 m) m) fun x17 m=>bp (unt (Xn (.struct [(0,1,false,.int),(1,1,false,.int),(2,1,false,.int)]) x16 x17 x5 m)) fun _ m=>Q88 G x5 m) (Q88 G p10 m)
def Qcw (G:Gt)(p0 p9:V)(m:M):R:=bp (pur (Xa p0) m) fun x18 m=>bp (pur (X0 3 x18) m) fun x19 m=>bp (pur (X4 false 1 x19 m) m) fun x20 m=>bp (pur (X4 true 3 p9 m) m) fun x21 m=>bp (pur (X1j (.struct [(0,1,false,.int),(1,1,false,.int),(2,1,false,.int)]) (.int .i32 0) true x20 x21 m) m) fun x22 m=>bp (pur (X6 x22 0) m) fun x23 m=>bp (pur (X6 x22 1) m) fun x24 m=>Qcx G x24 p0 p9 x23 m
def Qcv (G:Gt)(p1 p2 p3 p0:V)(m:M):R:=bp (pur (X18 Qb5 [(0,1),(1,1),(2,1)] [(0,p1),(1,p2),(2,p3)]) m) fun x25 m=>bp (some (aNew Qd Qb5 m)) fun x26 m=>bp (unt (X8 3 x26 x25 m)) fun _ m=>Qcw G p0 x26 m
def Q87 (G:Gt)(p2 p3 p1 p0:V)(m:M):R:=bp (pur (bin .eql false true .int p2 p3) m) fun x27 m=>brb x27 (some (p2,m)) (Qcv G p1 p2 p3 p0 m)
def Q1j (G:Gt)(p2 p3 p1 p0:V)(m:M):R:=Q87 G p2 p3 p1 p0 m
theorem Q195 (G:Gt)(a0 a1 a2 a3:V)(m:M):ef G Tryz.f581 [a0,a1,a2,a3] m = Q1j G a2 a3 a1 a0 m:=Xb (r:=fun r m=>Q1j G (r 2) (r 3) (r 1) (r 0) m) rfl rfl (tr (seqQ (f:=fun r m=>Q87 G (r 2) (r 3) (r 1) (r 0) m) (tr (seqQ (f:=fun r m=>Qcv G (r 1) (r 2) (r 3) (r 0) m) (tr (seqQ (f:=fun r m=>Qcw G (r 0) (r 9) m) (tr (seqQ (f:=fun r m=>Qcx G (r 11) (r 0) (r 9) (r 10) m) (tr (seqQ (f:=fun r m=>Q88 G (r 10) m))))))))))) m
def Qax:En:=⟨Q2w,Tryz.f581,Tryz.func581,by kernel_rfl,arg4 (fun G a0 a1 a2 a3 m=>Q1j G a2 a3 a1 a0 m),X3u Q195⟩
def Qki:En:=wE Qju Tryz.f589 Tryz.func589 ⟨_,by go_invoke; rfl⟩
def Qfi:En:=wE Qet Tryz.f590 Tryz.func590 ⟨_,by go_invoke; rfl⟩
def Qdm:En:=wE Qd2 Tryz.f598 Tryz.func598 ⟨_,by go_invoke; rfl⟩
def Q1fh:En:=wE Q1en Tryz.f606 Tryz.func606 ⟨_,by go_invoke; rfl⟩
def Qny (G:Gt)(p10:V)(m:M):R:=some (.tuple ⟨[p10,(.int .i64 0)]⟩,m)
def Q4w (G:Gt)(k0:J6)(p0 p12 p15 p16 p11 p5 p2 p3:V)(m:M):R:=bp (pur (Xa p0) m) fun x0 m=>bp (pur (X0 0 x0) m) fun x1 m=>bp (pur (X4 false 1 x1 m) m) fun x2 m=>bp (G.tab Q19 [x2,p12,p15,p16] m) fun x3 m=>bp (pur (X6 x3 0) m) fun x4 m=>bp (pur (X6 x3 1) m) fun x5 m=>bp (pur (bin .neq true true .int x5 (.int .i64 0)) m) fun x6 m=>brb x6 (some (.tuple ⟨[(.int .i64 0),x5]⟩,m)) (bp (pur (bin .sub true true .int p11 (.int .i64 1)) m) fun x7 m=>k0 x7 p0 p5 p2 x4 p3 m)
def Qdn (G:Gt)(k0:J6)(p51 p0 p12 p15 p11 p5 p2 p3 p16 p14:V)(m:M):R:=brb p51 (Q4w G k0 p0 p12 p15 (.int .i64 0) p11 p5 p2 p3 m) (brb p3 (Q4w G k0 p0 p12 (.int .i64 1) p16 p11 p5 p2 p3 m) (brb p14 (Q4w G k0 p0 p12 p15 (.int .i64 1) p11 p5 p2 p3 m) (Q4w G k0 p0 p12 (.int .i64 0) p16 p11 p5 p2 p3 m)))
def Qnz (G:Gt)(k0:J6)(p3 p14 p0 p12 p15 p11 p5 p2 p16:V)(m:M):R:=brb p3 (Qdn G k0 p14 p0 p12 p15 p11 p5 p2 p3 p16 p14 m) (Qdn G k0 (.bool false) p0 p12 p15 p11 p5 p2 p3 p16 p14 m)
def Qo0 (G:Gt)(k0:J6)(p10 p3 p14 p0 p12 p11 p5 p2:V)(m:M):R:=Qnz G k0 p3 p14 p0 p12 p10 p11 p5 p2 p10 m
def Qo1 (G:Gt)(k0:J6)(p2 p5 p11 p10 p3 p0 p12:V)(m:M):R:=bp (pur (X0 1 p5) m) fun x8 m=>bp (pur (X4 false 1 x8 m) m) fun x9 m=>bp (pur (bin .sub true true .int x9 (.int .i64 1)) m) fun x10 m=>bp (pur (bin .sub false true .int x10 p11) m) fun x11 m=>bp (pur (bin .shr false true .int p2 x11) m) fun x12 m=>bp (pur (bin .and true true .int x12 (.int .u64 1)) m) fun x13 m=>bp (pur (bin .eql true true .int x13 (.int .u64 1)) m) fun x14 m=>Qo0 G k0 p10 p3 x14 p0 p12 p11 p5 p2 m
def Qo2 (G:Gt)(k0:J6)(p13 p2 p5 p11 p10 p3 p0 p12:V)(m:M):R:=bp (pur (bin .neq true true .int p13 (.int .i64 0)) m) fun x15 m=>brb x15 (some (.tuple ⟨[(.int .i64 0),p13]⟩,m)) (Qo1 G k0 p2 p5 p11 p10 p3 p0 p12 m)
def Qo3 (G:Gt)(k0:J6)(p0 p5 p11 p2 p10 p3:V)(m:M):R:=bp (pur (Xa p0) m) fun x16 m=>bp (pur (X0 0 x16) m) fun x17 m=>bp (pur (X4 false 1 x17 m) m) fun x18 m=>bp (pur (X0 0 p5) m) fun x19 m=>bp (pur (X4 false 1 x19 m) m) fun x20 m=>bp (pur (bin .add false true .int x20 p11) m) fun x21 m=>bp (G.tab Qaw [x21] m) fun x22 m=>ckB (again (pur (X4 false 1 x17 m) m) x18 && true) (bp (G.tab Q1y [x18,x22] m) fun x23 m=>bp (pur (X6 x23 0) m) fun x24 m=>bp (pur (X6 x23 1) m) fun x25 m=>Qo2 G k0 x25 p2 p5 p11 p10 p3 p0 x24 m)
def Q12 (G:Gt):Nat→V→V→V→V→V→V→M→R
 | 0,_,_,_,_,_,_,_=>none
 | i + 1,p11,p0,p5,p2,p10,p3,m=>bp (pur (bin .geq true true .int p11 (.int .i64 0)) m) fun x26 m=>brb x26 (Qo3 G (Q12 G i) p0 p5 p11 p2 p10 p3 m) (Qny G p10 m)
def Qo4 (G:Gt)(p11 p0 p5 p2 p10 p3:V)(m:M):R:=Q12 G G.rds p11 p0 p5 p2 p10 p3 m
def Qo5 (G:Gt)(p5 p0 p2 p10 p3:V)(m:M):R:=bp (pur (X0 1 p5) m) fun x27 m=>bp (pur (X4 false 1 x27 m) m) fun x28 m=>bp (pur (bin .sub true true .int x28 (.int .i64 1)) m) fun x29 m=>Qo4 G x29 p0 p5 p2 p10 p3 m
def Qo6 (G:Gt)(p5 p0 p2 p3:V)(m:M):R:=Qo5 G p5 p0 p2 (.int .i64 1) p3 m
def Q76 (G:Gt)(p1 p0 p2 p3:V)(m:M):R:=bp (some (aNew Q18o (Value.cells p1).toList m)) fun x30 m=>Qo6 G x30 p0 p2 p3 m
theorem Q13u (G:Gt)(a0 a1 a2 a3:V)(m:M):ef G Tryz.f607 [a0,a1,a2,a3] m = Q76 G a1 a0 a2 a3 m:=Xb (r:=fun r m=>Q76 G (r 1) (r 0) (r 2) (r 3) m) rfl rfl (tr (seqQ (f:=fun r m=>Qo6 G (r 5) (r 0) (r 2) (r 3) m) (tr (seqQ (f:=fun r m=>Qo5 G (r 5) (r 0) (r 2) (r 10) (r 3) m) (tr (tr (seqQ (f:=fun r m=>Qny G (r 10) m)) (seqQ (f:=fun r m=>Qo4 G (r 11) (r 0) (r 5) (r 2) (r 10) (r 3) m) (tr (Xm (X1l (fun i r m=>Q12 G i (r 11) (r 0) (r 5) (r 2) (r 10) (r 3) m) (fun _ _=>rfl) (fun i0=>tr (seqQ (f:=fun r m=>Qo3 G (Q12 G i0) (r 0) (r 5) (r 11) (r 2) (r 10) (r 3) m) (tr (tr seqD (Xm (seqQ (f:=fun r m=>Qo2 G (Q12 G i0) (r 13) (r 2) (r 5) (r 11) (r 10) (r 3) (r 0) (r 12) m) (tr (seqQ (f:=fun r m=>Qo1 G (Q12 G i0) (r 2) (r 5) (r 11) (r 10) (r 3) (r 0) (r 12) m) (tr (seqQ (f:=fun r m=>Qo0 G (Q12 G i0) (r 10) (r 3) (r 14) (r 0) (r 12) (r 11) (r 5) (r 2) m) (tr (seqQ (f:=fun r m=>Qnz G (Q12 G i0) (r 3) (r 14) (r 0) (r 12) (r 15) (r 11) (r 5) (r 2) (r 16) m) (tr (tr (seqQ (f:=fun r m=>Q4w G (Q12 G i0) (r 0) (r 12) (r 15) (r 16) (r 11) (r 5) (r 2) (r 3) m)) (Xm (seqQ (f:=fun r m=>Qdn G (Q12 G i0) (r 51) (r 0) (r 12) (r 15) (r 11) (r 5) (r 2) (r 3) (r 16) (r 14) m))))))))))))))))))))))))))) m
def Qi1:En:=⟨Qr8,Tryz.f607,Tryz.func607,by kernel_rfl,arg4 (fun G a0 a1 a2 a3 m=>Q76 G a1 a0 a2 a3 m),X3u Q13u⟩
def Q32 (G:Gt)(p16 p1 p0 p3 p4 p2:V)(m:M):R:=brb p16 (some (.tuple ⟨[]⟩,m)) (bp (pur (X4 false 1 p1 m) m) fun x0 m=>bp (unt (Xn .int x0 p0 (.bool true) m)) fun _ m=>bp (pur (X4 false 1 p3 m) m) fun x1 m=>bp (Xc Q1m [(.int .i32 0)] 1 1 [(0,p0)] m) fun x2 m=>bp (apS Q1m 1 4 x1 x2 m) fun x3 m=>bp (unt (X8 1 p3 x3 m)) fun _ m=>bp (pur (X4 false 1 p4 m) m) fun x4 m=>bp (pur (X4 false 1 p2 m) m) fun x5 m=>bp (pur (Xa x5) m) fun x6 m=>bp (pur (X0 2 x6) m) fun x7 m=>bp (pur (X4 false 1 x7 m) m) fun x8 m=>bp (pur (X5 3 x8 p0) m) fun x9 m=>bp (pur (X0 1 x9) m) fun x10 m=>bp (pur (X4 false 1 x10 m) m) fun x11 m=>bp (Xi G.tab x4 [x11] m) fun x12 m=>bp (pur (X4 false 1 p4 m) m) fun x13 m=>bp (pur (X4 false 1 p2 m) m) fun x14 m=>bp (pur (Xa x14) m) fun x15 m=>bp (pur (X0 2 x15) m) fun x16 m=>bp (pur (X4 false 1 x16 m) m) fun x17 m=>bp (pur (X5 3 x17 p0) m) fun x18 m=>bp (pur (X0 2 x18) m) fun x19 m=>bp (pur (X4 false 1 x19 m) m) fun x20 m=>bp (Xi G.tab x13 [x20] m) fun x21 m=>some (.tuple ⟨[]⟩,m))
def Qj (G:Gt)(p1 p0 p2 p3 p4:V)(m:M):R:=bp (pur (X4 false 1 p1 m) m) fun x22 m=>bp (pur (X1j .int (.bool false) false x22 p0 m) m) fun x23 m=>brb x23 (Q32 G (.bool true) p1 p0 p3 p4 p2 m) (bp (pur (X4 false 1 p2 m) m) fun x24 m=>bp (pur (Xa x24) m) fun x25 m=>bp (pur (X0 6 x25) m) fun x26 m=>bp (pur (X4 false 1 x26 m) m) fun x27 m=>bp (pur (X1j .int (.bool false) false x27 p0 m) m) fun x28 m=>Q32 G x28 p1 p0 p3 p4 p2 m)
theorem Q11u (G:Gt)(a0 a1 a2 a3 a4:V)(m:M):ef G Tryz.f608 [a0,a1,a2,a3,a4] m = Qj G a1 a0 a2 a3 a4 m:=Xb (r:=fun r m=>Qj G (r 1) (r 0) (r 2) (r 3) (r 4) m) rfl rfl (tr (tr seqD (seqQ (f:=fun r m=>Q32 G (r 16) (r 1) (r 0) (r 3) (r 4) (r 2) m)))) m
def Q60:En:=⟨Qo,Tryz.f608,Tryz.func608,by kernel_rfl,arg5 (fun G a0 a1 a2 a3 a4 m=>Qj G a1 a0 a2 a3 a4 m),Xdn Q11u⟩
def Q1c (G:Gt)(p1 p2 p3 p0 p4 p5:V)(m:M):R:=bp (pur (X4 false 1 p1 m) m) fun x0 m=>bp (pur (X4 false 1 p1 m) m) fun x1 m=>bp (pur (X4 false 1 p2 m) m) fun x2 m=>bp (pur (X4 false 1 p3 m) m) fun x3 m=>bp (pur (X4 false 1 p1 m) m) fun x4 m=>bp (pur (X4 false 1 p4 m) m) fun x5 m=>bp (pur (X4 false 1 p3 m) m) fun x6 m=>bp (pur (X4 false 1 p1 m) m) fun x7 m=>bp (pur (X4 false 1 p5 m) m) fun x8 m=>bp (pur (X4 false 1 p3 m) m) fun x9 m=>bp (G.tab Q2n [x1,x2,x3,p0] m) fun x10 m=>ckB (again (pur (X4 false 1 p1 m) m) x0 && (again (pur (X4 false 1 p1 m) m) x4 && (again (pur (X4 false 1 p4 m) m) x5 && (again (pur (X4 false 1 p3 m) m) x6 && (again (pur (X4 false 1 p1 m) m) x7 && (again (pur (X4 false 1 p5 m) m) x8 && (again (pur (X4 false 1 p3 m) m) x9 && true))))))) (bp (G.tab Q2n [x4,x5,x6,p0] m) fun x11 m=>ckB (again (pur (X4 false 1 p1 m) m) x0 && (again (pur (X4 false 1 p1 m) m) x7 && (again (pur (X4 false 1 p5 m) m) x8 && (again (pur (X4 false 1 p3 m) m) x9 && true)))) (bp (G.tab Q2n [x7,x8,x9,p0] m) fun x12 m=>ckB (again (pur (X4 false 1 p1 m) m) x0 && true) (bp (G.tab Qr [x0,x10,x11,x12] m) fun x13 m=>some (x13,m))))
theorem Q13v (G:Gt)(a0 a1 a2 a3 a4 a5:V)(m:M):ef G Tryz.f609 [a0,a1,a2,a3,a4,a5] m = Q1c G a1 a2 a3 a0 a4 a5 m:=Xb (r:=fun r m=>Q1c G (r 1) (r 2) (r 3) (r 0) (r 4) (r 5) m) rfl rfl (fun r m=>by kernel_rfl) m
def Q6v:En:=⟨Q2f,Tryz.f609,Tryz.func609,by kernel_rfl,arg6 (fun G a0 a1 a2 a3 a4 a5 m=>Q1c G a1 a2 a3 a0 a4 a5 m),X114 Q13v⟩
def Q5l (G:Gt)(p1 p0 p2 p3 p4:V)(m:M):R:=bp (pur (X4 false 1 p1 m) m) fun x0 m=>bp (pur (X1j .int (.bool false) false x0 p0 m) m) fun x1 m=>brb x1 (some (.tuple ⟨[]⟩,m)) (bp (pur (X4 false 1 p1 m) m) fun x2 m=>bp (unt (Xn .int x2 p0 (.bool true) m)) fun _ m=>bp (pur (X4 false 1 p2 m) m) fun x3 m=>bp (Xi G.tab x3 [p0] m) fun x4 m=>bp (pur (X4 false 1 p3 m) m) fun x5 m=>bp (pur (X4 false 1 p4 m) m) fun x6 m=>bp (pur (Xa x6) m) fun x7 m=>bp (pur (X0 2 x7) m) fun x8 m=>bp (pur (X4 false 1 x8 m) m) fun x9 m=>bp (pur (X5 3 x9 p0) m) fun x10 m=>bp (pur (X0 1 x10) m) fun x11 m=>bp (pur (X4 false 1 x11 m) m) fun x12 m=>bp (Xi G.tab x5 [x12] m) fun x13 m=>bp (pur (X4 false 1 p3 m) m) fun x14 m=>bp (pur (X4 false 1 p4 m) m) fun x15 m=>bp (pur (Xa x15) m) fun x16 m=>bp (pur (X0 2 x16) m) fun x17 m=>bp (pur (X4 false 1 x17 m) m) fun x18 m=>bp (pur (X5 3 x18 p0) m) fun x19 m=>bp (pur (X0 2 x19) m) fun x20 m=>bp (pur (X4 false 1 x20 m) m) fun x21 m=>bp (Xi G.tab x14 [x21] m) fun x22 m=>some (.tuple ⟨[]⟩,m))
theorem Q106 (G:Gt)(a0 a1 a2 a3 a4:V)(m:M):ef G Tryz.f610 [a0,a1,a2,a3,a4] m = Q5l G a1 a0 a2 a3 a4 m:=Xb (r:=fun r m=>Q5l G (r 1) (r 0) (r 2) (r 3) (r 4) m) rfl rfl (fun r m=>by kernel_rfl) m
def Qfb:En:=⟨Qeu,Tryz.f610,Tryz.func610,by kernel_rfl,arg5 (fun G a0 a1 a2 a3 a4 m=>Q5l G a1 a0 a2 a3 a4 m),Xdn Q106⟩
def Q51 (G:Gt)(k0:J6)(p87 p0 p1 p2 p11 p3 p8 p9 p10:V)(m:M):R:=brb p87 (bp (G.tab Qij [p0,p1,p2,p11] m) fun x0 m=>k0 p2 x0 p0 p3 p8 p9 m) (bp (G.tab Q58 [p0,p1,p2,p11] m) fun x1 m=>bp (pur (X6 x1 0) m) fun x2 m=>bp (pur (X6 x1 1) m) fun x3 m=>bp (pur (bin .sub false true .int x2 p1) m) fun x4 m=>bp (pur (bin .sub false true .int p2 x2) m) fun x5 m=>bp (pur (bin .quo true true .int p10 (.int .i64 8)) m) fun x6 m=>bp (pur (bin .lss false true .int x4 x5) m) fun x7 m=>brb x7 (bp (pur (bin .geq false true .int x4 x6) m) fun x8 m=>bp (G.tab Q27 [p0,p1,x2,p3] m) fun x9 m=>bp (pur (bin .add true true .int x2 (.int .i64 1)) m) fun x10 m=>k0 p2 x10 p0 p3 x8 x3 m) (bp (pur (bin .geq false true .int x5 x6) m) fun x11 m=>bp (pur (bin .add true true .int x2 (.int .i64 1)) m) fun x12 m=>bp (G.tab Q27 [p0,x12,p2,p3] m) fun x13 m=>k0 x2 p1 p0 p3 x11 x3 m))
def Q5s (G:Gt)(k0:J6)(p1 p0 p11 p2 p3 p8 p9 p10:V)(m:M):R:=bp (pur (bin .gtr true true .int p1 (.int .i64 0)) m) fun x14 m=>brt x14 (bp (pur (bin .sub true true .int p1 (.int .i64 1)) m) fun x15 m=>bp (pur (X5 1 p0 x15) m) fun x16 m=>bp (pur (X4 false 1 x16 m) m) fun x17 m=>bp (pur (X5 1 p0 p11) m) fun x18 m=>bp (pur (X4 false 1 x18 m) m) fun x19 m=>bp (G.tab Qq [x17,x19] m) fun x20 m=>bp (pur (un .not x20) m) fun x21 m=>Q51 G k0 x21 p0 p1 p2 p11 p3 p8 p9 p10 m) (Q51 G k0 (.bool false) p0 p1 p2 p11 p3 p8 p9 p10 m) (none)
def Q2q (G:Gt)(k0:J6)(p68 p0 p1 p2 p11 p3 p8 p9 p10:V)(m:M):R:=brb p68 (bp (G.tab Q2d [p0,p1,p2] m) fun x22 m=>brb x22 (some (.tuple ⟨[]⟩,m)) (Q5s G k0 p1 p0 p11 p2 p3 p8 p9 p10 m)) (Q5s G k0 p1 p0 p11 p2 p3 p8 p9 p10 m)
def Q5t (G:Gt)(k0:J6)(p8 p9 p12 p0 p1 p2 p11 p3 p10:V)(m:M):R:=brb p8 (brb p9 (bp (pur (bin .eql true true .int p12 (.int .i64 1)) m) fun x23 m=>Q2q G k0 x23 p0 p1 p2 p11 p3 p8 p9 p10 m) (Q2q G k0 (.bool false) p0 p1 p2 p11 p3 p8 p9 p10 m)) (Q2q G k0 (.bool false) p0 p1 p2 p11 p3 p8 p9 p10 m)
def Qbe (G:Gt)(k0:J6)(p12 p0 p1 p2 p11 p8 p9 p3 p10:V)(m:M):R:=bp (pur (bin .eql true true .int p12 (.int .i64 2)) m) fun x24 m=>brb x24 (bp (G.tab Qjv [p0,p1,p2] m) fun x25 m=>bp (pur (bin .sub true true .int p2 (.int .i64 1)) m) fun x26 m=>bp (pur (bin .sub false true .int p11 p1) m) fun x27 m=>bp (pur (bin .sub false true .int x26 x27) m) fun x28 m=>Q5t G k0 p8 p9 (.int .i64 1) p0 p1 p2 x28 p3 p10 m) (Q5t G k0 p8 p9 p12 p0 p1 p2 p11 p3 p10 m)
def Q5u (G:Gt)(k0:J6)(p0 p1 p2 p8 p9 p3 p10:V)(m:M):R:=bp (G.tab Q4l [p0,p1,p2] m) fun x29 m=>bp (pur (X6 x29 0) m) fun x30 m=>bp (pur (X6 x29 1) m) fun x31 m=>Qbe G k0 x31 p0 p1 p2 x30 p8 p9 p3 p10 m
def Qbf (G:Gt)(k0:J6)(p8 p0 p1 p2 p3 p9 p10:V)(m:M):R:=bp (pur (un .not p8) m) fun x32 m=>brb x32 (bp (G.tab Qja [p0,p1,p2] m) fun x33 m=>bp (pur (bin .sub true true .int p3 (.int .i64 1)) m) fun x34 m=>Q5u G k0 p0 p1 p2 p8 p9 x34 p10 m) (Q5u G k0 p0 p1 p2 p8 p9 p3 p10 m)
def Qbg (G:Gt)(k0:J6)(p3 p0 p1 p2 p8 p9 p10:V)(m:M):R:=bp (pur (bin .eql true true .int p3 (.int .i64 0)) m) fun x35 m=>brb x35 (bp (G.tab Qp1 [p0,p1,p2] m) fun x36 m=>some (.tuple ⟨[]⟩,m)) (Qbf G k0 p8 p0 p1 p2 p3 p9 p10 m)
def Qbh (G:Gt)(k0:J6)(p10 p0 p1 p2 p3 p8 p9:V)(m:M):R:=bp (pur (bin .leq true true .int p10 (.int .i64 12)) m) fun x37 m=>brb x37 (bp (G.tab Q3f [p0,p1,p2] m) fun x38 m=>some (.tuple ⟨[]⟩,m)) (Qbg G k0 p3 p0 p1 p2 p8 p9 p10 m)
def Q4 (G:Gt):Nat→V→V→V→V→V→V→M→R
 | 0,_,_,_,_,_,_,_=>none
 | i + 1,p2,p1,p0,p3,p8,p9,m=>bp (pur (bin .sub false true .int p2 p1) m) fun x39 m=>Qbh G (Q4 G i) x39 p0 p1 p2 p3 p8 p9 m
def Qbi (G:Gt)(p2 p1 p0 p3 p8 p9:V)(m:M):R:=Q4 G G.rds p2 p1 p0 p3 p8 p9 m
def Qbj (G:Gt)(p2 p1 p0 p3 p8:V)(m:M):R:=Qbi G p2 p1 p0 p3 p8 (.bool true) m
def Q2b (G:Gt)(p2 p1 p0 p3:V)(m:M):R:=Qbj G p2 p1 p0 p3 (.bool true) m
theorem Qqi (G:Gt)(a0 a1 a2 a3:V)(m:M):ef G Tryz.f611 [a0,a1,a2,a3] m = Q2b G a2 a1 a0 a3 m:=Xb (r:=fun r m=>Q2b G (r 2) (r 1) (r 0) (r 3) m) rfl rfl (tr (seqQ (f:=fun r m=>Qbj G (r 2) (r 1) (r 0) (r 3) (r 8) m) (tr (seqQ (f:=fun r m=>Qbi G (r 2) (r 1) (r 0) (r 3) (r 8) (r 9) m) (tr (Xm (X1l (fun i r m=>Q4 G i (r 2) (r 1) (r 0) (r 3) (r 8) (r 9) m) (fun _ _=>rfl) (fun i0=>tr (Xm (seqQ (f:=fun r m=>Qbh G (Q4 G i0) (r 10) (r 0) (r 1) (r 2) (r 3) (r 8) (r 9) m) (tr (seqQ (f:=fun r m=>Qbg G (Q4 G i0) (r 3) (r 0) (r 1) (r 2) (r 8) (r 9) (r 10) m) (tr (seqQ (f:=fun r m=>Qbf G (Q4 G i0) (r 8) (r 0) (r 1) (r 2) (r 3) (r 9) (r 10) m) (tr (seqQ (f:=fun r m=>Q5u G (Q4 G i0) (r 0) (r 1) (r 2) (r 8) (r 9) (r 3) (r 10) m) (tr (seqQ (f:=fun r m=>Qbe G (Q4 G i0) (r 12) (r 0) (r 1) (r 2) (r 11) (r 8) (r 9) (r 3) (r 10) m) (tr (seqQ (f:=fun r m=>Q5t G (Q4 G i0) (r 8) (r 9) (r 12) (r 0) (r 1) (r 2) (r 11) (r 3) (r 10) m) (tr (tr (seqQ (f:=fun r m=>Q5s G (Q4 G i0) (r 1) (r 0) (r 11) (r 2) (r 3) (r 8) (r 9) (r 10) m) (tr (tr seqD (seqQ (f:=fun r m=>Q51 G (Q4 G i0) (r 87) (r 0) (r 1) (r 2) (r 11) (r 3) (r 8) (r 9) (r 10) m))))) (seqQ (f:=fun r m=>Q2q G (Q4 G i0) (r 68) (r 0) (r 1) (r 2) (r 11) (r 3) (r 8) (r 9) (r 10) m)))))))))))))))))))))))) m
def Q6k:En:=⟨Q27,Tryz.f611,Tryz.func611,by kernel_rfl,arg4 (fun G a0 a1 a2 a3 m=>Q2b G a2 a1 a0 a3 m),X3u Qqi⟩
end
end Go.Ab.Sh

set_option maxRecDepth 100000
namespace Go.Ab.Sh
open Go Go.Ab Go.Proofs
noncomputable section
def Qc5 (G:Gt)(p3:V)(m:M):R:=some (p3,m)
def Qkj (G:Gt)(p0 p1:V)(m:M):R:=bp (pur (bin .lss true true .int p0 (.int .i64 0)) m) fun x0 m=>brb x0 (Qc5 G (.bool true) m) (bp (pur (X4 false 1 p1 m) m) fun x1 m=>bp (pur (Xa x1) m) fun x2 m=>bp (pur (X0 0 x2) m) fun x3 m=>bp (pur (X4 false 1 x3 m) m) fun x4 m=>bp (pur (bin .geq false true .int p0 x4) m) fun x5 m=>Qc5 G x5 m)
def Q5m (G:Gt)(p0 p1:V)(m:M):R:=Qkj G p0 p1 m
theorem Q107 (G:Gt)(a0 a1:V)(m:M):ef G Tryz.f612 [a0,a1] m = Q5m G a0 a1 m:=Xb (r:=fun r m=>Q5m G (r 0) (r 1) m) rfl rfl (tr (seqQ (f:=fun r m=>Qkj G (r 0) (r 1) m) (tr (seqQ (f:=fun r m=>Qc5 G (r 3) m))))) m
def Qfc:En:=⟨Qna,Tryz.f612,Tryz.func612,by kernel_rfl,arg2 Q5m,X19 Q107⟩
def Qh5:En:=wE Qgj Tryz.f641 Tryz.func641 ⟨_,by go_invoke; rfl⟩
def Q7d (G:Gt)(k0:J4)(p6 p2 p1 p0:V)(m:M):R:=bp (pur (bin .add true true .int p6 (.int .i64 1)) m) fun x0 m=>k0 x0 p2 p1 p0 m
def Q3b (G:Gt)(k1:J5)(k0:J4)(p30 p0 p7 p1 p6 p2:V)(m:M):R:=brb p30 (bp (pur (bin .sub true true .int p7 (.int .i64 1)) m) fun x1 m=>bp (pur (bin .sub true true .int p7 (.int .i64 1)) m) fun x2 m=>bp (pur (X5 1 p0 x2) m) fun x3 m=>bp (pur (X4 false 1 x3 m) m) fun x4 m=>bp (pur (X5 1 p0 p7) m) fun x5 m=>bp (pur (X4 false 1 x5 m) m) fun x6 m=>bp (pur (X5 1 p0 p7) m) fun x7 m=>bp (unt (X8 1 x7 x4 m)) fun _ m=>bp (pur (X5 1 p0 x1) m) fun x8 m=>bp (unt (X8 1 x8 x6 m)) fun _ m=>bp (pur (bin .sub true true .int p7 (.int .i64 1)) m) fun x9 m=>k1 x9 p1 p0 p6 p2 m) (Q7d G k0 p6 p2 p1 p0 m)
def Q16 (G:Gt)(k0:J4):Nat→V→V→V→V→V→M→R
 | 0,_,_,_,_,_,_=>none
 | i + 1,p7,p1,p0,p6,p2,m=>bp (pur (bin .gtr false true .int p7 p1) m) fun x10 m=>brt x10 (bp (pur (X5 1 p0 p7) m) fun x11 m=>bp (pur (X4 false 1 x11 m) m) fun x12 m=>bp (pur (bin .sub true true .int p7 (.int .i64 1)) m) fun x13 m=>bp (pur (X5 1 p0 x13) m) fun x14 m=>bp (pur (X4 false 1 x14 m) m) fun x15 m=>bp (G.tab Qq [x12,x15] m) fun x16 m=>Q3b G (Q16 G k0 i) k0 x16 p0 p7 p1 p6 p2 m) (Q3b G (Q16 G k0 i) k0 (.bool false) p0 p7 p1 p6 p2 m) (none)
def Q7e (G:Gt)(k0:J4)(p7 p1 p0 p6 p2:V)(m:M):R:=Q16 G k0 G.rds p7 p1 p0 p6 p2 m
def Q7f (G:Gt)(k0:J4)(p6 p1 p0 p2:V)(m:M):R:=Q7e G k0 p6 p1 p0 p6 p2 m
def Q8 (G:Gt):Nat→V→V→V→V→M→R
 | 0,_,_,_,_,_=>none
 | i + 1,p6,p2,p1,p0,m=>bp (pur (bin .lss false true .int p6 p2) m) fun x17 m=>brb x17 (Q7f G (Q8 G i) p6 p1 p0 p2 m) (some (.tuple ⟨[]⟩,m))
def Q7g (G:Gt)(p6 p2 p1 p0:V)(m:M):R:=Q8 G G.rds p6 p2 p1 p0 m
def Q1b (G:Gt)(p1 p2 p0:V)(m:M):R:=bp (pur (bin .add true true .int p1 (.int .i64 1)) m) fun x18 m=>Q7g G x18 p2 p1 p0 m
theorem Qjo (G:Gt)(a0 a1 a2:V)(m:M):ef G Tryz.f644 [a0,a1,a2] m = Q1b G a1 a2 a0 m:=Xb (r:=fun r m=>Q1b G (r 1) (r 2) (r 0) m) rfl rfl (tr (seqQ (f:=fun r m=>Q7g G (r 6) (r 2) (r 1) (r 0) m) (tr (Xm (X1l (fun i r m=>Q8 G i (r 6) (r 2) (r 1) (r 0) m) (fun _ _=>rfl) (fun i0=>tr (seqQ (f:=fun r m=>Q7f G (Q8 G i0) (r 6) (r 1) (r 0) (r 2) m) (tr (tr (seqQ (f:=fun r m=>Q7d G (Q8 G i0) (r 6) (r 2) (r 1) (r 0) m)) (Xm (seqQ (f:=fun r m=>Q7e G (Q8 G i0) (r 7) (r 1) (r 0) (r 6) (r 2) m) (tr (Xm (X1l (fun i r m=>Q16 G (Q8 G i0) i (r 7) (r 1) (r 0) (r 6) (r 2) m) (fun _ _=>rfl) (fun i1=>tr (tr seqD (seqQ (f:=fun r m=>Q3b G (Q16 G (Q8 G i0) i1) (Q8 G i0) (r 30) (r 0) (r 7) (r 1) (r 6) (r 2) m)))))))))))))))))) m
def Q3h:En:=⟨Q3f,Tryz.f644,Tryz.func644,by kernel_rfl,arg3 (fun G a0 a1 a2 m=>Q1b G a1 a2 a0 m),X2n Qjo⟩
def Q3i (G:Gt)(p9 p11:V)(m:M):R:=bp (pur (X4 false 1 p9 m) m) fun x0 m=>bp (pur (bin .eql true true .int x0 (.int .i64 0)) m) fun x1 m=>brb x1 (some (.tuple ⟨[p11,(.int .i64 1)]⟩,m)) (bp (pur (bin .eql true true .int x0 (.int .i64 12)) m) fun x2 m=>brb x2 (some (.tuple ⟨[p11,(.int .i64 2)]⟩,m)) (some (.tuple ⟨[p11,(.int .i64 0)]⟩,m)))
def Q3j (G:Gt)(p0 p10 p11 p12 p9:V)(m:M):R:=bp (G.tab Q70 [p0,p10,p11,p12,p9] m) fun x3 m=>Q3i G p9 x3 m
def Q89 (G:Gt)(p32 p8 p0 p10 p9 p11 p12:V)(m:M):R:=brb p32 (bp (pur (bin .geq true true .int p8 (.int .i64 50)) m) fun x4 m=>brb x4 (bp (G.tab Q22 [p0,p10,p9] m) fun x5 m=>bp (G.tab Q22 [p0,p11,p9] m) fun x6 m=>bp (G.tab Q22 [p0,p12,p9] m) fun x7 m=>Q3j G p0 x5 x6 x7 p9 m) (Q3j G p0 p10 p11 p12 p9 m)) (Q3i G p9 p11 m)
def Q8a (G:Gt)(p8 p0 p10 p9 p11 p12:V)(m:M):R:=bp (pur (bin .geq true true .int p8 (.int .i64 8)) m) fun x8 m=>Q89 G x8 p8 p0 p10 p9 p11 p12 m
def Q8b (G:Gt)(p1 p8 p0 p10 p9 p11:V)(m:M):R:=bp (pur (bin .quo true true .int p8 (.int .i64 4)) m) fun x9 m=>bp (pur (bin .mul true true .int x9 (.int .i64 3)) m) fun x10 m=>bp (pur (bin .add false true .int p1 x10) m) fun x11 m=>Q8a G p8 p0 p10 p9 p11 x11 m
def Q8c (G:Gt)(p1 p8 p0 p10 p9:V)(m:M):R:=bp (pur (bin .quo true true .int p8 (.int .i64 4)) m) fun x12 m=>bp (pur (bin .mul true true .int x12 (.int .i64 2)) m) fun x13 m=>bp (pur (bin .add false true .int p1 x13) m) fun x14 m=>Q8b G p1 p8 p0 p10 p9 x14 m
def Q8d (G:Gt)(p1 p8 p0 p9:V)(m:M):R:=bp (pur (bin .quo true true .int p8 (.int .i64 4)) m) fun x15 m=>bp (pur (bin .mul true true .int x15 (.int .i64 1)) m) fun x16 m=>bp (pur (bin .add false true .int p1 x16) m) fun x17 m=>Q8c G p1 p8 p0 x17 p9 m
def Q8e (G:Gt)(p1 p8 p0:V)(m:M):R:=bp (some (aNew Q7j [(.int .i64 0)] m)) fun x18 m=>Q8d G p1 p8 p0 x18 m
def Q8f (G:Gt)(p2 p1 p0:V)(m:M):R:=bp (pur (bin .sub false true .int p2 p1) m) fun x19 m=>Q8e G p1 x19 p0 m
def Q1k (G:Gt)(p2 p1 p0:V)(m:M):R:=Q8f G p2 p1 p0 m
theorem Qlt (G:Gt)(a0 a1 a2:V)(m:M):ef G Tryz.f647 [a0,a1,a2] m = Q1k G a2 a1 a0 m:=Xb (r:=fun r m=>Q1k G (r 2) (r 1) (r 0) m) rfl rfl (tr (seqQ (f:=fun r m=>Q8f G (r 2) (r 1) (r 0) m) (tr (seqQ (f:=fun r m=>Q8e G (r 1) (r 8) (r 0) m) (tr (seqQ (f:=fun r m=>Q8d G (r 1) (r 8) (r 0) (r 9) m) (tr (seqQ (f:=fun r m=>Q8c G (r 1) (r 8) (r 0) (r 10) (r 9) m) (tr (seqQ (f:=fun r m=>Q8b G (r 1) (r 8) (r 0) (r 10) (r 9) (r 11) m) (tr (seqQ (f:=fun r m=>Q8a G (r 8) (r 0) (r 10) (r 9) (r 11) (r 12) m) (tr (tr (seqQ (f:=fun r m=>Q3i G (r 9) (r 11) m)) (seqQ (f:=fun r m=>Q89 G (r 32) (r 8) (r 0) (r 10) (r 9) (r 11) (r 12) m) (tr (X5g (seqQ (f:=fun r m=>Q3j G (r 0) (r 10) (r 11) (r 12) (r 9) m)) (refQ)))))))))))))))))) m
def Q4o:En:=⟨Q4l,Tryz.f647,Tryz.func647,by kernel_rfl,arg3 (fun G a0 a1 a2 m=>Q1k G a2 a1 a0 m),X2n Qlt⟩
def Q4c (G:Gt)(m:M):R:=some ((.bool false),m)
def Q18 (G:Gt)(k0:J5)(p8 p7 p2 p0 p1:V)(m:M):R:=bp (pur (bin .add true true .int p8 (.int .i64 1)) m) fun x0 m=>k0 x0 p7 p2 p0 p1 m
def Q1z (G:Gt)(k0:J5):Nat→V→V→V→V→V→V→M→R
 | 0,_,_,_,_,_,_,_=>none
 | i + 1,p10,p2,p0,p8,p7,p1,m=>bp (pur (bin .lss false true .int p10 p2) m) fun x1 m=>brb x1 (bp (pur (X5 1 p0 p10) m) fun x2 m=>bp (pur (X4 false 1 x2 m) m) fun x3 m=>bp (pur (bin .sub true true .int p10 (.int .i64 1)) m) fun x4 m=>bp (pur (X5 1 p0 x4) m) fun x5 m=>bp (pur (X4 false 1 x5 m) m) fun x6 m=>bp (G.tab Qq [x3,x6] m) fun x7 m=>bp (pur (un .not x7) m) fun x8 m=>brb x8 (Q18 G k0 p8 p7 p2 p0 p1 m) (bp (pur (bin .sub true true .int p10 (.int .i64 1)) m) fun x9 m=>bp (pur (bin .sub true true .int p10 (.int .i64 1)) m) fun x10 m=>bp (pur (X5 1 p0 x10) m) fun x11 m=>bp (pur (X4 false 1 x11 m) m) fun x12 m=>bp (pur (X5 1 p0 p10) m) fun x13 m=>bp (pur (X4 false 1 x13 m) m) fun x14 m=>bp (pur (X5 1 p0 p10) m) fun x15 m=>bp (unt (X8 1 x15 x12 m)) fun _ m=>bp (pur (X5 1 p0 x9) m) fun x16 m=>bp (unt (X8 1 x16 x14 m)) fun _ m=>bp (pur (bin .add true true .int p10 (.int .i64 1)) m) fun x17 m=>(Q1z G k0 i) x17 p2 p0 p8 p7 p1 m)) (Q18 G k0 p8 p7 p2 p0 p1 m)
def Q3w (G:Gt)(k0:J5)(p10 p2 p0 p8 p7 p1:V)(m:M):R:=Q1z G k0 G.rds p10 p2 p0 p8 p7 p1 m
def Q3x (G:Gt)(k0:J5)(p98 p7 p2 p0 p8 p1:V)(m:M):R:=brb p98 (bp (pur (bin .add true true .int p7 (.int .i64 1)) m) fun x18 m=>Q3w G k0 x18 p2 p0 p8 p7 p1 m) (Q18 G k0 p8 p7 p2 p0 p1 m)
def Q13 (G:Gt)(k0:J5)(p2 p7 p0 p8 p1:V)(m:M):R:=bp (pur (bin .sub false true .int p2 p7) m) fun x19 m=>bp (pur (bin .geq true true .int x19 (.int .i64 2)) m) fun x20 m=>Q3x G k0 x20 p7 p2 p0 p8 p1 m
def Q20 (G:Gt)(k0:J5):Nat→V→V→V→V→V→V→M→R
 | 0,_,_,_,_,_,_,_=>none
 | i + 1,p9,p0,p2,p7,p8,p1,m=>bp (pur (bin .geq true true .int p9 (.int .i64 1)) m) fun x21 m=>brb x21 (bp (pur (X5 1 p0 p9) m) fun x22 m=>bp (pur (X4 false 1 x22 m) m) fun x23 m=>bp (pur (bin .sub true true .int p9 (.int .i64 1)) m) fun x24 m=>bp (pur (X5 1 p0 x24) m) fun x25 m=>bp (pur (X4 false 1 x25 m) m) fun x26 m=>bp (G.tab Qq [x23,x26] m) fun x27 m=>bp (pur (un .not x27) m) fun x28 m=>brb x28 (Q13 G k0 p2 p7 p0 p8 p1 m) (bp (pur (bin .sub true true .int p9 (.int .i64 1)) m) fun x29 m=>bp (pur (bin .sub true true .int p9 (.int .i64 1)) m) fun x30 m=>bp (pur (X5 1 p0 x30) m) fun x31 m=>bp (pur (X4 false 1 x31 m) m) fun x32 m=>bp (pur (X5 1 p0 p9) m) fun x33 m=>bp (pur (X4 false 1 x33 m) m) fun x34 m=>bp (pur (X5 1 p0 p9) m) fun x35 m=>bp (unt (X8 1 x35 x32 m)) fun _ m=>bp (pur (X5 1 p0 x29) m) fun x36 m=>bp (unt (X8 1 x36 x34 m)) fun _ m=>bp (pur (bin .sub true true .int p9 (.int .i64 1)) m) fun x37 m=>(Q20 G k0 i) x37 p0 p2 p7 p8 p1 m)) (Q13 G k0 p2 p7 p0 p8 p1 m)
def Q3y (G:Gt)(k0:J5)(p9 p0 p2 p7 p8 p1:V)(m:M):R:=Q20 G k0 G.rds p9 p0 p2 p7 p8 p1 m
def Q3z (G:Gt)(k0:J5)(p61 p7 p0 p2 p8 p1:V)(m:M):R:=brb p61 (bp (pur (bin .sub true true .int p7 (.int .i64 1)) m) fun x38 m=>Q3y G k0 x38 p0 p2 p7 p8 p1 m) (Q13 G k0 p2 p7 p0 p8 p1 m)
def Q40 (G:Gt)(k0:J5)(p7 p1 p0 p2 p8:V)(m:M):R:=bp (pur (bin .sub false true .int p7 p1) m) fun x39 m=>bp (pur (bin .geq true true .int x39 (.int .i64 2)) m) fun x40 m=>Q3z G k0 x40 p7 p0 p2 p8 p1 m
def Q4d (G:Gt)(k0:J5)(p0 p7 p1 p2 p8:V)(m:M):R:=bp (pur (bin .sub true true .int p7 (.int .i64 1)) m) fun x41 m=>bp (pur (bin .sub true true .int p7 (.int .i64 1)) m) fun x42 m=>bp (pur (X5 1 p0 x42) m) fun x43 m=>bp (pur (X4 false 1 x43 m) m) fun x44 m=>bp (pur (X5 1 p0 p7) m) fun x45 m=>bp (pur (X4 false 1 x45 m) m) fun x46 m=>bp (pur (X5 1 p0 p7) m) fun x47 m=>bp (unt (X8 1 x47 x44 m)) fun _ m=>bp (pur (X5 1 p0 x41) m) fun x48 m=>bp (unt (X8 1 x48 x46 m)) fun _ m=>Q40 G k0 p7 p1 p0 p2 p8 m
def Q4e (G:Gt)(k0:J5)(p2 p1 p0 p7 p8:V)(m:M):R:=bp (pur (bin .sub false true .int p2 p1) m) fun x49 m=>bp (pur (bin .lss true true .int x49 (.int .i64 50)) m) fun x50 m=>brb x50 (some ((.bool false),m)) (Q4d G k0 p0 p7 p1 p2 p8 m)
def Q4f (G:Gt)(k0:J5)(p7 p2 p1 p0 p8:V)(m:M):R:=bp (pur (bin .eql false true .int p7 p2) m) fun x51 m=>brb x51 (some ((.bool true),m)) (Q4e G k0 p2 p1 p0 p7 p8 m)
def Q21 (G:Gt)(k1:J5)(k0:J5)(p32 p7 p2 p0 p1 p8:V)(m:M):R:=brb p32 (bp (pur (bin .add true true .int p7 (.int .i64 1)) m) fun x52 m=>k1 x52 p2 p0 p1 p8 m) (Q4f G k0 p7 p2 p1 p0 p8 m)
def Ql (G:Gt)(k0:J5):Nat→V→V→V→V→V→M→R
 | 0,_,_,_,_,_,_=>none
 | i + 1,p7,p2,p0,p1,p8,m=>bp (pur (bin .lss false true .int p7 p2) m) fun x53 m=>brt x53 (bp (pur (X5 1 p0 p7) m) fun x54 m=>bp (pur (X4 false 1 x54 m) m) fun x55 m=>bp (pur (bin .sub true true .int p7 (.int .i64 1)) m) fun x56 m=>bp (pur (X5 1 p0 x56) m) fun x57 m=>bp (pur (X4 false 1 x57 m) m) fun x58 m=>bp (G.tab Qq [x55,x58] m) fun x59 m=>bp (pur (un .not x59) m) fun x60 m=>Q21 G (Ql G k0 i) k0 x60 p7 p2 p0 p1 p8 m) (Q21 G (Ql G k0 i) k0 (.bool false) p7 p2 p0 p1 p8 m) (none)
def Q4g (G:Gt)(k0:J5)(p7 p2 p0 p1 p8:V)(m:M):R:=Ql G k0 G.rds p7 p2 p0 p1 p8 m
def Q0 (G:Gt):Nat→V→V→V→V→V→M→R
 | 0,_,_,_,_,_,_=>none
 | i + 1,p8,p7,p2,p0,p1,m=>bp (pur (bin .lss true true .int p8 (.int .i64 5)) m) fun x61 m=>brb x61 (Q4g G (Q0 G i) p7 p2 p0 p1 p8 m) (Q4c G m)
def Q4h (G:Gt)(p8 p7 p2 p0 p1:V)(m:M):R:=Q0 G G.rds p8 p7 p2 p0 p1 m
def Q4i (G:Gt)(p7 p2 p0 p1:V)(m:M):R:=Q4h G (.int .i64 0) p7 p2 p0 p1 m
def Q4j (G:Gt)(p1 p2 p0:V)(m:M):R:=bp (pur (bin .add true true .int p1 (.int .i64 1)) m) fun x62 m=>Q4i G x62 p2 p0 p1 m
def Qp (G:Gt)(p1 p2 p0:V)(m:M):R:=Q4j G p1 p2 p0 m
theorem Qea (G:Gt)(a0 a1 a2:V)(m:M):ef G Tryz.f649 [a0,a1,a2] m = Qp G a1 a2 a0 m:=Xb (r:=fun r m=>Qp G (r 1) (r 2) (r 0) m) rfl rfl (tr (seqQ (f:=fun r m=>Q4j G (r 1) (r 2) (r 0) m) (tr (seqQ (f:=fun r m=>Q4i G (r 7) (r 2) (r 0) (r 1) m) (tr (tr (seqQ (f:=fun r m=>Q4c G m)) (seqQ (f:=fun r m=>Q4h G (r 8) (r 7) (r 2) (r 0) (r 1) m) (tr (Xm (X1l (fun i r m=>Q0 G i (r 8) (r 7) (r 2) (r 0) (r 1) m) (fun _ _=>rfl) (fun i0=>tr (seqQ (f:=fun r m=>Q4g G (Q0 G i0) (r 7) (r 2) (r 0) (r 1) (r 8) m) (tr (tr (seqQ (f:=fun r m=>Q18 G (Q0 G i0) (r 8) (r 7) (r 2) (r 0) (r 1) m)) (Xm (tr (seqQ (f:=fun r m=>Q4f G (Q0 G i0) (r 7) (r 2) (r 1) (r 0) (r 8) m) (tr (seqQ (f:=fun r m=>Q4e G (Q0 G i0) (r 2) (r 1) (r 0) (r 7) (r 8) m) (tr (seqQ (f:=fun r m=>Q4d G (Q0 G i0) (r 0) (r 7) (r 1) (r 2) (r 8) m) (tr (seqQ (f:=fun r m=>Q40 G (Q0 G i0) (r 7) (r 1) (r 0) (r 2) (r 8) m) (tr (tr (seqQ (f:=fun r m=>Q13 G (Q0 G i0) (r 2) (r 7) (r 0) (r 8) (r 1) m) (tr (seqQ (f:=fun r m=>Q3x G (Q0 G i0) (r 98) (r 7) (r 2) (r 0) (r 8) (r 1) m) (tr (X5g (seqQ (f:=fun r m=>Q3w G (Q0 G i0) (r 10) (r 2) (r 0) (r 8) (r 7) (r 1) m) (tr (Xm (X1l (fun i r m=>Q1z G (Q0 G i0) i (r 10) (r 2) (r 0) (r 8) (r 7) (r 1) m) (fun _ _=>rfl) (fun i1=>fun r m=>by kernel_rfl))))) (refQ)))))) (seqQ (f:=fun r m=>Q3z G (Q0 G i0) (r 61) (r 7) (r 0) (r 2) (r 8) (r 1) m) (tr (X5g (seqQ (f:=fun r m=>Q3y G (Q0 G i0) (r 9) (r 0) (r 2) (r 7) (r 8) (r 1) m) (tr (Xm (X1l (fun i r m=>Q20 G (Q0 G i0) i (r 9) (r 0) (r 2) (r 7) (r 8) (r 1) m) (fun _ _=>rfl) (fun i1=>fun r m=>by kernel_rfl))))) (refQ))))))))))))) (Xm (X1l (fun i r m=>Ql G (Q0 G i0) i (r 7) (r 2) (r 0) (r 1) (r 8) m) (fun _ _=>rfl) (fun i1=>tr (tr seqD (seqQ (f:=fun r m=>Q21 G (Ql G (Q0 G i0) i1) (Q0 G i0) (r 32) (r 7) (r 2) (r 0) (r 1) (r 8) m)))))))))))))))))))))) m
def Q2e:En:=⟨Q2d,Tryz.f649,Tryz.func649,by kernel_rfl,arg3 (fun G a0 a1 a2 m=>Qp G a1 a2 a0 m),X2n Qea⟩
def Q7z (G:Gt)(p4:V)(m:M):R:=some (p4,m)
def Qj2 (G:Gt)(p0 p1:V)(m:M):R:=bp (G.tab Q6b [p0] m) fun x0 m=>brb x0 (bp (G.tab Q6b [p1] m) fun x1 m=>bp (pur (un .not x1) m) fun x2 m=>brb x2 (Q7z G (.bool true) m) (bp (pur (bin .lss false true .int p0 p1) m) fun x3 m=>Q7z G x3 m)) (bp (pur (bin .lss false true .int p0 p1) m) fun x4 m=>Q7z G x4 m)
def Q2v (G:Gt)(p0 p1:V)(m:M):R:=Qj2 G p0 p1 m
theorem Q196 (G:Gt)(a0 a1:V)(m:M):ef G Tryz.f650 [a0,a1] m = Q2v G a0 a1 m:=Xb (r:=fun r m=>Q2v G (r 0) (r 1) m) rfl rfl (tr (seqQ (f:=fun r m=>Qj2 G (r 0) (r 1) m) (tr (seqQ (f:=fun r m=>Q7z G (r 4) m))))) m
def Qau:En:=⟨Qq,Tryz.f650,Tryz.func650,by kernel_rfl,arg2 Q2v,X19 Q196⟩
end
end Go.Ab.Sh

set_option maxRecDepth 100000
namespace Go.Ab.Sh
open Go Go.Ab Go.Proofs
noncomputable section
def Q9v (G:Gt)(p0 p11 p1:V)(m:M):R:=bp (pur (X5 1 p0 p1) m) fun x0 m=>bp (pur (X4 false 1 x0 m) m) fun x1 m=>bp (pur (X5 1 p0 p11) m) fun x2 m=>bp (pur (X4 false 1 x2 m) m) fun x3 m=>bp (pur (X5 1 p0 p11) m) fun x4 m=>bp (unt (X8 1 x4 x1 m)) fun _ m=>bp (pur (X5 1 p0 p1) m) fun x5 m=>bp (unt (X8 1 x5 x3 m)) fun _ m=>some (.tuple ⟨[p11,(.bool false)]⟩,m)
def Q8r (G:Gt)(k0:J4)(p10 p11 p0 p1:V)(m:M):R:=bp (pur (bin .gtr false true .int p10 p11) m) fun x6 m=>brb x6 (Q9v G p0 p11 p1 m) (bp (pur (X5 1 p0 p11) m) fun x7 m=>bp (pur (X4 false 1 x7 m) m) fun x8 m=>bp (pur (X5 1 p0 p10) m) fun x9 m=>bp (pur (X4 false 1 x9 m) m) fun x10 m=>bp (pur (X5 1 p0 p10) m) fun x11 m=>bp (unt (X8 1 x11 x8 m)) fun _ m=>bp (pur (X5 1 p0 p11) m) fun x12 m=>bp (unt (X8 1 x12 x10 m)) fun _ m=>bp (pur (bin .add true true .int p10 (.int .i64 1)) m) fun x13 m=>bp (pur (bin .sub true true .int p11 (.int .i64 1)) m) fun x14 m=>k0 x13 x14 p0 p1 m)
def Q41 (G:Gt)(k1:J4)(k0:J4)(p129 p11 p10 p0 p1:V)(m:M):R:=brb p129 (bp (pur (bin .sub true true .int p11 (.int .i64 1)) m) fun x15 m=>k1 p10 x15 p0 p1 m) (Q8r G k0 p10 p11 p0 p1 m)
def Q1e (G:Gt)(k0:J4):Nat→V→V→V→V→M→R
 | 0,_,_,_,_,_=>none
 | i + 1,p10,p11,p0,p1,m=>bp (pur (bin .leq false true .int p10 p11) m) fun x16 m=>brt x16 (bp (pur (X5 1 p0 p11) m) fun x17 m=>bp (pur (X4 false 1 x17 m) m) fun x18 m=>bp (pur (X5 1 p0 p1) m) fun x19 m=>bp (pur (X4 false 1 x19 m) m) fun x20 m=>bp (G.tab Qq [x18,x20] m) fun x21 m=>bp (pur (un .not x21) m) fun x22 m=>Q41 G (Q1e G k0 i) k0 x22 p11 p10 p0 p1 m) (Q41 G (Q1e G k0 i) k0 (.bool false) p11 p10 p0 p1 m) (none)
def Q8s (G:Gt)(k0:J4)(p10 p11 p0 p1:V)(m:M):R:=Q1e G k0 G.rds p10 p11 p0 p1 m
def Q42 (G:Gt)(k1:J4)(k0:J4)(p112 p10 p11 p0 p1:V)(m:M):R:=brb p112 (bp (pur (bin .add true true .int p10 (.int .i64 1)) m) fun x23 m=>k1 x23 p11 p0 p1 m) (Q8s G k0 p10 p11 p0 p1 m)
def Q1f (G:Gt)(k0:J4):Nat→V→V→V→V→M→R
 | 0,_,_,_,_,_=>none
 | i + 1,p10,p11,p0,p1,m=>bp (pur (bin .leq false true .int p10 p11) m) fun x24 m=>brt x24 (bp (pur (X5 1 p0 p10) m) fun x25 m=>bp (pur (X4 false 1 x25 m) m) fun x26 m=>bp (pur (X5 1 p0 p1) m) fun x27 m=>bp (pur (X4 false 1 x27 m) m) fun x28 m=>bp (G.tab Qq [x26,x28] m) fun x29 m=>Q42 G (Q1f G k0 i) k0 x29 p10 p11 p0 p1 m) (Q42 G (Q1f G k0 i) k0 (.bool false) p10 p11 p0 p1 m) (none)
def Q3 (G:Gt):Nat→V→V→V→V→M→R
 | 0,_,_,_,_,_=>none
 | i + 1,p10,p11,p0,p1,m=>Q1f G (Q3 G i) G.rds p10 p11 p0 p1 m
def Q9w (G:Gt)(p10 p11 p0 p1:V)(m:M):R:=Q3 G G.rds p10 p11 p0 p1 m
def Q9x (G:Gt)(p11 p10 p0 p1:V)(m:M):R:=bp (pur (bin .sub true true .int p11 (.int .i64 1)) m) fun x30 m=>Q9w G p10 x30 p0 p1 m
def Q9y (G:Gt)(p10 p11 p0 p1:V)(m:M):R:=bp (pur (bin .add true true .int p10 (.int .i64 1)) m) fun x31 m=>Q9x G p11 x31 p0 p1 m
def Q9z (G:Gt)(p0 p10 p11 p1:V)(m:M):R:=bp (pur (X5 1 p0 p11) m) fun x32 m=>bp (pur (X4 false 1 x32 m) m) fun x33 m=>bp (pur (X5 1 p0 p10) m) fun x34 m=>bp (pur (X4 false 1 x34 m) m) fun x35 m=>bp (pur (X5 1 p0 p10) m) fun x36 m=>bp (unt (X8 1 x36 x33 m)) fun _ m=>bp (pur (X5 1 p0 p11) m) fun x37 m=>bp (unt (X8 1 x37 x35 m)) fun _ m=>Q9y G p10 p11 p0 p1 m
def Qa0 (G:Gt)(p10 p11 p0 p1:V)(m:M):R:=bp (pur (bin .gtr false true .int p10 p11) m) fun x38 m=>brb x38 (bp (pur (X5 1 p0 p1) m) fun x39 m=>bp (pur (X4 false 1 x39 m) m) fun x40 m=>bp (pur (X5 1 p0 p11) m) fun x41 m=>bp (pur (X4 false 1 x41 m) m) fun x42 m=>bp (pur (X5 1 p0 p11) m) fun x43 m=>bp (unt (X8 1 x43 x40 m)) fun _ m=>bp (pur (X5 1 p0 p1) m) fun x44 m=>bp (unt (X8 1 x44 x42 m)) fun _ m=>some (.tuple ⟨[p11,(.bool true)]⟩,m)) (Q9z G p0 p10 p11 p1 m)
def Q43 (G:Gt)(k0:J4)(p60 p11 p10 p0 p1:V)(m:M):R:=brb p60 (bp (pur (bin .sub true true .int p11 (.int .i64 1)) m) fun x45 m=>k0 p10 x45 p0 p1 m) (Qa0 G p10 p11 p0 p1 m)
def Q1g (G:Gt):Nat→V→V→V→V→M→R
 | 0,_,_,_,_,_=>none
 | i + 1,p10,p11,p0,p1,m=>bp (pur (bin .leq false true .int p10 p11) m) fun x46 m=>brt x46 (bp (pur (X5 1 p0 p11) m) fun x47 m=>bp (pur (X4 false 1 x47 m) m) fun x48 m=>bp (pur (X5 1 p0 p1) m) fun x49 m=>bp (pur (X4 false 1 x49 m) m) fun x50 m=>bp (G.tab Qq [x48,x50] m) fun x51 m=>bp (pur (un .not x51) m) fun x52 m=>Q43 G (Q1g G i) x52 p11 p10 p0 p1 m) (Q43 G (Q1g G i) (.bool false) p11 p10 p0 p1 m) (none)
def Qa1 (G:Gt)(p10 p11 p0 p1:V)(m:M):R:=Q1g G G.rds p10 p11 p0 p1 m
def Q44 (G:Gt)(k0:J4)(p43 p10 p11 p0 p1:V)(m:M):R:=brb p43 (bp (pur (bin .add true true .int p10 (.int .i64 1)) m) fun x53 m=>k0 x53 p11 p0 p1 m) (Qa1 G p10 p11 p0 p1 m)
def Q1h (G:Gt):Nat→V→V→V→V→M→R
 | 0,_,_,_,_,_=>none
 | i + 1,p10,p11,p0,p1,m=>bp (pur (bin .leq false true .int p10 p11) m) fun x54 m=>brt x54 (bp (pur (X5 1 p0 p10) m) fun x55 m=>bp (pur (X4 false 1 x55 m) m) fun x56 m=>bp (pur (X5 1 p0 p1) m) fun x57 m=>bp (pur (X4 false 1 x57 m) m) fun x58 m=>bp (G.tab Qq [x56,x58] m) fun x59 m=>Q44 G (Q1h G i) x59 p10 p11 p0 p1 m) (Q44 G (Q1h G i) (.bool false) p10 p11 p0 p1 m) (none)
def Qa2 (G:Gt)(p10 p11 p0 p1:V)(m:M):R:=Q1h G G.rds p10 p11 p0 p1 m
def Qa3 (G:Gt)(p1 p2 p0:V)(m:M):R:=bp (pur (bin .add true true .int p1 (.int .i64 1)) m) fun x60 m=>bp (pur (bin .sub true true .int p2 (.int .i64 1)) m) fun x61 m=>Qa2 G x60 x61 p0 p1 m
def Qa4 (G:Gt)(p0 p1 p3 p2:V)(m:M):R:=bp (pur (X5 1 p0 p3) m) fun x62 m=>bp (pur (X4 false 1 x62 m) m) fun x63 m=>bp (pur (X5 1 p0 p1) m) fun x64 m=>bp (pur (X4 false 1 x64 m) m) fun x65 m=>bp (pur (X5 1 p0 p1) m) fun x66 m=>bp (unt (X8 1 x66 x63 m)) fun _ m=>bp (pur (X5 1 p0 p3) m) fun x67 m=>bp (unt (X8 1 x67 x65 m)) fun _ m=>Qa3 G p1 p2 p0 m
def Q1r (G:Gt)(p0 p1 p3 p2:V)(m:M):R:=Qa4 G p0 p1 p3 p2 m
theorem Qo7 (G:Gt)(a0 a1 a2 a3:V)(m:M):ef G Tryz.f652 [a0,a1,a2,a3] m = Q1r G a0 a1 a3 a2 m:=Xb (r:=fun r m=>Q1r G (r 0) (r 1) (r 3) (r 2) m) rfl rfl (tr (seqQ (f:=fun r m=>Qa4 G (r 0) (r 1) (r 3) (r 2) m) (tr (seqQ (f:=fun r m=>Qa3 G (r 1) (r 2) (r 0) m) (tr (seqQ (f:=fun r m=>Qa2 G (r 10) (r 11) (r 0) (r 1) m) (tr (tr (seqQ (f:=fun r m=>Qa1 G (r 10) (r 11) (r 0) (r 1) m) (tr (tr (seqQ (f:=fun r m=>Qa0 G (r 10) (r 11) (r 0) (r 1) m) (tr (seqQ (f:=fun r m=>Q9z G (r 0) (r 10) (r 11) (r 1) m) (tr (seqQ (f:=fun r m=>Q9y G (r 10) (r 11) (r 0) (r 1) m) (tr (seqQ (f:=fun r m=>Q9x G (r 11) (r 10) (r 0) (r 1) m) (tr (seqQ (f:=fun r m=>Q9w G (r 10) (r 11) (r 0) (r 1) m) (tr (tr (seqQ (f:=fun r m=>Q9v G (r 0) (r 11) (r 1) m)) (Xm (X1l (fun i r m=>Q3 G i (r 10) (r 11) (r 0) (r 1) m) (fun _ _=>rfl) (fun i0=>tr (Xm (tr (seqQ (f:=fun r m=>Q8s G (Q3 G i0) (r 10) (r 11) (r 0) (r 1) m) (tr (tr (seqQ (f:=fun r m=>Q8r G (Q3 G i0) (r 10) (r 11) (r 0) (r 1) m)) (Xm (X1l (fun i r m=>Q1e G (Q3 G i0) i (r 10) (r 11) (r 0) (r 1) m) (fun _ _=>rfl) (fun i1=>tr (tr seqD (seqQ (f:=fun r m=>Q41 G (Q1e G (Q3 G i0) i1) (Q3 G i0) (r 129) (r 11) (r 10) (r 0) (r 1) m))))))))) (Xm (X1l (fun i r m=>Q1f G (Q3 G i0) i (r 10) (r 11) (r 0) (r 1) m) (fun _ _=>rfl) (fun i1=>tr (tr seqD (seqQ (f:=fun r m=>Q42 G (Q1f G (Q3 G i0) i1) (Q3 G i0) (r 112) (r 10) (r 11) (r 0) (r 1) m)))))))))))))))))))))) (Xm (X1l (fun i r m=>Q1g G i (r 10) (r 11) (r 0) (r 1) m) (fun _ _=>rfl) (fun i0=>tr (tr seqD (seqQ (f:=fun r m=>Q43 G (Q1g G i0) (r 60) (r 11) (r 10) (r 0) (r 1) m))))))))) (Xm (X1l (fun i r m=>Q1h G i (r 10) (r 11) (r 0) (r 1) m) (fun _ _=>rfl) (fun i0=>tr (tr seqD (seqQ (f:=fun r m=>Q44 G (Q1h G i0) (r 43) (r 10) (r 11) (r 0) (r 1) m)))))))))))))) m
def Q5q:En:=⟨Q58,Tryz.f652,Tryz.func652,by kernel_rfl,arg4 (fun G a0 a1 a2 a3 m=>Q1r G a0 a1 a3 a2 m),X3u Qo7⟩
def Qkk:En:=wE Qjw Tryz.f670 Tryz.func670 ⟨_,by go_invoke; rfl⟩
def Qit:En:=wE Q22 Tryz.f673 Tryz.func673 ⟨_,by go_invoke; rfl⟩
def Q2i (G:Gt)(p0 p1 p2 p4 p3:V)(m:M):R:=bp (G.tab Q2g [p0,p1,p2,p4] m) fun x0 m=>bp (pur (X6 x0 0) m) fun x1 m=>bp (pur (X6 x0 1) m) fun x2 m=>bp (G.tab Q2g [p0,x2,p3,p4] m) fun x3 m=>bp (pur (X6 x3 0) m) fun x4 m=>bp (pur (X6 x3 1) m) fun x5 m=>bp (G.tab Q2g [p0,x1,x4,p4] m) fun x6 m=>bp (pur (X6 x6 0) m) fun x7 m=>bp (pur (X6 x6 1) m) fun x8 m=>some (x8,m)
theorem Qrg (G:Gt)(a0 a1 a2 a3 a4:V)(m:M):ef G Tryz.f674 [a0,a1,a2,a3,a4] m = Q2i G a0 a1 a2 a4 a3 m:=Xb (r:=fun r m=>Q2i G (r 0) (r 1) (r 2) (r 4) (r 3) m) rfl rfl (fun r m=>by kernel_rfl) m
def Q78:En:=⟨Q70,Tryz.f674,Tryz.func674,by kernel_rfl,arg5 (fun G a0 a1 a2 a3 a4 m=>Q2i G a0 a1 a2 a4 a3 m),Xdn Qrg⟩
def Qg5:En:=wE Qfp Tryz.f680 Tryz.func680 ⟨_,by go_invoke; rfl⟩
def Q2j (G:Gt)(p0 p2 p1 p3:V)(m:M):R:=bp (pur (X5 1 p0 p2) m) fun x0 m=>bp (pur (X4 false 1 x0 m) m) fun x1 m=>bp (pur (X5 1 p0 p1) m) fun x2 m=>bp (pur (X4 false 1 x2 m) m) fun x3 m=>bp (G.tab Qq [x1,x3] m) fun x4 m=>brb x4 (bp (pur (Xa p3) m) fun x5 m=>bp (pur (X4 false 1 x5 m) m) fun x6 m=>bp (pur (bin .add true true .int x6 (.int .i64 1)) m) fun x7 m=>bp (pur (Xa p3) m) fun x8 m=>bp (unt (X8 1 x8 x7 m)) fun _ m=>some (.tuple ⟨[p2,p1]⟩,m)) (some (.tuple ⟨[p1,p2]⟩,m))
theorem Qrh (G:Gt)(a0 a1 a2 a3:V)(m:M):ef G Tryz.f688 [a0,a1,a2,a3] m = Q2j G a0 a2 a1 a3 m:=Xb (r:=fun r m=>Q2j G (r 0) (r 2) (r 1) (r 3) m) rfl rfl (fun r m=>by kernel_rfl) m
def Q79:En:=⟨Q2g,Tryz.f688,Tryz.func688,by kernel_rfl,arg4 (fun G a0 a1 a2 a3 m=>Q2j G a0 a2 a1 a3 m),X3u Qrh⟩
end
end Go.Ab.Sh

set_option maxRecDepth 100000
namespace Go.Ab.Sh
open Go Go.Ab Go.Proofs
noncomputable section
end
end Go.Ab.Sh
