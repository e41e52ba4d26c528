/-
  Functions of the program as plain definitions. No conditions.
-/
import Derived.Test.YtbpkpklaegnkiaaGreatDoorAb5
import Derived.Test.YtbpkpklaegnkiaaGreatDoorZ
import Derived.KernelRfl
import Derived.Test.YtbpkpklaegnkiaaGreatDoorProg
set_option linter.unusedSimpArgs false
set_option linter.unusedVariables false
set_option maxRecDepth 100000
namespace Go.Ab.Sh
open Go Go.Ab Go.Proofs
noncomputable section
def Qdj (G:Gt)(p9 p0:V)(m:M):R:=brb p9 (some (.tuple ⟨[(.int .u32 0),(.int .i64 1)]⟩,m)) (bp (G.tab Qge [p0] m) fun x0 m=>bp (pur (bin .sub true true .int (.int .u64 4294967296) x0) m) fun x1 m=>bp (conv (.int .u32) x1 m) fun x2 m=>some (.tuple ⟨[x2,(.int .i64 0)]⟩,m))
def Qly (G:Gt)(p0:V)(m:M):R:=bp (pur (bin .lss true true .int p0 (.int .i64 0)) m) fun x3 m=>brb x3 (Qdj G (.bool true) p0 m) (bp (pur (bin .gtr true true .int p0 (.int .i64 32)) m) fun x4 m=>Qdj G x4 p0 m)
def Q68 (G:Gt)(p0:V)(m:M):R:=Qly G p0 m
theorem Q11o (G:Gt)(a0:V)(m:M):ef G Tryz.f362 [a0] m = Q68 G a0 m:=Xb (r:=fun r m=>Q68 G (r 0) m) rfl rfl (tr (seqQ (f:=fun r m=>Qly G (r 0) m) (tr (tr seqD (seqQ (f:=fun r m=>Qdj G (r 9) (r 0) m)))))) m
def Qgr:En:=⟨Qgf,Tryz.f362,Tryz.func362,by kernel_rfl,arg1 Q68,X1v Q11o⟩
def Qye:En:=wE Qy1 Tryz.f363 Tryz.func363 ⟨_,by go_invoke; rfl⟩
def Qtp:En:=wE Qtb Tryz.f364 Tryz.func364 ⟨_,by go_invoke; rfl⟩
def Qp3:En:=wE Qp0 Tryz.f365 Tryz.func365 ⟨_,by go_invoke; rfl⟩
def Qlp:En:=wE Qlb Tryz.f366 Tryz.func366 ⟨_,by go_invoke; rfl⟩
def Qtq:En:=wE Qtc Tryz.f367 Tryz.func367 ⟨_,by go_invoke; rfl⟩
def Q1ar:En:=wE Q1ad Tryz.f370 Tryz.func370 ⟨_,by go_invoke; rfl⟩
def Qv2:En:=wE Qu7 Tryz.f371 Tryz.func371 ⟨_,by go_invoke; rfl⟩
def Qdk:En:=wE Qd0 Tryz.f374 Tryz.func374 ⟨_,by go_invoke; rfl⟩
def Q172:En:=wE Q16m Tryz.f375 Tryz.func375 ⟨_,by go_invoke; rfl⟩
def Q1ff:En:=wE Q1el Tryz.f376 Tryz.func376 ⟨_,by go_invoke; rfl⟩
def Qhj:En:=wE Qhh Tryz.f394 Tryz.func394 ⟨_,by go_invoke; rfl⟩
def Qkc:En:=wE Qjt Tryz.f404 Tryz.func404 ⟨_,by go_invoke; rfl⟩
def Qjl:En:=wE Qj6 Tryz.f405 Tryz.func405 ⟨_,by go_invoke; rfl⟩
def Qgt:En:=wE Qgg Tryz.f406 Tryz.func406 ⟨_,by go_invoke; rfl⟩
def Qe4:En:=wE Qdy Tryz.f407 Tryz.func407 ⟨_,by go_invoke; rfl⟩
def Qjm:En:=wE Qj7 Tryz.f408 Tryz.func408 ⟨_,by go_invoke; rfl⟩
def Qe5:En:=wE Qdz Tryz.f409 Tryz.func409 ⟨_,by go_invoke; rfl⟩
def Qyf:En:=wE Qy2 Tryz.f411 Tryz.func411 ⟨_,by go_invoke; rfl⟩
def Q2m (G:Gt)(p0:V)(m:M):R:=bp (pur (bin .neq false true .int p0 p0) m) fun x0 m=>some (x0,m)
theorem Q173 (G:Gt)(a0:V)(m:M):ef G Tryz.f412 [a0] m = Q2m G a0 m:=Xb (r:=fun r m=>Q2m G (r 0) m) rfl rfl (fun r m=>by kernel_rfl) m
def Q8w:En:=⟨Q6b,Tryz.f412,Tryz.func412,by kernel_rfl,arg1 Q2m,X1v Q173⟩
def Qe6:En:=wE Qe0 Tryz.f413 Tryz.func413 ⟨_,by go_invoke; rfl⟩
def Qir:En:=wE Qig Tryz.f416 Tryz.func416 ⟨_,by go_invoke; rfl⟩
def Qi3:En:=wE Qhr Tryz.f419 Tryz.func419 ⟨_,by go_invoke; rfl⟩
def Qis:En:=wE Qih Tryz.f421 Tryz.func421 ⟨_,by go_invoke; rfl⟩
def Qpc (G:Gt)(p6:V)(m:M):R:=some (.tuple ⟨[p6,(.int .i64 0)]⟩,m)
def Qgu (G:Gt)(k0:J4)(p7 p3 p0 p6:V)(m:M):R:=bp (pur (bin .sub true true .int p7 (.int .i64 1)) m) fun x0 m=>k0 x0 p3 p0 p6 m
def Qgv (G:Gt)(k0:J4)(p27 p7 p3 p0 p6:V)(m:M):R:=brb p27 (Qgu G k0 p7 p3 p0 p6 m) (bp (pur (Xa p0) m) fun x1 m=>bp (pur (X0 0 x1) m) fun x2 m=>bp (pur (X4 false 1 x2 m) m) fun x3 m=>bp (G.tab Qaw [p7] m) fun x4 m=>ckB (again (pur (X4 false 1 x2 m) m) x3 && true) (bp (G.tab Q1y [x3,x4] m) fun x5 m=>bp (pur (X6 x5 0) m) fun x6 m=>bp (pur (X6 x5 1) m) fun x7 m=>bp (pur (bin .neq true true .int x7 (.int .i64 0)) m) fun x8 m=>brb x8 (some (.tuple ⟨[(.int .i64 0),x7]⟩,m)) (bp (pur (Xa p0) m) fun x9 m=>bp (pur (X0 0 x9) m) fun x10 m=>bp (pur (X4 false 1 x10 m) m) fun x11 m=>bp (G.tab Qzg [p7] m) fun x12 m=>ckB (again (pur (X4 false 1 x10 m) m) x11 && true) (bp (G.tab Q1y [x11,x12] m) fun x13 m=>bp (pur (X6 x13 0) m) fun x14 m=>bp (pur (X6 x13 1) m) fun x15 m=>bp (pur (bin .neq true true .int x15 (.int .i64 0)) m) fun x16 m=>brb x16 (some (.tuple ⟨[(.int .i64 0),x15]⟩,m)) (bp (pur (Xa p0) m) fun x17 m=>bp (pur (X0 0 x17) m) fun x18 m=>bp (pur (X4 false 1 x18 m) m) fun x19 m=>bp (G.tab Qld [x19,x6,x14] m) fun x20 m=>bp (pur (X6 x20 0) m) fun x21 m=>bp (pur (X6 x20 1) m) fun x22 m=>bp (pur (bin .neq true true .int x22 (.int .i64 0)) m) fun x23 m=>brb x23 (some (.tuple ⟨[(.int .i64 0),x22]⟩,m)) (bp (pur (Xa p0) m) fun x24 m=>bp (pur (X0 0 x24) m) fun x25 m=>bp (pur (X4 false 1 x25 m) m) fun x26 m=>bp (G.tab Q19 [x26,x21,(.int .i64 0),p6] m) fun x27 m=>bp (pur (X6 x27 0) m) fun x28 m=>bp (pur (X6 x27 1) m) fun x29 m=>bp (pur (bin .neq true true .int x29 (.int .i64 0)) m) fun x30 m=>brb x30 (some (.tuple ⟨[(.int .i64 0),x29]⟩,m)) (Qgu G k0 p7 p3 p0 x28 m)))))))
def Qpd (G:Gt)(k0:J4)(p7 p3 p0 p6:V)(m:M):R:=bp (pur (X0 0 p3) m) fun x31 m=>bp (pur (X4 false 1 x31 m) m) fun x32 m=>bp (pur (bin .geq false true .int p7 x32) m) fun x33 m=>brb x33 (bp (pur (X0 0 p3) m) fun x34 m=>bp (pur (X4 false 1 x34 m) m) fun x35 m=>bp (pur (X0 1 p3) m) fun x36 m=>bp (pur (X4 false 1 x36 m) m) fun x37 m=>bp (pur (bin .add false true .int x35 x37) m) fun x38 m=>bp (pur (bin .lss false true .int p7 x38) m) fun x39 m=>Qgv G k0 x39 p7 p3 p0 p6 m) (Qgv G k0 (.bool false) p7 p3 p0 p6 m)
def Q3l (G:Gt):Nat→V→V→V→V→M→R
 | 0,_,_,_,_,_=>none
 | i + 1,p7,p3,p0,p6,m=>bp (pur (bin .geq true true .int p7 (.int .i64 0)) m) fun x40 m=>brb x40 (Qpd G (Q3l G i) p7 p3 p0 p6 m) (Qpc G p6 m)
def Qpe (G:Gt)(p7 p3 p0 p6:V)(m:M):R:=Q3l G G.rds p7 p3 p0 p6 m
def Qpf (G:Gt)(p3 p0 p6:V)(m:M):R:=Qpe G (.int .i64 103) p3 p0 p6 m
def Qpg (G:Gt)(p3 p0:V)(m:M):R:=Qpf G p3 p0 (.int .i64 1) m
def Q85 (G:Gt)(p1 p0:V)(m:M):R:=bp (some (aNew Q18o (Value.cells p1).toList m)) fun x41 m=>Qpg G x41 p0 m
theorem Q15h (G:Gt)(a0 a1:V)(m:M):ef G Tryz.f422 [a0,a1] m = Q85 G a1 a0 m:=Xb (r:=fun r m=>Q85 G (r 1) (r 0) m) rfl rfl (tr (seqQ (f:=fun r m=>Qpg G (r 3) (r 0) m) (tr (seqQ (f:=fun r m=>Qpf G (r 3) (r 0) (r 6) m) (tr (tr (seqQ (f:=fun r m=>Qpc G (r 6) m)) (seqQ (f:=fun r m=>Qpe G (r 7) (r 3) (r 0) (r 6) m) (tr (Xm (X1l (fun i r m=>Q3l G i (r 7) (r 3) (r 0) (r 6) m) (fun _ _=>rfl) (fun i0=>tr (seqQ (f:=fun r m=>Qpd G (Q3l G i0) (r 7) (r 3) (r 0) (r 6) m) (tr (tr (seqQ (f:=fun r m=>Qgu G (Q3l G i0) (r 7) (r 3) (r 0) (r 6) m)) (Xm (tr seqD (seqQ (f:=fun r m=>Qgv G (Q3l G i0) (r 27) (r 7) (r 3) (r 0) (r 6) m)))))))))))))))))) m
def Qjj:En:=⟨Qsy,Tryz.f422,Tryz.func422,by kernel_rfl,arg2 (fun G a0 a1 m=>Q85 G a1 a0 m),X19 Q15h⟩
def Qre:En:=wE Qr6 Tryz.f423 Tryz.func423 ⟨_,by go_invoke; rfl⟩
def Q9n (G:Gt)(p0 p1:V)(m:M):R:=bp (Xc Q7j [(.int .i64 0)] 1 1 [(0,p1)] m) fun x0 m=>bp (G.tab Q57 [p0,x0,(.slice none 0 0)] m) fun x1 m=>bp (pur (bin .neq true true .int x1 (.int .i64 0)) m) fun x2 m=>brb x2 (some (.tuple ⟨[(.int .i64 0),x1]⟩,m)) (bp (pur (Xa p0) m) fun x3 m=>bp (pur (X0 0 x3) m) fun x4 m=>bp (pur (X4 false 1 x4 m) m) fun x5 m=>bp (G.tab Q6f [x5,p1] m) fun x6 m=>bp (pur (X6 x6 0) m) fun x7 m=>bp (pur (X6 x6 1) m) fun x8 m=>some (.tuple ⟨[x7,x8]⟩,m))
theorem Q174 (G:Gt)(a0 a1:V)(m:M):ef G Tryz.f424 [a0,a1] m = Q9n G a0 a1 m:=Xb (r:=fun r m=>Q9n G (r 0) (r 1) m) rfl rfl (fun r m=>by kernel_rfl) m
def Qln:En:=⟨Qep,Tryz.f424,Tryz.func424,by kernel_rfl,arg2 Q9n,X19 Q174⟩
def Qx5:En:=wE Qwj Tryz.f425 Tryz.func425 ⟨_,by go_invoke; rfl⟩
def Q38 (G:Gt)(p1 p0 p2 p3:V)(m:M):R:=bp (some (aNew Qpy (Value.cells p1).toList m)) fun x0 m=>bp (pur (X4 false 1 p2 m) m) fun x1 m=>bp (pur (X4 false 1 p2 m) m) fun x2 m=>bp (pur (Xa x2) m) fun x3 m=>bp (pur (X0 0 x3) m) fun x4 m=>bp (pur (X4 false 1 x4 m) m) fun x5 m=>bp (pur (X0 0 p3) m) fun x6 m=>bp (pur (Xr 8 1 x6 p0) m) fun x7 m=>bp (pur (X4 false 1 x7 m) m) fun x8 m=>bp (pur (X4 false 1 p2 m) m) fun x9 m=>bp (pur (X4 true 5 x0 m) m) fun x10 m=>bp (pur (X0 0 p3) m) fun x11 m=>bp (G.tab Q6r [x9,x10,(.int .i64 1)] m) fun x12 m=>ckB (again (pur (X4 false 1 p2 m) m) x1 && (again (pur (X4 false 1 p2 m) m) x2 && (again (pur (X4 false 1 x4 m) m) x5 && (again (pur (X4 false 1 x7 m) m) x8 && true)))) (bp (G.tab Q56 [x5,x8,x12] m) fun x13 m=>ckB (again (pur (X4 false 1 p2 m) m) x1 && true) (bp (pur (X6 x13 0) m) fun x14 m=>bp (pur (X6 x13 1) m) fun x15 m=>bp (G.tab Q10 [x1,x14,x15] m) fun x16 m=>bp (pur (Xr 8 1 x11 p0) m) fun x17 m=>bp (unt (X8 1 x17 x16 m)) fun _ m=>some (.tuple ⟨[]⟩,m)))
theorem Qv3 (G:Gt)(a0 a1 a2 a3:V)(m:M):ef G Tryz.f426 [a0,a1,a2,a3] m = Q38 G a1 a0 a2 a3 m:=Xb (r:=fun r m=>Q38 G (r 1) (r 0) (r 2) (r 3) m) rfl rfl (fun r m=>by kernel_rfl) m
def Q9q:En:=⟨Qhs,Tryz.f426,Tryz.func426,by kernel_rfl,arg4 (fun G a0 a1 a2 a3 m=>Q38 G a1 a0 a2 a3 m),X3u Qv3⟩
def Q3t (G:Gt)(p1 p0 p2:V)(m:M):R:=bp (some (aNew Qpy (Value.cells p1).toList m)) fun x0 m=>bp (pur (X0 3 x0) m) fun x1 m=>bp (pur (X4 false 1 x1 m) m) fun x2 m=>bp (pur (Xa p0) m) fun x3 m=>bp (pur (X0 0 x3) m) fun x4 m=>bp (pur (X4 false 1 x4 m) m) fun x5 m=>bp (pur (X0 4 x0) m) fun x6 m=>bp (pur (X4 false 1 x6 m) m) fun x7 m=>bp (G.tab Q6c [x5,x7,p2] m) fun x8 m=>ckB (again (pur (X4 false 1 x1 m) m) x2 && true) (bp (pur (X6 x8 0) m) fun x9 m=>bp (pur (X6 x8 1) m) fun x10 m=>bp (G.tab Q10 [p0,x9,x10] m) fun x11 m=>ckB (again (pur (X4 false 1 x1 m) m) x2 && true) (bp (G.tab Q6t [p0,x2,x11] m) fun x12 m=>bp (pur (X0 1 x0) m) fun x13 m=>bp (pur (X4 false 1 x13 m) m) fun x14 m=>bp (pur (Xa p0) m) fun x15 m=>bp (pur (X0 0 x15) m) fun x16 m=>bp (pur (X4 false 1 x16 m) m) fun x17 m=>bp (pur (X0 2 x0) m) fun x18 m=>bp (pur (X4 false 1 x18 m) m) fun x19 m=>bp (G.tab Q6c [x17,x19,x12] m) fun x20 m=>ckB (again (pur (X4 false 1 x13 m) m) x14 && true) (bp (pur (X6 x20 0) m) fun x21 m=>bp (pur (X6 x20 1) m) fun x22 m=>bp (G.tab Q10 [p0,x21,x22] m) fun x23 m=>ckB (again (pur (X4 false 1 x13 m) m) x14 && true) (bp (G.tab Q6t [p0,x14,x23] m) fun x24 m=>bp (pur (Xa p0) m) fun x25 m=>bp (pur (X0 0 x25) m) fun x26 m=>bp (pur (X4 false 1 x26 m) m) fun x27 m=>bp (pur (X0 0 x0) m) fun x28 m=>bp (pur (X4 false 1 x28 m) m) fun x29 m=>bp (G.tab Q6c [x27,x29,x24] m) fun x30 m=>bp (pur (X6 x30 0) m) fun x31 m=>bp (pur (X6 x30 1) m) fun x32 m=>bp (G.tab Q10 [p0,x31,x32] m) fun x33 m=>some (x33,m)))))
theorem Qx6 (G:Gt)(a0 a1 a2:V)(m:M):ef G Tryz.f427 [a0,a1,a2] m = Q3t G a1 a0 a2 m:=Xb (r:=fun r m=>Q3t G (r 1) (r 0) (r 2) m) rfl rfl (fun r m=>by kernel_rfl) m
def Qc0:En:=⟨Q6r,Tryz.f427,Tryz.func427,by kernel_rfl,arg3 (fun G a0 a1 a2 m=>Q3t G a1 a0 a2 m),X2n Qx6⟩
def Qv4:En:=wE Qu8 Tryz.f428 Tryz.func428 ⟨_,by go_invoke; rfl⟩
def Q4v (G:Gt)(p0 p1:V)(m:M):R:=bp (pur (Xa p0) m) fun x0 m=>bp (pur (X0 0 x0) m) fun x1 m=>bp (pur (X4 false 1 x1 m) m) fun x2 m=>bp (pur (X18 Qh [(0,1),(1,1)] [(0,p1),(1,(.int .i64 32))]) m) fun x3 m=>bp (G.tab Qgh [x2,(.int .i64 1),x3] m) fun x4 m=>bp (pur (X6 x4 0) m) fun x5 m=>bp (pur (X6 x4 1) m) fun x6 m=>bp (G.tab Q10 [p0,x5,x6] m) fun x7 m=>some (x7,m)
theorem Qyg (G:Gt)(a0 a1:V)(m:M):ef G Tryz.f429 [a0,a1] m = Q4v G a0 a1 m:=Xb (r:=fun r m=>Q4v G (r 0) (r 1) m) rfl rfl (fun r m=>by kernel_rfl) m
def Qdh:En:=⟨Qlw,Tryz.f429,Tryz.func429,by kernel_rfl,arg2 Q4v,X19 Qyg⟩
def Q11p:En:=wE Q116 Tryz.f430 Tryz.func430 ⟨_,by go_invoke; rfl⟩
def Qfg:En:=wE Qeq Tryz.f431 Tryz.func431 ⟨_,by go_invoke; rfl⟩
def Qv5:En:=wE Qu9 Tryz.f432 Tryz.func432 ⟨_,by go_invoke; rfl⟩
def Qdl (G:Gt)(p16 p5 p0 p1:V)(m:M):R:=brb p16 (some (.tuple ⟨[(.int .i64 0),(.int .i64 1)]⟩,m)) (bp (pur (X4 true 2 p5 m) m) fun x0 m=>bp (G.tab Qho [x0] m) fun x1 m=>bp (pur (bin .neq true true .int x1 (.int .i64 0)) m) fun x2 m=>brb x2 (some (.tuple ⟨[(.int .i64 0),x1]⟩,m)) (bp (pur (X0 1 p5) m) fun x3 m=>bp (pur (X4 false 1 x3 m) m) fun x4 m=>bp (pur (X0 0 p5) m) fun x5 m=>bp (pur (X4 false 1 x5 m) m) fun x6 m=>bp (conv (.int .u64) x6 m) fun x7 m=>bp (pur (X0 1 p5) m) fun x8 m=>bp (pur (X4 false 1 x8 m) m) fun x9 m=>bp (pur (bin .sub true true .int (.int .i64 32) x9) m) fun x10 m=>bp (pur (bin .shr false true .int x7 x10) m) fun x11 m=>bp (G.tab Q160 [] m) fun x12 m=>ckB (again (pur (X4 false 1 x3 m) m) x4 && (again (pur (X4 false 1 x5 m) m) x6 && (again (pur (X4 false 1 x8 m) m) x9 && true))) (bp (pur (X5 2 x12 p1) m) fun x13 m=>bp (pur (X0 0 x13) m) fun x14 m=>bp (pur (X4 false 1 x14 m) m) fun x15 m=>bp (G.tab Qj9 [p0,x15,x4,x11,(.func (.func Qaw) #[] #[])] m) fun x16 m=>bp (pur (X6 x16 0) m) fun x17 m=>bp (pur (X6 x16 1) m) fun x18 m=>some (.tuple ⟨[x17,x18]⟩,m))))
def Qlz (G:Gt)(p1 p5 p0:V)(m:M):R:=bp (pur (bin .neq true true .int p1 (.int .i64 0)) m) fun x19 m=>brb x19 (bp (pur (bin .neq true true .int p1 (.int .i64 1)) m) fun x20 m=>Qdl G x20 p5 p0 p1 m) (Qdl G (.bool false) p5 p0 p1 m)
def Qm0 (G:Gt)(p0 p1 p5:V)(m:M):R:=bp (pur (binP m .eql true true .ptr p0 (.pointer none)) m) fun x21 m=>brb x21 (some (.tuple ⟨[(.int .i64 0),(.int .i64 2)]⟩,m)) (Qlz G p1 p5 p0 m)
def Q65 (G:Gt)(p2 p0 p1:V)(m:M):R:=bp (some (aNew Q7 (Value.cells p2).toList m)) fun x22 m=>Qm0 G p0 p1 x22 m
theorem Q11q (G:Gt)(a0 a1 a2:V)(m:M):ef G Tryz.f433 [a0,a1,a2] m = Q65 G a2 a0 a1 m:=Xb (r:=fun r m=>Q65 G (r 2) (r 0) (r 1) m) rfl rfl (tr (seqQ (f:=fun r m=>Qm0 G (r 0) (r 1) (r 5) m) (tr (seqQ (f:=fun r m=>Qlz G (r 1) (r 5) (r 0) m) (tr (tr seqD (seqQ (f:=fun r m=>Qdl G (r 16) (r 5) (r 0) (r 1) m)))))))) m
def Qgn:En:=⟨Qgh,Tryz.f433,Tryz.func433,by kernel_rfl,arg3 (fun G a0 a1 a2 m=>Q65 G a2 a0 a1 m),X2n Q11q⟩
def Q83 (G:Gt)(p0 p1 p2:V)(m:M):R:=bp (some (aNew Q1eu (Value.cells p0).toList m)) fun x0 m=>bp (pur (X4 false 1 x0 m) m) fun x1 m=>bp (G.tab Q97 [x1,p1,p2,(.func (.func Qp7) ⟨[]⟩ ⟨[x0]⟩)] m) fun x2 m=>bp (pur (X6 x2 0) m) fun x3 m=>bp (pur (X6 x2 1) m) fun x4 m=>some (.tuple ⟨[x3,x4]⟩,m)
theorem Q15i (G:Gt)(a0 a1 a2:V)(m:M):ef G Tryz.f434 [a0,a1,a2] m = Q83 G a0 a1 a2 m:=Xb (r:=fun r m=>Q83 G (r 0) (r 1) (r 2) m) rfl rfl (fun r m=>by kernel_rfl) m
def Qjh:En:=⟨Qsz,Tryz.f434,Tryz.func434,by kernel_rfl,arg3 Q83,X2n Q15i⟩
def Qyh:En:=wE Qy3 Tryz.f435 Tryz.func435 ⟨_,by go_invoke; rfl⟩
def Qc3:En:=wE Qbl Tryz.f436 Tryz.func436 ⟨_,by go_invoke; rfl⟩
def Qz (G:Gt)(p0:V)(m:M):R:=bp (pur (bin .eql true true .slice p0 (.slice none 0 0)) m) fun x0 m=>brb x0 (some ((.slice none 0 0),m)) (bp (Xc Q11 Qbn 2 0 [] m) fun x1 m=>bp (apS Q11 2 16 x1 p0 m) fun x2 m=>some (x2,m))
theorem Qhk (G:Gt)(a0:V)(m:M):ef G Tryz.f439 [a0] m = Qz G a0 m:=Xb (r:=fun r m=>Qz G (r 0) m) rfl rfl (fun r m=>by kernel_rfl) m
def Q2z:En:=⟨Q6m,Tryz.f439,Tryz.func439,by kernel_rfl,arg1 Qz,X1v Qhk⟩
end
end Go.Ab.Sh

set_option maxRecDepth 100000
namespace Go.Ab.Sh
open Go Go.Ab Go.Proofs
noncomputable section
def Qi4 (G:Gt)(p8 p7:V)(m:M):R:=some (.tuple ⟨[p8,p7]⟩,m)
def Q9t (G:Gt):Nat→V→V→V→V→V→M→R
 | 0,_,_,_,_,_,_=>none
 | i + 1,p20,p19,p18,p8,p7,m=>bp (pur (bin .lss false true .int p20 p19) m) fun x0 m=>brb x0 (bp (pur (X5 3 p18 p20) m) fun x1 m=>bp (pur (X4 true 3 x1 m) m) fun x2 m=>bp (some (aNew Q1co Q1d1 m)) fun x3 m=>bp (unt (X8 3 x3 x2 m)) fun _ m=>bp (pur (X0 0 x3) m) fun x4 m=>bp (pur (X4 true 2 x4 m) m) fun x5 m=>bp (Xc Q11 Qbn 2 1 [(0,x5)] m) fun x6 m=>bp (apS Q11 2 16 p8 x6 m) fun x7 m=>bp (pur (bin .add true true .int p20 (.int .i64 1)) m) fun x8 m=>(Q9t G i) x8 p19 p18 x7 p7 m) (Qi4 G p8 p7 m)
def Qi5 (G:Gt)(p20 p19 p18 p8 p7:V)(m:M):R:=Q9t G G.rds p20 p19 p18 p8 p7 m
def Qi6 (G:Gt)(p6 p8 p7:V)(m:M):R:=bp (pur (X0 8 p6) m) fun x9 m=>bp (pur (X4 false 1 x9 m) m) fun x10 m=>bp (pur (lenK 1 x10 m) m) fun x11 m=>Qi5 G (.int .i64 0) x11 x10 p8 p7 m
def Qi7 (G:Gt)(p6 p7:V)(m:M):R:=Qi6 G p6 (.slice none 0 0) p7 m
def Qi8 (G:Gt)(p0 p3:V)(m:M):R:=bp (pur (X4 true 2 p3 m) m) fun x12 m=>bp (G.tab Q62 [p0,x12] m) fun x13 m=>bp (pur (X6 x13 0) m) fun x14 m=>bp (pur (X6 x13 1) m) fun x15 m=>bp (some (aNew Qfq Q7o m)) fun x16 m=>bp (unt (X8 9 x16 x14 m)) fun _ m=>Qi7 G x16 x15 m
def Q3r (G:Gt)(p1 p0:V)(m:M):R:=bp (some (aNew Q11 (Value.cells p1).toList m)) fun x17 m=>Qi8 G p0 x17 m
theorem Qx7 (G:Gt)(a0 a1:V)(m:M):ef G Tryz.f440 [a0,a1] m = Q3r G a1 a0 m:=Xb (r:=fun r m=>Q3r G (r 1) (r 0) m) rfl rfl (tr (seqQ (f:=fun r m=>Qi8 G (r 0) (r 3) m) (tr (seqQ (f:=fun r m=>Qi7 G (r 6) (r 7) m) (tr (seqQ (f:=fun r m=>Qi6 G (r 6) (r 8) (r 7) m) (tr (tr (seqQ (f:=fun r m=>Qi4 G (r 8) (r 7) m)) (seqQ (f:=fun r m=>Qi5 G (r 20) (r 19) (r 18) (r 8) (r 7) m) (tr (Xm (X1l (fun i r m=>Q9t G i (r 20) (r 19) (r 18) (r 8) (r 7) m) (fun _ _=>rfl) (fun i0=>fun r m=>by kernel_rfl))))))))))))) m
def Qby:En:=⟨Q6s,Tryz.f440,Tryz.func440,by kernel_rfl,arg2 (fun G a0 a1 m=>Q3r G a1 a0 m),X19 Qx7⟩
def Q4u (G:Gt)(p1 p0 p2 p3:V)(m:M):R:=bp (some (aNew Q11 (Value.cells p1).toList m)) fun x0 m=>bp (pur (X4 true 2 x0 m) m) fun x1 m=>bp (G.tab Q99 [p0,x1,p2,p3,(.func (.func Q6r) #[] #[])] m) fun x2 m=>bp (pur (X6 x2 0) m) fun x3 m=>bp (pur (X6 x2 1) m) fun x4 m=>some (.tuple ⟨[x3,x4]⟩,m)
theorem Qyi (G:Gt)(a0 a1 a2 a3:V)(m:M):ef G Tryz.f441 [a0,a1,a2,a3] m = Q4u G a1 a0 a2 a3 m:=Xb (r:=fun r m=>Q4u G (r 1) (r 0) (r 2) (r 3) m) rfl rfl (fun r m=>by kernel_rfl) m
def Qdg:En:=⟨Q7i,Tryz.f441,Tryz.func441,by kernel_rfl,arg4 (fun G a0 a1 a2 a3 m=>Q4u G a1 a0 a2 a3 m),X3u Qyi⟩
def Q4t (G:Gt)(p0 p1:V)(m:M):R:=bp (some (aNew Q11 (Value.cells p0).toList m)) fun x0 m=>bp (pur (X4 false 1 p1 m) m) fun x1 m=>bp (pur (X4 true 2 x0 m) m) fun x2 m=>bp (pur (X1j (.struct [(0,1,false,.int),(1,1,false,.int)]) (.int .i64 0) false x1 x2 m) m) fun x3 m=>some (x3,m)
theorem Qyj (G:Gt)(a0 a1:V)(m:M):ef G Tryz.f442 [a0,a1] m = Q4t G a0 a1 m:=Xb (r:=fun r m=>Q4t G (r 0) (r 1) m) rfl rfl (fun r m=>by kernel_rfl) m
def Qdf:En:=⟨Qd1,Tryz.f442,Tryz.func442,by kernel_rfl,arg2 Q4t,X19 Qyj⟩
def Q66 (G:Gt)(p1 p0:V)(m:M):R:=bp (some (aNew Q11 (Value.cells p1).toList m)) fun x0 m=>bp (some (aNew Qfq Q7o m)) fun x1 m=>bp (pur (binP m .eql true true .ptr p0 (.pointer none)) m) fun x2 m=>brb x2 (bp (pur (X18 Q7o [(0,8),(8,1)] []) m) fun x3 m=>bp (unt (X8 9 x1 x3 m)) fun _ m=>ob (ob (X4 true 9 x1 m) fun v=>ob (some [(.int .i64 2)]) fun l=>some (v :: l)) fun l=>some (X1p l,m)) (bp (pur (Xa p0) m) fun x4 m=>bp (pur (X0 3 x4) m) fun x5 m=>bp (pur (X4 false 1 x5 m) m) fun x6 m=>bp (pur (X4 true 2 x0 m) m) fun x7 m=>bp (pur (X1j (.struct [(0,1,false,.int),(1,1,false,.int)]) (.agg #[(.int .i64 0),(.int .i64 0),(.int .i64 0),(.int .i64 0),(.int .i64 0),(.int .i64 0),(.int .i64 0),(.int .i64 0),(.slice none 0 0)]) true x6 x7 m) m) fun x8 m=>bp (pur (X6 x8 0) m) fun x9 m=>bp (pur (X6 x8 1) m) fun x10 m=>bp (some (aNew Qfq Q7o m)) fun x11 m=>bp (unt (X8 9 x11 x9 m)) fun _ m=>bp (pur (un .not x10) m) fun x12 m=>brb x12 (bp (pur (X18 Q7o [(0,8),(8,1)] []) m) fun x13 m=>bp (unt (X8 9 x1 x13 m)) fun _ m=>ob (ob (X4 true 9 x1 m) fun v=>ob (some [(.int .i64 1)]) fun l=>some (v :: l)) fun l=>some (X1p l,m)) (bp (pur (X4 true 9 x11 m) m) fun x14 m=>bp (unt (X8 9 x1 x14 m)) fun _ m=>ob (ob (X4 true 9 x1 m) fun v=>ob (some [(.int .i64 0)]) fun l=>some (v :: l)) fun l=>some (X1p l,m)))
theorem Q11r (G:Gt)(a0 a1:V)(m:M):ef G Tryz.f443 [a0,a1] m = Q66 G a1 a0 m:=Xb (r:=fun r m=>Q66 G (r 1) (r 0) m) rfl rfl (fun r m=>by kernel_rfl) m
def Qgo:En:=⟨Q62,Tryz.f443,Tryz.func443,by kernel_rfl,arg2 (fun G a0 a1 m=>Q66 G a1 a0 m),X19 Q11r⟩
def Q1d9:En:=wE Q1cb Tryz.f445 Tryz.func445 ⟨_,by go_invoke; rfl⟩
def Q5j (G:Gt)(p0 p1 p2:V)(m:M):R:=bp (G.tab Q19 [p0,p1,(.int .i64 1),p2] m) fun x0 m=>bp (pur (X6 x0 0) m) fun x1 m=>bp (pur (X6 x0 1) m) fun x2 m=>some (.tuple ⟨[x1,x2]⟩,m)
theorem Q18z (G:Gt)(a0 a1 a2:V)(m:M):ef G Tryz.f446 [a0,a1,a2] m = Q5j G a0 a1 a2 m:=Xb (r:=fun r m=>Q5j G (r 0) (r 1) (r 2) m) rfl rfl (fun r m=>by kernel_rfl) m
def Qb7:En:=⟨Qb2,Tryz.f446,Tryz.func446,by kernel_rfl,arg3 Q5j,X2n Q18z⟩
def Q1w (G:Gt)(p0 p1 p2 p3:V)(m:M):R:=bp (Xc Q7j [(.int .i64 0)] 1 3 [(0,p1),(1,p2),(2,p3)] m) fun x0 m=>bp (G.tab Q15 [p0,x0] m) fun x1 m=>bp (pur (bin .neq true true .int x1 (.int .i64 0)) m) fun x2 m=>brb x2 (some (.tuple ⟨[(.int .i64 0),x1]⟩,m)) (bp (conv (.int .i32) p1 m) fun x3 m=>bp (conv (.int .i32) p2 m) fun x4 m=>bp (conv (.int .i32) p3 m) fun x5 m=>bp (G.tab Qr [p0,x3,x4,x5] m) fun x6 m=>bp (G.tab Q26 [p0,x6] m) fun x7 m=>bp (pur (X6 x7 0) m) fun x8 m=>bp (pur (X6 x7 1) m) fun x9 m=>some (.tuple ⟨[x8,x9]⟩,m))
theorem Q175 (G:Gt)(a0 a1 a2 a3:V)(m:M):ef G Tryz.f447 [a0,a1,a2,a3] m = Q1w G a0 a1 a2 a3 m:=Xb (r:=fun r m=>Q1w G (r 0) (r 1) (r 2) (r 3) m) rfl rfl (fun r m=>by kernel_rfl) m
def Q8z:En:=⟨Q19,Tryz.f447,Tryz.func447,by kernel_rfl,arg4 Q1w,X3u Q175⟩
def Q5k (G:Gt)(p0 p1:V)(m:M):R:=bp (some (aNew Q1q (Value.cells p0).toList m)) fun x0 m=>bp (pur (X4 false 1 x0 m) m) fun x1 m=>bp (Xc Q7j [(.int .i64 0)] 1 1 [(0,p1)] m) fun x2 m=>bp (G.tab Q15 [x1,x2] m) fun x3 m=>bp (pur (bin .neq true true .int x3 (.int .i64 0)) m) fun x4 m=>brb x4 (some (.tuple ⟨[(.slice none 0 0),x3]⟩,m)) (bp (some (aNew Q1nt [(.slice none 0 0)] m)) fun x5 m=>bp (pur (X4 false 1 x0 m) m) fun x6 m=>bp (conv (.int .i32) p1 m) fun x7 m=>bp (G.tab Qhu [x6,x7,(.func (.func Qbm) ⟨[]⟩ ⟨[x5,x0]⟩)] m) fun x8 m=>bp (pur (X4 false 1 x5 m) m) fun x9 m=>bp (G.tab Q9a [x9] m) fun x10 m=>bp (pur (X4 false 1 x5 m) m) fun x11 m=>bp (G.tab Q6z [x11] m) fun x12 m=>some (.tuple ⟨[x12,(.int .i64 0)]⟩,m))
theorem Q101 (G:Gt)(a0 a1:V)(m:M):ef G Tryz.f449 [a0,a1] m = Q5k G a0 a1 m:=Xb (r:=fun r m=>Q5k G (r 0) (r 1) m) rfl rfl (fun r m=>by kernel_rfl) m
def Qfa:En:=⟨Qer,Tryz.f449,Tryz.func449,by kernel_rfl,arg2 Q5k,X19 Q101⟩
def Q8m (G:Gt)(m:M):R:=some ((.int .i64 0),m)
def Qf (G:Gt):Nat→V→V→V→V→M→R
 | 0,_,_,_,_,_=>none
 | i + 1,p11,p10,p9,p0,m=>bp (pur (bin .lss false true .int p11 p10) m) fun x0 m=>brb x0 (bp (pur (X5 1 p9 p11) m) fun x1 m=>bp (pur (X4 false 1 x1 m) m) fun x2 m=>bp (pur (Xa p0) m) fun x3 m=>bp (pur (X0 5 x3) m) fun x4 m=>bp (pur (X4 false 1 x4 m) m) fun x5 m=>bp (pur (X1j .int (.bool false) false x5 x2 m) m) fun x6 m=>bp (pur (un .not x6) m) fun x7 m=>brb x7 (some ((.int .i64 1),m)) (bp (pur (bin .add true true .int p11 (.int .i64 1)) m) fun x8 m=>(Qf G i) x8 p10 p9 p0 m)) (Q8m G m)
def Q8n (G:Gt)(p11 p10 p9 p0:V)(m:M):R:=Qf G G.rds p11 p10 p9 p0 m
def Q8o (G:Gt)(p1 p0:V)(m:M):R:=bp (pur (lenK 1 p1 m) m) fun x9 m=>Q8n G (.int .i64 0) x9 p1 p0 m
def Q8p (G:Gt)(p0 p1:V)(m:M):R:=bp (pur (binP m .eql true true .ptr p0 (.pointer none)) m) fun x10 m=>brb x10 (some ((.int .i64 2),m)) (Q8o G p1 p0 m)
def Qs (G:Gt)(p0 p1:V)(m:M):R:=Q8p G p0 p1 m
theorem Q13p (G:Gt)(a0 a1:V)(m:M):ef G Tryz.f450 [a0,a1] m = Qs G a0 a1 m:=Xb (r:=fun r m=>Qs G (r 0) (r 1) m) rfl rfl (tr (seqQ (f:=fun r m=>Q8p G (r 0) (r 1) m) (tr (seqQ (f:=fun r m=>Q8o G (r 1) (r 0) m) (tr (tr (seqQ (f:=fun r m=>Q8m G m)) (seqQ (f:=fun r m=>Q8n G (r 11) (r 10) (r 9) (r 0) m) (tr (Xm (X1l (fun i r m=>Qf G i (r 11) (r 10) (r 9) (r 0) m) (fun _ _=>rfl) (fun i0=>fun r m=>by kernel_rfl))))))))))) m
def Q6w:En:=⟨Q15,Tryz.f450,Tryz.func450,by kernel_rfl,arg2 Qs,X19 Q13p⟩
def Q13q:En:=wE Qr7 Tryz.f451 Tryz.func451 ⟨_,by go_invoke; rfl⟩
def Q5h (G:Gt)(p0 p1 p2:V)(m:M):R:=bp (pur (bin .lss true true .int p0 (.int .i32 2)) m) fun x0 m=>brb x0 (bp (pur (X4 false 1 p1 m) m) fun x1 m=>bp (pur (lenK 1 x1 m) m) fun x2 m=>some (x2,m)) (bp (pur (X4 false 1 p1 m) m) fun x3 m=>bp (pur (X4 false 1 p2 m) m) fun x4 m=>bp (pur (Xa x4) m) fun x5 m=>bp (pur (X0 2 x5) m) fun x6 m=>bp (pur (X4 false 1 x6 m) m) fun x7 m=>bp (pur (X5 3 x7 p0) m) fun x8 m=>bp (pur (X0 0 x8) m) fun x9 m=>bp (pur (X4 false 1 x9 m) m) fun x10 m=>bp (conv (.int .i64) x10 m) fun x11 m=>bp (G.tab Q4x [x3,x11] m) fun x12 m=>some (x12,m))
theorem Q102 (G:Gt)(a0 a1 a2:V)(m:M):ef G Tryz.f452 [a0,a1,a2] m = Q5h G a0 a1 a2 m:=Xb (r:=fun r m=>Q5h G (r 0) (r 1) (r 2) m) rfl rfl (fun r m=>by kernel_rfl) m
def Qf8:En:=⟨Qn7,Tryz.f452,Tryz.func452,by kernel_rfl,arg3 Q5h,X2n Q102⟩
def Qef (G:Gt)(m:M):R:=some ((.int .i64 (-1)),m)
def Q7a (G:Gt):Nat→V→V→V→V→M→R
 | 0,_,_,_,_,_=>none
 | i + 1,p8,p7,p1,p0,m=>bp (pur (bin .lss false true .int p8 p7) m) fun x0 m=>brb x0 (bp (pur (X5 1 p0 p8) m) fun x1 m=>bp (pur (X4 false 1 x1 m) m) fun x2 m=>bp (pur (bin .eql false true .int p1 x2) m) fun x3 m=>brb x3 (some (p8,m)) (bp (pur (bin .add true true .int p8 (.int .i64 1)) m) fun x4 m=>(Q7a G i) x4 p7 p1 p0 m)) (Qef G m)
def Qeg (G:Gt)(p8 p7 p1 p0:V)(m:M):R:=Q7a G G.rds p8 p7 p1 p0 m
def Qeh (G:Gt)(p0 p1:V)(m:M):R:=bp (pur (lenK 1 p0 m) m) fun x5 m=>Qeg G (.int .i64 0) x5 p1 p0 m
def Q2y (G:Gt)(p0 p1:V)(m:M):R:=Qeh G p0 p1 m
theorem Qtr (G:Gt)(a0 a1:V)(m:M):ef G Tryz.f453 [a0,a1] m = Q2y G a0 a1 m:=Xb (r:=fun r m=>Q2y G (r 0) (r 1) m) rfl rfl (tr (seqQ (f:=fun r m=>Qeh G (r 0) (r 1) m) (tr (tr (seqQ (f:=fun r m=>Qef G m)) (seqQ (f:=fun r m=>Qeg G (r 8) (r 7) (r 1) (r 0) m) (tr (Xm (X1l (fun i r m=>Q7a G i (r 8) (r 7) (r 1) (r 0) m) (fun _ _=>rfl) (fun i0=>fun r m=>by kernel_rfl))))))))) m
def Q8l:En:=⟨Q4x,Tryz.f453,Tryz.func453,by kernel_rfl,arg2 Q2y,X19 Qtr⟩
def Qkd (G:Gt)(p1 p0 p9 p6:V)(m:M):R:=bp (pur (X4 false 1 p1 m) m) fun x0 m=>bp (pur (X4 true 2 p9 m) m) fun x1 m=>bp (unt (Xn .int x0 p0 x1 m)) fun _ m=>bp (pur (X4 true 2 p9 m) m) fun x2 m=>bp (unt (X8 2 p6 x2 m)) fun _ m=>ob (ob (X4 true 2 p6 m) fun v=>ob (some []) fun l=>some (v :: l)) fun l=>some (X1p l,m)
def Qc4 (G:Gt):Nat→V→V→V→V→V→V→V→V→V→M→R
 | 0,_,_,_,_,_,_,_,_,_,_=>none
 | i + 1,p41,p40,p39,p3,p4,p0,p9,p1,p6,m=>bp (pur (bin .lss false true .int p41 p40) m) fun x3 m=>brb x3 (bp (pur (X5 1 p39 p41) m) fun x4 m=>bp (pur (X4 false 1 x4 m) m) fun x5 m=>bp (pur (X4 false 1 p3 m) m) fun x6 m=>bp (pur (X4 false 1 p4 m) m) fun x7 m=>bp (pur (X4 false 1 p4 m) m) fun x8 m=>bp (some (aNew Qg7 Q8q m)) fun x9 m=>bp (Xi G.tab x6 [x5] m) fun x10 m=>ckB (again (pur (X4 false 1 p4 m) m) x7 && (again (pur (X4 false 1 p4 m) m) x8 && true)) (bp (Xi G.tab x7 [x5] m) fun x11 m=>ckB (again (pur (X4 false 1 p4 m) m) x8 && true) (bp (Xi G.tab x8 [p0] m) fun x12 m=>bp (pur (bin .sub false true .int x11 x12) m) fun x13 m=>bp (pur (bin .sub true true .int x13 (.int .i64 1)) m) fun x14 m=>bp (G.tab Qwk [x10,x14] m) fun x15 m=>bp (unt (X8 2 x9 x15 m)) fun _ m=>bp (pur (X0 1 p9) m) fun x16 m=>bp (pur (X4 false 1 x16 m) m) fun x17 m=>bp (pur (X0 1 x9) m) fun x18 m=>bp (pur (X4 false 1 x18 m) m) fun x19 m=>bp (G.tab Qsw [x17,x19,(.int .u64 0)] m) fun x20 m=>bp (pur (X6 x20 0) m) fun x21 m=>bp (pur (X6 x20 1) m) fun x22 m=>bp (pur (X0 0 p9) m) fun x23 m=>bp (pur (X4 false 1 x23 m) m) fun x24 m=>bp (pur (X0 0 x9) m) fun x25 m=>bp (pur (X4 false 1 x25 m) m) fun x26 m=>bp (pur (bin .add false true .int x24 x26) m) fun x27 m=>bp (pur (bin .add false true .int x27 x22) m) fun x28 m=>bp (pur (X18 Q8q [(0,1),(1,1)] [(0,x28),(1,x21)]) m) fun x29 m=>bp (unt (X8 2 p9 x29 m)) fun _ m=>bp (pur (bin .add true true .int p41 (.int .i64 1)) m) fun x30 m=>(Qc4 G i) x30 p40 p39 p3 p4 p0 p9 p1 p6 m))) (Qkd G p1 p0 p9 p6 m)
def Qke (G:Gt)(p41 p40 p39 p3 p4 p0 p9 p1 p6:V)(m:M):R:=Qc4 G G.rds p41 p40 p39 p3 p4 p0 p9 p1 p6 m
def Qkf (G:Gt)(p2 p0 p3 p4 p9 p1 p6:V)(m:M):R:=bp (pur (X4 false 1 p2 m) m) fun x31 m=>bp (pur (Xa x31) m) fun x32 m=>bp (pur (X0 2 x32) m) fun x33 m=>bp (pur (X4 false 1 x33 m) m) fun x34 m=>bp (pur (X5 3 x34 p0) m) fun x35 m=>bp (pur (X0 1 x35) m) fun x36 m=>bp (pur (X4 false 1 x36 m) m) fun x37 m=>bp (pur (X4 false 1 p2 m) m) fun x38 m=>bp (pur (Xa x38) m) fun x39 m=>bp (pur (X0 2 x39) m) fun x40 m=>bp (pur (X4 false 1 x40 m) m) fun x41 m=>bp (pur (X5 3 x41 p0) m) fun x42 m=>bp (pur (X0 2 x42) m) fun x43 m=>bp (pur (X4 false 1 x43 m) m) fun x44 m=>bp (Xc Q1m [(.int .i32 0)] 1 2 [(0,x37),(1,x44)] m) fun x45 m=>bp (pur (lenK 1 x45 m) m) fun x46 m=>Qke G (.int .i64 0) x46 x45 p3 p4 p0 p9 p1 p6 m
def Qkg (G:Gt)(p2 p0 p3 p4 p1 p6:V)(m:M):R:=bp (some (aNew Qg7 Q8q m)) fun x47 m=>Qkf G p2 p0 p3 p4 x47 p1 p6 m
def Qkh (G:Gt)(p1 p0 p6 p2 p3 p4:V)(m:M):R:=bp (pur (X4 false 1 p1 m) m) fun x48 m=>bp (pur (X1j .int (.agg #[(.int .u64 0),(.int .u64 0)]) true x48 p0 m) m) fun x49 m=>bp (pur (X6 x49 0) m) fun x50 m=>bp (pur (X6 x49 1) m) fun x51 m=>bp (some (aNew Qg7 Q8q m)) fun x52 m=>bp (unt (X8 2 x52 x50 m)) fun _ m=>brb x51 (bp (pur (X4 true 2 x52 m) m) fun x53 m=>bp (unt (X8 2 p6 x53 m)) fun _ m=>ob (ob (X4 true 2 p6 m) fun v=>ob (some []) fun l=>some (v :: l)) fun l=>some (X1p l,m)) (Qkg G p2 p0 p3 p4 p1 p6 m)
def Q5i (G:Gt)(p1 p0 p2 p3 p4:V)(m:M):R:=bp (some (aNew Qg7 Q8q m)) fun x54 m=>Qkh G p1 p0 x54 p2 p3 p4 m
theorem Q103 (G:Gt)(a0 a1 a2 a3 a4:V)(m:M):ef G Tryz.f454 [a0,a1,a2,a3,a4] m = Q5i G a1 a0 a2 a3 a4 m:=Xb (r:=fun r m=>Q5i G (r 1) (r 0) (r 2) (r 3) (r 4) m) rfl rfl (tr (seqQ (f:=fun r m=>Qkh G (r 1) (r 0) (r 6) (r 2) (r 3) (r 4) m) (tr (seqQ (f:=fun r m=>Qkg G (r 2) (r 0) (r 3) (r 4) (r 1) (r 6) m) (tr (seqQ (f:=fun r m=>Qkf G (r 2) (r 0) (r 3) (r 4) (r 9) (r 1) (r 6) m) (tr (tr (seqQ (f:=fun r m=>Qkd G (r 1) (r 0) (r 9) (r 6) m)) (seqQ (f:=fun r m=>Qke G (r 41) (r 40) (r 39) (r 3) (r 4) (r 0) (r 9) (r 1) (r 6) m) (tr (Xm (X1l (fun i r m=>Qc4 G i (r 41) (r 40) (r 39) (r 3) (r 4) (r 0) (r 9) (r 1) (r 6) m) (fun _ _=>rfl) (fun i0=>fun r m=>by kernel_rfl))))))))))))) m
def Qf9:En:=⟨Qn8,Tryz.f454,Tryz.func454,by kernel_rfl,arg5 (fun G a0 a1 a2 a3 a4 m=>Q5i G a1 a0 a2 a3 a4 m),Xdn Q103⟩
def Qsp (G:Gt)(p2 p1 p4:V)(m:M):R:=bp (pur (X0 0 p2) m) fun x0 m=>bp (pur (X4 false 1 x0 m) m) fun x1 m=>bp (pur (bin .shl false true .int x1 p1) m) fun x2 m=>bp (pur (X0 1 p2) m) fun x3 m=>bp (pur (X4 false 1 x3 m) m) fun x4 m=>bp (pur (bin .sub true true .int (.int .i64 64) p1) m) fun x5 m=>bp (pur (bin .shr false true .int x4 x5) m) fun x6 m=>bp (pur (bin .or false true .int x2 x6) m) fun x7 m=>bp (pur (X0 1 p2) m) fun x8 m=>bp (pur (X4 false 1 x8 m) m) fun x9 m=>bp (pur (bin .shl false true .int x9 p1) m) fun x10 m=>bp (pur (X18 Q8q [(0,1),(1,1)] [(0,x7),(1,x10)]) m) fun x11 m=>bp (unt (X8 2 p4 x11 m)) fun _ m=>ob (ob (X4 true 2 p4 m) fun v=>ob (some []) fun l=>some (v :: l)) fun l=>some (X1p l,m)
def Q10x (G:Gt)(p1 p2 p4:V)(m:M):R:=bp (pur (bin .geq true true .int p1 (.int .i64 64)) m) fun x12 m=>brb x12 (bp (pur (X0 1 p2) m) fun x13 m=>bp (pur (X4 false 1 x13 m) m) fun x14 m=>bp (pur (X18 Q8q [(0,1),(1,1)] [(0,x14)]) m) fun x15 m=>bp (pur (bin .sub true true .int p1 (.int .i64 64)) m) fun x16 m=>bp (unt (X8 2 p2 x15 m)) fun _ m=>Qsp G p2 x16 p4 m) (Qsp G p2 p1 p4 m)
def Qkb (G:Gt)(p0 p1:V)(m:M):R:=bp (some (aNew Qg7 (Value.cells p0).toList m)) fun x17 m=>bp (some (aNew Qg7 Q8q m)) fun x18 m=>Q10x G p1 x17 x18 m
theorem Q1h4 (G:Gt)(a0 a1:V)(m:M):ef G Tryz.f455 [a0,a1] m = Qkb G a0 a1 m:=Xb (r:=fun r m=>Qkb G (r 0) (r 1) m) rfl rfl (tr (seqQ (f:=fun r m=>Q10x G (r 1) (r 2) (r 4) m) (tr (seqQ (f:=fun r m=>Qsp G (r 2) (r 1) (r 4) m))))) m
def Qx4:En:=⟨Qwk,Tryz.f455,Tryz.func455,by kernel_rfl,arg2 Qkb,X19 Q1h4⟩
def Q1v (G:Gt)(p0 p1 p2 p3:V)(m:M):R:=bp (pur (Xa p0) m) fun x0 m=>bp (pur (X0 2 x0) m) fun x1 m=>bp (pur (X4 false 1 x1 m) m) fun x2 m=>bp (pur (X5 3 x2 p1) m) fun x3 m=>bp (pur (X4 true 3 x3 m) m) fun x4 m=>bp (some (aNew Qd Qb5 m)) fun x5 m=>bp (unt (X8 3 x5 x4 m)) fun _ m=>bp (pur (X0 0 x5) m) fun x6 m=>bp (pur (X4 false 1 x6 m) m) fun x7 m=>bp (pur (bin .neq false true .int x7 p2) m) fun x8 m=>brb x8 (some (p1,m)) (brb p3 (bp (pur (X0 2 x5) m) fun x9 m=>bp (pur (X4 false 1 x9 m) m) fun x10 m=>some (x10,m)) (bp (pur (X0 1 x5) m) fun x11 m=>bp (pur (X4 false 1 x11 m) m) fun x12 m=>some (x12,m)))
theorem Q176 (G:Gt)(a0 a1 a2 a3:V)(m:M):ef G Tryz.f458 [a0,a1,a2,a3] m = Q1v G a0 a1 a2 a3 m:=Xb (r:=fun r m=>Q1v G (r 0) (r 1) (r 2) (r 3) m) rfl rfl (fun r m=>by kernel_rfl) m
def Q8y:En:=⟨Q2n,Tryz.f458,Tryz.func458,by kernel_rfl,arg4 Q1v,X3u Q176⟩
def Qqg (G:Gt)(p12 p2 p1:V)(m:M):R:=brb p12 (some (.tuple ⟨[(.bool false),(.int .i64 1)]⟩,m)) (bp (pur (X4 true 5 p2 m) m) fun x0 m=>bp (G.tab Qii [x0] m) fun x1 m=>bp (some (aNew Qqv Qqy m)) fun x2 m=>bp (unt (X8 13 x2 x1 m)) fun _ m=>bp (pur (bin .quo true true .int p1 (.int .i64 8)) m) fun x3 m=>bp (pur (Xr 13 1 x2 x3) m) fun x4 m=>bp (pur (X4 false 1 x4 m) m) fun x5 m=>bp (pur (bin .rem true true .int p1 (.int .i64 8)) m) fun x6 m=>bp (pur (bin .sub true true .int (.int .i64 7) x6) m) fun x7 m=>bp (pur (bin .shr false true .int x5 x7) m) fun x8 m=>bp (pur (bin .and true true .int x8 (.int .u8 1)) m) fun x9 m=>bp (pur (bin .eql true true .int x9 (.int .u8 1)) m) fun x10 m=>some (.tuple ⟨[x10,(.int .i64 0)]⟩,m))
def Qyk (G:Gt)(p1 p2:V)(m:M):R:=bp (pur (bin .lss true true .int p1 (.int .i64 0)) m) fun x11 m=>brb x11 (Qqg G (.bool true) p2 p1 m) (bp (pur (bin .geq true true .int p1 (.int .i64 104)) m) fun x12 m=>Qqg G x12 p2 p1 m)
def Qi2 (G:Gt)(p0 p1:V)(m:M):R:=bp (some (aNew Q1 (Value.cells p0).toList m)) fun x13 m=>Qyk G p1 x13 m
theorem Q1fg (G:Gt)(a0 a1:V)(m:M):ef G Tryz.f459 [a0,a1] m = Qi2 G a0 a1 m:=Xb (r:=fun r m=>Qi2 G (r 0) (r 1) m) rfl rfl (tr (seqQ (f:=fun r m=>Qyk G (r 1) (r 2) m) (tr (tr seqD (seqQ (f:=fun r m=>Qqg G (r 12) (r 2) (r 1) m)))))) m
def Qv1:En:=⟨Qua,Tryz.f459,Tryz.func459,by kernel_rfl,arg2 Qi2,X19 Q1fg⟩
end
end Go.Ab.Sh

set_option maxRecDepth 100000
namespace Go.Ab.Sh
open Go Go.Ab Go.Proofs
noncomputable section
def Qv6 (G:Gt)(p3 p2:V)(m:M):R:=bp (pur (X4 true 13 p3 m) m) fun x0 m=>bp (unt (X8 13 p2 x0 m)) fun _ m=>ob (ob (X4 true 13 p2 m) fun v=>ob (some []) fun l=>some (v :: l)) fun l=>some (X1p l,m)
def Qlq (G:Gt):Nat→V→V→V→V→M→R
 | 0,_,_,_,_,_=>none
 | i + 1,p32,p1,p3,p2,m=>bp (pur (bin .lss true true .int p32 (.int .i64 2)) m) fun x1 m=>brb x1 (bp (pur (bin .add true true .int (.int .i64 9) p32) m) fun x2 m=>bp (pur (bin .add true true .int (.int .i64 11) p32) m) fun x3 m=>bp (pur (X0 3 p1) m) fun x4 m=>bp (pur (X4 false 1 x4 m) m) fun x5 m=>bp (pur (bin .mul true true .int (.int .i64 8) p32) m) fun x6 m=>bp (pur (bin .sub true true .int (.int .i64 8) x6) m) fun x7 m=>bp (pur (bin .shr false true .int x5 x7) m) fun x8 m=>bp (conv (.int .u8) x8 m) fun x9 m=>bp (pur (X0 4 p1) m) fun x10 m=>bp (pur (X4 false 1 x10 m) m) fun x11 m=>bp (pur (bin .mul true true .int (.int .i64 8) p32) m) fun x12 m=>bp (pur (bin .sub true true .int (.int .i64 8) x12) m) fun x13 m=>bp (pur (bin .shr false true .int x11 x13) m) fun x14 m=>bp (conv (.int .u8) x14 m) fun x15 m=>bp (pur (Xr 13 1 p3 x2) m) fun x16 m=>bp (unt (X8 1 x16 x9 m)) fun _ m=>ckB (again (pur (X4 false 1 x10 m) m) x11 && true) (bp (pur (Xr 13 1 p3 x3) m) fun x17 m=>bp (unt (X8 1 x17 x15 m)) fun _ m=>bp (pur (bin .add true true .int p32 (.int .i64 1)) m) fun x18 m=>(Qlq G i) x18 p1 p3 p2 m)) (Qv6 G p3 p2 m)
def Qv7 (G:Gt)(p32 p1 p3 p2:V)(m:M):R:=Qlq G G.rds p32 p1 p3 p2 m
def Qv8 (G:Gt)(p1 p3 p2:V)(m:M):R:=Qv7 G (.int .i64 0) p1 p3 p2 m
def Qv9 (G:Gt)(p1 p3 p2:V)(m:M):R:=bp (pur (X0 2 p1) m) fun x19 m=>bp (pur (X4 false 1 x19 m) m) fun x20 m=>bp (pur (Xr 13 1 p3 (.int .i64 8)) m) fun x21 m=>bp (unt (X8 1 x21 x20 m)) fun _ m=>Qv8 G p1 p3 p2 m
def Qlr (G:Gt):Nat→V→V→V→V→M→R
 | 0,_,_,_,_,_=>none
 | i + 1,p6,p1,p3,p2,m=>bp (pur (bin .lss true true .int p6 (.int .i64 4)) m) fun x22 m=>brb x22 (bp (pur (bin .add true true .int (.int .i64 4) p6) m) fun x23 m=>bp (pur (X0 0 p1) m) fun x24 m=>bp (pur (X4 false 1 x24 m) m) fun x25 m=>bp (pur (bin .mul true true .int (.int .i64 8) p6) m) fun x26 m=>bp (pur (bin .sub true true .int (.int .i64 24) x26) m) fun x27 m=>bp (pur (bin .shr false true .int x25 x27) m) fun x28 m=>bp (conv (.int .u8) x28 m) fun x29 m=>bp (pur (X0 1 p1) m) fun x30 m=>bp (pur (X4 false 1 x30 m) m) fun x31 m=>bp (pur (bin .mul true true .int (.int .i64 8) p6) m) fun x32 m=>bp (pur (bin .sub true true .int (.int .i64 24) x32) m) fun x33 m=>bp (pur (bin .shr false true .int x31 x33) m) fun x34 m=>bp (conv (.int .u8) x34 m) fun x35 m=>bp (pur (Xr 13 1 p3 p6) m) fun x36 m=>bp (unt (X8 1 x36 x29 m)) fun _ m=>ckB (again (pur (X4 false 1 x30 m) m) x31 && true) (bp (pur (Xr 13 1 p3 x23) m) fun x37 m=>bp (unt (X8 1 x37 x35 m)) fun _ m=>bp (pur (bin .add true true .int p6 (.int .i64 1)) m) fun x38 m=>(Qlr G i) x38 p1 p3 p2 m)) (Qv9 G p1 p3 p2 m)
def Qva (G:Gt)(p6 p1 p3 p2:V)(m:M):R:=Qlr G G.rds p6 p1 p3 p2 m
def Qvb (G:Gt)(p1 p3 p2:V)(m:M):R:=Qva G (.int .i64 0) p1 p3 p2 m
def Qvc (G:Gt)(p1 p2:V)(m:M):R:=bp (some (aNew Qqv Qqy m)) fun x39 m=>Qvb G p1 x39 p2 m
def Qdi (G:Gt)(p0:V)(m:M):R:=bp (some (aNew Q1 (Value.cells p0).toList m)) fun x40 m=>bp (some (aNew Qqv Qqy m)) fun x41 m=>Qvc G x40 x41 m
theorem Q1as (G:Gt)(a0:V)(m:M):ef G Tryz.f460 [a0] m = Qdi G a0 m:=Xb (r:=fun r m=>Qdi G (r 0) m) rfl rfl (tr (seqQ (f:=fun r m=>Qvc G (r 1) (r 2) m) (tr (seqQ (f:=fun r m=>Qvb G (r 1) (r 3) (r 2) m) (tr (tr (seqQ (f:=fun r m=>Qv9 G (r 1) (r 3) (r 2) m) (tr (seqQ (f:=fun r m=>Qv8 G (r 1) (r 3) (r 2) m) (tr (tr (seqQ (f:=fun r m=>Qv6 G (r 3) (r 2) m)) (seqQ (f:=fun r m=>Qv7 G (r 32) (r 1) (r 3) (r 2) m) (tr (Xm (X1l (fun i r m=>Qlq G i (r 32) (r 1) (r 3) (r 2) m) (fun _ _=>rfl) (fun i0=>fun r m=>by kernel_rfl)))))))))) (seqQ (f:=fun r m=>Qva G (r 6) (r 1) (r 3) (r 2) m) (tr (Xm (X1l (fun i r m=>Qlr G i (r 6) (r 1) (r 3) (r 2) m) (fun _ _=>rfl) (fun i0=>fun r m=>by kernel_rfl))))))))))) m
def Qqf:En:=⟨Qii,Tryz.f460,Tryz.func460,by kernel_rfl,arg1 Qdi,X1v Q1as⟩
def Q1h5:En:=wE Q15z Tryz.f461 Tryz.func461 ⟨_,by go_invoke; rfl⟩
def Q1ks:En:=wE Q1k5 Tryz.f465 Tryz.func465 ⟨_,by go_invoke; rfl⟩
def Q15j:En:=wE Q151 Tryz.f466 Tryz.func466 ⟨_,by go_invoke; rfl⟩
def Q13r:En:=wE Q130 Tryz.f467 Tryz.func467 ⟨_,by go_invoke; rfl⟩
def Q11s:En:=wE Q117 Tryz.f468 Tryz.func468 ⟨_,by go_invoke; rfl⟩
def Qhl:En:=wE Qhi Tryz.f469 Tryz.func469 ⟨_,by go_invoke; rfl⟩
def Qsq:En:=wE Qrv Tryz.f472 Tryz.func472 ⟨_,by go_invoke; rfl⟩
def Qfv:En:=wE Qfo Tryz.f473 Tryz.func473 ⟨_,by go_invoke; rfl⟩
def Q1at:En:=wE Q1ae Tryz.f474 Tryz.func474 ⟨_,by go_invoke; rfl⟩
def Qfh:En:=wE Qes Tryz.f487 Tryz.func487 ⟨_,by go_invoke; rfl⟩
def Qe7:En:=wE Qe1 Tryz.f489 Tryz.func489 ⟨_,by go_invoke; rfl⟩
def Qbb:En:=wE Qb3 Tryz.f491 Tryz.func491 ⟨_,by go_invoke; rfl⟩
def Q9u:En:=wE Q98 Tryz.f493 Tryz.func493 ⟨_,by go_invoke; rfl⟩
def Qe8:En:=wE Qe2 Tryz.f495 Tryz.func495 ⟨_,by go_invoke; rfl⟩
def Qe9:En:=wE Qe3 Tryz.f499 Tryz.func499 ⟨_,by go_invoke; rfl⟩
def Qls:En:=wE Qlc Tryz.f513 Tryz.func513 ⟨_,by go_invoke; rfl⟩
def Qbc (G:Gt)(p9 p0 p1:V)(m:M):R:=brb p9 (some (.tuple ⟨[(.int .i64 0),(.int .i64 1)]⟩,m)) (bp (conv (.int .i32) p1 m) fun x0 m=>bp (G.tab Q2w [p0,x0,(.int .i32 0),(.int .i32 1)] m) fun x1 m=>bp (G.tab Q26 [p0,x1] m) fun x2 m=>bp (pur (X6 x2 0) m) fun x3 m=>bp (pur (X6 x2 1) m) fun x4 m=>some (.tuple ⟨[x3,x4]⟩,m))
def Qi9 (G:Gt)(p6 p1 p0:V)(m:M):R:=brb p6 (some (.tuple ⟨[(.int .i64 0),(.int .i64 2)]⟩,m)) (bp (pur (bin .lss true true .int p1 (.int .i64 0)) m) fun x5 m=>brb x5 (Qbc G (.bool true) p0 p1 m) (bp (pur (Xa p0) m) fun x6 m=>bp (pur (X0 0 x6) m) fun x7 m=>bp (pur (X4 false 1 x7 m) m) fun x8 m=>bp (pur (bin .geq false true .int p1 x8) m) fun x9 m=>Qbc G x9 p0 p1 m))
def Qia (G:Gt)(p0 p1:V)(m:M):R:=bp (pur (binP m .eql true true .ptr p0 (.pointer none)) m) fun x10 m=>Qi9 G x10 p1 p0 m
def Q1x (G:Gt)(p0 p1:V)(m:M):R:=Qia G p0 p1 m
theorem Q177 (G:Gt)(a0 a1:V)(m:M):ef G Tryz.f514 [a0,a1] m = Q1x G a0 a1 m:=Xb (r:=fun r m=>Q1x G (r 0) (r 1) m) rfl rfl (tr (seqQ (f:=fun r m=>Qia G (r 0) (r 1) m) (tr (tr seqD (Xm (seqQ (f:=fun r m=>Qi9 G (r 6) (r 1) (r 0) m) (tr (X5g (refQ) (seqQ (f:=fun r m=>Qbc G (r 9) (r 0) (r 1) m)))))))))) m
def Q90:En:=⟨Q1y,Tryz.f514,Tryz.func514,by kernel_rfl,arg2 Q1x,X19 Q177⟩
def Qnw (G:Gt)(p0:V)(m:M):R:=bp (pur (bin .mul true true .int (.int .i64 2) p0) m) fun x0 m=>bp (pur (bin .add true true .int x0 (.int .i64 1)) m) fun x1 m=>some (x1,m)
theorem Q1iy (G:Gt)(a0:V)(m:M):ef G Tryz.f515 [a0] m = Qnw G a0 m:=Xb (r:=fun r m=>Qnw G (r 0) m) rfl rfl (fun r m=>by kernel_rfl) m
def Q100:En:=⟨Qzg,Tryz.f515,Tryz.func515,by kernel_rfl,arg1 Qnw,X1v Q1iy⟩
def Q9l (G:Gt)(p0 p1 p2:V)(m:M):R:=bp (Xc Q7j [(.int .i64 0)] 1 2 [(0,p1),(1,p2)] m) fun x0 m=>bp (G.tab Q15 [p0,x0] m) fun x1 m=>bp (pur (bin .neq true true .int x1 (.int .i64 0)) m) fun x2 m=>brb x2 (some (.tuple ⟨[(.int .i64 0),x1]⟩,m)) (bp (conv (.int .i32) p1 m) fun x3 m=>bp (conv (.int .i32) p2 m) fun x4 m=>bp (G.tab Qr [p0,x4,(.int .i32 0),(.int .i32 1)] m) fun x5 m=>bp (conv (.int .i32) p2 m) fun x6 m=>bp (G.tab Qr [p0,x3,x5,x6] m) fun x7 m=>bp (G.tab Q26 [p0,x7] m) fun x8 m=>bp (pur (X6 x8 0) m) fun x9 m=>bp (pur (X6 x8 1) m) fun x10 m=>some (.tuple ⟨[x9,x10]⟩,m))
theorem Q178 (G:Gt)(a0 a1 a2:V)(m:M):ef G Tryz.f516 [a0,a1,a2] m = Q9l G a0 a1 a2 m:=Xb (r:=fun r m=>Q9l G (r 0) (r 1) (r 2) m) rfl rfl (fun r m=>by kernel_rfl) m
def Qll:En:=⟨Qld,Tryz.f516,Tryz.func516,by kernel_rfl,arg3 Q9l,X2n Q178⟩
def Q4n (G:Gt)(p0 p1:V)(m:M):R:=bp (G.tab Q19 [p0,p1,(.int .i64 0),(.int .i64 1)] m) fun x0 m=>bp (pur (X6 x0 0) m) fun x1 m=>bp (pur (X6 x0 1) m) fun x2 m=>some (.tuple ⟨[x1,x2]⟩,m)
theorem Q179 (G:Gt)(a0 a1:V)(m:M):ef G Tryz.f517 [a0,a1] m = Q4n G a0 a1 m:=Xb (r:=fun r m=>Q4n G (r 0) (r 1) m) rfl rfl (fun r m=>by kernel_rfl) m
def Q9k:En:=⟨Q6f,Tryz.f517,Tryz.func517,by kernel_rfl,arg2 Q4n,X19 Q179⟩
def Q3u (G:Gt)(p1 p0 p2:V)(m:M):R:=bp (pur (Xa p0) m) fun x0 m=>bp (pur (X0 3 x0) m) fun x1 m=>bp (pur (X4 false 1 x1 m) m) fun x2 m=>bp (pur (bin .eql false true .int p1 x2) m) fun x3 m=>brb x3 (some (p2,m)) (bp (pur (Xa p0) m) fun x4 m=>bp (pur (X0 0 x4) m) fun x5 m=>bp (pur (X4 false 1 x5 m) m) fun x6 m=>bp (G.tab Qy6 [x6,p1,p2] m) fun x7 m=>bp (pur (X6 x7 0) m) fun x8 m=>bp (pur (X6 x7 1) m) fun x9 m=>bp (G.tab Q10 [p0,x8,x9] m) fun x10 m=>some (x10,m))
theorem Qx8 (G:Gt)(a0 a1 a2:V)(m:M):ef G Tryz.f519 [a0,a1,a2] m = Q3u G a1 a0 a2 m:=Xb (r:=fun r m=>Q3u G (r 1) (r 0) (r 2) m) rfl rfl (fun r m=>by kernel_rfl) m
def Qc1:En:=⟨Q6t,Tryz.f519,Tryz.func519,by kernel_rfl,arg3 (fun G a0 a1 a2 m=>Q3u G a1 a0 a2 m),X2n Qx8⟩
def Q1da:En:=wE Q1cd Tryz.f520 Tryz.func520 ⟨_,by go_invoke; rfl⟩
def Qjn:En:=wE Qj8 Tryz.f521 Tryz.func521 ⟨_,by go_invoke; rfl⟩
def Qph (G:Gt)(p12:V)(m:M):R:=some (.tuple ⟨[p12,(.int .i64 0)]⟩,m)
def Qgw (G:Gt)(k0:J7)(p0 p14 p12 p13 p4 p1 p3 p2:V)(m:M):R:=bp (pur (Xa p0) m) fun x0 m=>bp (pur (X0 0 x0) m) fun x1 m=>bp (pur (X4 false 1 x1 m) m) fun x2 m=>bp (G.tab Q6e [x2,p14,p12] m) fun x3 m=>bp (pur (X6 x3 0) m) fun x4 m=>bp (pur (X6 x3 1) m) fun x5 m=>bp (pur (bin .neq true true .int x5 (.int .i64 0)) m) fun x6 m=>brb x6 (some (.tuple ⟨[(.int .i64 0),x5]⟩,m)) (bp (pur (bin .sub true true .int p13 (.int .i64 1)) m) fun x7 m=>k0 x7 p0 p4 p1 p3 p2 x4 m)
def Qpi (G:Gt)(k0:J7)(p3 p2 p13 p0 p14 p12 p4 p1:V)(m:M):R:=bp (pur (bin .sub true true .int p2 (.int .i64 1)) m) fun x8 m=>bp (pur (bin .sub false true .int x8 p13) m) fun x9 m=>bp (pur (bin .shr false true .int p3 x9) m) fun x10 m=>bp (pur (bin .and true true .int x10 (.int .u64 1)) m) fun x11 m=>bp (pur (bin .eql true true .int x11 (.int .u64 0)) m) fun x12 m=>brb x12 (bp (pur (Xa p0) m) fun x13 m=>bp (pur (X0 0 x13) m) fun x14 m=>bp (pur (X4 false 1 x14 m) m) fun x15 m=>bp (G.tab Q6f [x15,p14] m) fun x16 m=>bp (pur (X6 x16 0) m) fun x17 m=>bp (pur (X6 x16 1) m) fun x18 m=>bp (pur (bin .neq true true .int x18 (.int .i64 0)) m) fun x19 m=>brb x19 (some (.tuple ⟨[(.int .i64 0),x18]⟩,m)) (Qgw G k0 p0 x17 p12 p13 p4 p1 p3 p2 m)) (Qgw G k0 p0 p14 p12 p13 p4 p1 p3 p2 m)
def Qpj (G:Gt)(k0:J7)(p15 p3 p2 p13 p0 p14 p12 p4 p1:V)(m:M):R:=bp (pur (bin .neq true true .int p15 (.int .i64 0)) m) fun x20 m=>brb x20 (some (.tuple ⟨[(.int .i64 0),p15]⟩,m)) (Qpi G k0 p3 p2 p13 p0 p14 p12 p4 p1 m)
def Qpk (G:Gt)(k0:J7)(p0 p4 p1 p13 p3 p2 p12:V)(m:M):R:=bp (pur (Xa p0) m) fun x21 m=>bp (pur (X0 0 x21) m) fun x22 m=>bp (pur (X4 false 1 x22 m) m) fun x23 m=>bp (pur (bin .add false true .int p1 p13) m) fun x24 m=>bp (Xi G.tab p4 [x24] m) fun x25 m=>ckB (again (pur (X4 false 1 x22 m) m) x23 && true) (bp (G.tab Q1y [x23,x25] m) fun x26 m=>bp (pur (X6 x26 0) m) fun x27 m=>bp (pur (X6 x26 1) m) fun x28 m=>Qpj G k0 x28 p3 p2 p13 p0 x27 p12 p4 p1 m)
def Q2u (G:Gt):Nat→V→V→V→V→V→V→V→M→R
 | 0,_,_,_,_,_,_,_,_=>none
 | i + 1,p13,p0,p4,p1,p3,p2,p12,m=>bp (pur (bin .geq true true .int p13 (.int .i64 0)) m) fun x29 m=>brb x29 (Qpk G (Q2u G i) p0 p4 p1 p13 p3 p2 p12 m) (Qph G p12 m)
def Qpl (G:Gt)(p13 p0 p4 p1 p3 p2 p12:V)(m:M):R:=Q2u G G.rds p13 p0 p4 p1 p3 p2 p12 m
def Qpm (G:Gt)(p2 p0 p4 p1 p3 p12:V)(m:M):R:=bp (pur (bin .sub true true .int p2 (.int .i64 1)) m) fun x30 m=>Qpl G x30 p0 p4 p1 p3 p2 p12 m
def Qpn (G:Gt)(p2 p0 p4 p1 p3:V)(m:M):R:=Qpm G p2 p0 p4 p1 p3 (.int .i64 1) m
def Q84 (G:Gt)(p2 p0 p4 p1 p3:V)(m:M):R:=Qpn G p2 p0 p4 p1 p3 m
theorem Q15k (G:Gt)(a0 a1 a2 a3 a4:V)(m:M):ef G Tryz.f522 [a0,a1,a2,a3,a4] m = Q84 G a2 a0 a4 a1 a3 m:=Xb (r:=fun r m=>Q84 G (r 2) (r 0) (r 4) (r 1) (r 3) m) rfl rfl (tr (seqQ (f:=fun r m=>Qpn G (r 2) (r 0) (r 4) (r 1) (r 3) m) (tr (seqQ (f:=fun r m=>Qpm G (r 2) (r 0) (r 4) (r 1) (r 3) (r 12) m) (tr (tr (seqQ (f:=fun r m=>Qph G (r 12) m)) (seqQ (f:=fun r m=>Qpl G (r 13) (r 0) (r 4) (r 1) (r 3) (r 2) (r 12) m) (tr (Xm (X1l (fun i r m=>Q2u G i (r 13) (r 0) (r 4) (r 1) (r 3) (r 2) (r 12) m) (fun _ _=>rfl) (fun i0=>tr (seqQ (f:=fun r m=>Qpk G (Q2u G i0) (r 0) (r 4) (r 1) (r 13) (r 3) (r 2) (r 12) m) (tr (tr seqD (Xm (seqQ (f:=fun r m=>Qpj G (Q2u G i0) (r 15) (r 3) (r 2) (r 13) (r 0) (r 14) (r 12) (r 4) (r 1) m) (tr (seqQ (f:=fun r m=>Qpi G (Q2u G i0) (r 3) (r 2) (r 13) (r 0) (r 14) (r 12) (r 4) (r 1) m) (tr (seqQ (f:=fun r m=>Qgw G (Q2u G i0) (r 0) (r 14) (r 12) (r 13) (r 4) (r 1) (r 3) (r 2) m))))))))))))))))))))) m
def Qji:En:=⟨Qj9,Tryz.f522,Tryz.func522,by kernel_rfl,arg5 (fun G a0 a1 a2 a3 a4 m=>Q84 G a2 a0 a4 a1 a3 m),Xdn Q15k⟩
def Q1h6:En:=wE Q160 Tryz.f523 Tryz.func523 ⟨_,by go_invoke; rfl⟩
def Q11t:En:=wE Qp7 Tryz.f524 Tryz.func524 ⟨_,by go_invoke; rfl⟩
def Qw1:En:=wE Qvv Tryz.f525 Tryz.func525 ⟨_,by go_invoke; rfl⟩
def Qib:En:=wE Qht Tryz.f526 Tryz.func526 ⟨_,by go_invoke; rfl⟩
end
end Go.Ab.Sh

set_option maxRecDepth 100000
namespace Go.Ab.Sh
open Go Go.Ab Go.Proofs
noncomputable section
def Qfw (G:Gt)(p16 p17:V)(m:M):R:=bp (pur (Xa p16) m) fun x0 m=>bp (pur (X0 4 x0) m) fun x1 m=>bp (pur (X4 false 1 x1 m) m) fun x2 m=>bp (pur (bin .neq true true .int x2 (.int .i64 0)) m) fun x3 m=>brb x3 (some (.tuple ⟨[(.int .i64 0),(.int .i64 3)]⟩,m)) (some (.tuple ⟨[p17,(.int .i64 0)]⟩,m))
def Q7x (G:Gt):Nat→V→V→V→V→V→V→V→V→M→R
 | 0,_,_,_,_,_,_,_,_,_=>none
 | i + 1,p66,p65,p64,p16,p0,p17,p4,p3,m=>bp (pur (bin .lss false true .int p66 p65) m) fun x4 m=>brb x4 (bp (pur (X5 5 p64 p66) m) fun x5 m=>bp (pur (X4 true 5 x5 m) m) fun x6 m=>bp (some (aNew Qpy Q1ao m)) fun x7 m=>bp (unt (X8 5 x7 x6 m)) fun _ m=>bp (pur (Xa p0) m) fun x8 m=>bp (pur (X0 0 x8) m) fun x9 m=>bp (pur (X4 false 1 x9 m) m) fun x10 m=>bp (pur (X4 true 5 x7 m) m) fun x11 m=>bp (Xi G.tab p4 [p16,x11,p3] m) fun x12 m=>ckB (again (pur (X4 false 1 x9 m) m) x10 && true) (bp (G.tab Q56 [x10,p17,x12] m) fun x13 m=>bp (pur (X6 x13 0) m) fun x14 m=>bp (pur (X6 x13 1) m) fun x15 m=>bp (G.tab Q10 [p16,x14,x15] m) fun x16 m=>bp (pur (bin .add true true .int p66 (.int .i64 1)) m) fun x17 m=>(Q7x G i) x17 p65 p64 p16 p0 x16 p4 p3 m)) (Qfw G p16 p17 m)
def Qfx (G:Gt)(p66 p65 p64 p16 p0 p17 p4 p3:V)(m:M):R:=Q7x G G.rds p66 p65 p64 p16 p0 p17 p4 p3 m
def Qfy (G:Gt)(p12 p2 p16 p0 p17 p4 p3:V)(m:M):R:=bp (pur (X0 8 p12) m) fun x18 m=>bp (pur (X4 false 1 x18 m) m) fun x19 m=>bp (pur (X5 3 x19 p2) m) fun x20 m=>bp (pur (X0 2 x20) m) fun x21 m=>bp (pur (X4 false 1 x21 m) m) fun x22 m=>bp (pur (lenK 1 x22 m) m) fun x23 m=>Qfx G (.int .i64 0) x23 x22 p16 p0 p17 p4 p3 m
def Qfz (G:Gt)(p12 p2 p16 p0 p4 p3:V)(m:M):R:=Qfy G p12 p2 p16 p0 (.int .i64 0) p4 p3 m
def Qg0 (G:Gt)(p0 p12 p2 p4 p3:V)(m:M):R:=bp (pur (Xa p0) m) fun x24 m=>bp (pur (X0 0 x24) m) fun x25 m=>bp (pur (X4 false 1 x25 m) m) fun x26 m=>bp (pur (Xa p0) m) fun x27 m=>bp (pur (X0 1 x27) m) fun x28 m=>bp (pur (X4 false 1 x28 m) m) fun x29 m=>bp (pur (X18 Q171 [(0,1),(1,1),(2,1),(3,1),(4,1)] [(0,x26),(3,x29)]) m) fun x30 m=>bp (some (aNew Q16x (Value.cells x30).toList m)) fun x31 m=>Qfz G p12 p2 x31 p0 p4 p3 m
def Qg1 (G:Gt)(p0 p3 p12 p2 p4:V)(m:M):R:=bp (pur (Xa p0) m) fun x32 m=>bp (pur (X0 0 x32) m) fun x33 m=>bp (pur (X4 false 1 x33 m) m) fun x34 m=>bp (G.tab Q6c [x34,p3,(.int .i64 0)] m) fun x35 m=>bp (pur (X6 x35 0) m) fun x36 m=>bp (pur (X6 x35 1) m) fun x37 m=>bp (pur (bin .neq true true .int x37 (.int .i64 0)) m) fun x38 m=>brb x38 (some (.tuple ⟨[(.int .i64 0),(.int .i64 1)]⟩,m)) (Qg0 G p0 p12 p2 p4 p3 m)
def Q7b (G:Gt)(p37 p0 p3 p12 p2 p4:V)(m:M):R:=brb p37 (some (.tuple ⟨[(.int .i64 0),(.int .i64 1)]⟩,m)) (Qg1 G p0 p3 p12 p2 p4 m)
def Qg2 (G:Gt)(p2 p12 p0 p3 p4:V)(m:M):R:=bp (pur (bin .lss true true .int p2 (.int .i64 0)) m) fun x39 m=>brb x39 (Q7b G (.bool true) p0 p3 p12 p2 p4 m) (bp (pur (X0 8 p12) m) fun x40 m=>bp (pur (X4 false 1 x40 m) m) fun x41 m=>bp (pur (lenK 1 x41 m) m) fun x42 m=>bp (pur (bin .geq false true .int p2 x42) m) fun x43 m=>Q7b G x43 p0 p3 p12 p2 p4 m)
def Qg3 (G:Gt)(p13 p2 p12 p0 p3 p4:V)(m:M):R:=bp (pur (bin .neq true true .int p13 (.int .i64 0)) m) fun x44 m=>brb x44 (some (.tuple ⟨[(.int .i64 0),p13]⟩,m)) (Qg2 G p2 p12 p0 p3 p4 m)
def Qg4 (G:Gt)(p0 p6 p2 p3 p4:V)(m:M):R:=bp (pur (X4 true 2 p6 m) m) fun x45 m=>bp (G.tab Q62 [p0,x45] m) fun x46 m=>bp (pur (X6 x46 0) m) fun x47 m=>bp (pur (X6 x46 1) m) fun x48 m=>bp (some (aNew Qfq Q7o m)) fun x49 m=>bp (unt (X8 9 x49 x47 m)) fun _ m=>Qg3 G x48 p2 x49 p0 p3 p4 m
def Q37 (G:Gt)(p1 p0 p2 p3 p4:V)(m:M):R:=bp (some (aNew Q11 (Value.cells p1).toList m)) fun x50 m=>Qg4 G p0 x50 p2 p3 p4 m
theorem Qvd (G:Gt)(a0 a1 a2 a3 a4:V)(m:M):ef G Tryz.f527 [a0,a1,a2,a3,a4] m = Q37 G a1 a0 a2 a3 a4 m:=Xb (r:=fun r m=>Q37 G (r 1) (r 0) (r 2) (r 3) (r 4) m) rfl rfl (tr (seqQ (f:=fun r m=>Qg4 G (r 0) (r 6) (r 2) (r 3) (r 4) m) (tr (seqQ (f:=fun r m=>Qg3 G (r 13) (r 2) (r 12) (r 0) (r 3) (r 4) m) (tr (seqQ (f:=fun r m=>Qg2 G (r 2) (r 12) (r 0) (r 3) (r 4) m) (tr (tr (seqQ (f:=fun r m=>Qg1 G (r 0) (r 3) (r 12) (r 2) (r 4) m) (tr (seqQ (f:=fun r m=>Qg0 G (r 0) (r 12) (r 2) (r 4) (r 3) m) (tr (seqQ (f:=fun r m=>Qfz G (r 12) (r 2) (r 16) (r 0) (r 4) (r 3) m) (tr (seqQ (f:=fun r m=>Qfy G (r 12) (r 2) (r 16) (r 0) (r 17) (r 4) (r 3) m) (tr (tr (seqQ (f:=fun r m=>Qfw G (r 16) (r 17) m)) (seqQ (f:=fun r m=>Qfx G (r 66) (r 65) (r 64) (r 16) (r 0) (r 17) (r 4) (r 3) m) (tr (Xm (X1l (fun i r m=>Q7x G i (r 66) (r 65) (r 64) (r 16) (r 0) (r 17) (r 4) (r 3) m) (fun _ _=>rfl) (fun i0=>fun r m=>by kernel_rfl)))))))))))))) (seqQ (f:=fun r m=>Q7b G (r 37) (r 0) (r 3) (r 12) (r 2) (r 4) m)))))))))) m
def Q9p:En:=⟨Q99,Tryz.f527,Tryz.func527,by kernel_rfl,arg5 (fun G a0 a1 a2 a3 a4 m=>Q37 G a1 a0 a2 a3 a4 m),Xdn Qvd⟩
def Q190:En:=wE Q189 Tryz.f528 Tryz.func528 ⟨_,by go_invoke; rfl⟩
def Q191:En:=wE Q18a Tryz.f529 Tryz.func529 ⟨_,by go_invoke; rfl⟩
def Q192:En:=wE Q18b Tryz.f530 Tryz.func530 ⟨_,by go_invoke; rfl⟩
def Q104:En:=wE Qzh Tryz.f531 Tryz.func531 ⟨_,by go_invoke; rfl⟩
def Q193:En:=wE Q18c Tryz.f532 Tryz.func532 ⟨_,by go_invoke; rfl⟩
def Q194:En:=wE Q18d Tryz.f533 Tryz.func533 ⟨_,by go_invoke; rfl⟩
def Qgx (G:Gt)(p2 p1:V)(m:M):R:=bp (pur (X4 false 1 p2 m) m) fun x0 m=>bp (pur (Xa x0) m) fun x1 m=>bp (pur (X0 5 x1) m) fun x2 m=>bp (pur (X4 false 1 x2 m) m) fun x3 m=>bp (conv (.int .i64) p1 m) fun x4 m=>bp (unt (Xn .int x3 x4 (.bool true) m)) fun _ m=>bp (conv (.int .i64) p1 m) fun x5 m=>some (.tuple ⟨[x5,(.int .i64 0)]⟩,m)
def Q3m (G:Gt):Nat→V→V→V→V→V→M→R
 | 0,_,_,_,_,_,_=>none
 | i + 1,p32,p31,p30,p2,p1,m=>bp (pur (bin .lss false true .int p32 p31) m) fun x6 m=>brb x6 (bp (pur (X5 1 p30 p32) m) fun x7 m=>bp (pur (X4 false 1 x7 m) m) fun x8 m=>bp (pur (X4 false 1 p2 m) m) fun x9 m=>bp (pur (Xa x9) m) fun x10 m=>bp (pur (X0 6 x10) m) fun x11 m=>bp (pur (X4 false 1 x11 m) m) fun x12 m=>bp (unt (Xn .int x12 x8 (.bool true) m)) fun _ m=>bp (pur (bin .add true true .int p32 (.int .i64 1)) m) fun x13 m=>(Q3m G i) x13 p31 p30 p2 p1 m) (Qgx G p2 p1 m)
def Qgy (G:Gt)(p32 p31 p30 p2 p1:V)(m:M):R:=Q3m G G.rds p32 p31 p30 p2 p1 m
def Qgz (G:Gt)(p6 p2 p1:V)(m:M):R:=bp (pur (X4 false 1 p6 m) m) fun x14 m=>bp (pur (lenK 1 x14 m) m) fun x15 m=>Qgy G (.int .i64 0) x15 x14 p2 p1 m
def Qh0 (G:Gt)(p2 p6 p1:V)(m:M):R:=bp (pur (X4 false 1 p2 m) m) fun x16 m=>bp (pur (Xa x16) m) fun x17 m=>bp (pur (X0 6 x17) m) fun x18 m=>bp (pur (X4 false 1 x18 m) m) fun x19 m=>bp (pur (lenK 2 x19 m) m) fun x20 m=>bp (pur (X4 false 1 p6 m) m) fun x21 m=>bp (pur (lenK 1 x21 m) m) fun x22 m=>bp (pur (bin .add false true .int x20 x22) m) fun x23 m=>bp (pur (X4 false 1 p2 m) m) fun x24 m=>bp (pur (Xa x24) m) fun x25 m=>bp (pur (X0 1 x25) m) fun x26 m=>bp (pur (X4 false 1 x26 m) m) fun x27 m=>bp (pur (bin .gtr false true .int x23 x27) m) fun x28 m=>brb x28 (some (.tuple ⟨[(.int .i64 0),(.int .i64 3)]⟩,m)) (Qgz G p6 p2 p1 m)
def Qh1 (G:Gt)(p8 p1 p2 p6:V)(m:M):R:=bp (pur (X4 false 1 p8 m) m) fun x29 m=>bp (Xi G.tab x29 [p1] m) fun x30 m=>Qh0 G p2 p6 p1 m
def Qh2 (G:Gt)(p7 p2 p6 p8 p1:V)(m:M):R:=bp (unt (X8 1 p8 (.func (.func Qo) ⟨[]⟩ ⟨[p7,p2,p6,p8]⟩) m)) fun _ m=>Qh1 G p8 p1 p2 p6 m
def Qh3 (G:Gt)(p7 p2 p6 p1:V)(m:M):R:=bp (some (aNew Qqw [.nilFunc] m)) fun x31 m=>Qh2 G p7 p2 p6 x31 p1 m
def Qac (G:Gt)(p2 p6 p1:V)(m:M):R:=bp (some (X4j m)) fun x32 m=>bp (unt (Xn .int x32 (.int .i32 0) (.bool true) m)) fun _ m=>bp (unt (Xn .int x32 (.int .i32 1) (.bool true) m)) fun _ m=>bp (some (aNew Qev [(.map none)] m)) fun x33 m=>bp (unt (X8 1 x33 x32 m)) fun _ m=>Qh3 G x33 p2 p6 p1 m
def Q6a (G:Gt)(p2 p1:V)(m:M):R:=bp (some (aNew Qlx [(.slice none 0 0)] m)) fun x34 m=>Qac G p2 x34 p1 m
def Q1a (G:Gt)(p0 p1:V)(m:M):R:=bp (some (aNew Q1q (Value.cells p0).toList m)) fun x35 m=>Q6a G x35 p1 m
theorem Q15l (G:Gt)(a0 a1:V)(m:M):ef G Tryz.f534 [a0,a1] m = Q1a G a0 a1 m:=Xb (r:=fun r m=>Q1a G (r 0) (r 1) m) rfl rfl (tr (seqQ (f:=fun r m=>Q6a G (r 2) (r 1) m) (tr (seqQ (f:=fun r m=>Qac G (r 2) (r 6) (r 1) m) (tr (seqQ (f:=fun r m=>Qh3 G (r 7) (r 2) (r 6) (r 1) m) (tr (seqQ (f:=fun r m=>Qh2 G (r 7) (r 2) (r 6) (r 8) (r 1) m) (tr (seqQ (f:=fun r m=>Qh1 G (r 8) (r 1) (r 2) (r 6) m) (tr (seqQ (f:=fun r m=>Qh0 G (r 2) (r 6) (r 1) m) (tr (seqQ (f:=fun r m=>Qgz G (r 6) (r 2) (r 1) m) (tr (tr (seqQ (f:=fun r m=>Qgx G (r 2) (r 1) m)) (seqQ (f:=fun r m=>Qgy G (r 32) (r 31) (r 30) (r 2) (r 1) m) (tr (Xm (X1l (fun i r m=>Q3m G i (r 32) (r 31) (r 30) (r 2) (r 1) m) (fun _ _=>rfl) (fun i0=>fun r m=>by kernel_rfl))))))))))))))))))))) m
def Q80:En:=⟨Q26,Tryz.f534,Tryz.func534,by kernel_rfl,arg2 Q1a,X19 Q15l⟩
def Q1s (G:Gt)(p29 p5 p6 p7 p4:V)(m:M):R:=brb p29 (bp (pur (X4 false 1 p5 m) m) fun x2 m=>some (x2,m)) (bp (pur (X4 false 1 p5 m) m) fun x3 m=>bp (pur (X4 false 1 p6 m) m) fun x4 m=>bp (pur (X4 false 1 p7 m) m) fun x5 m=>bp (pur (X6a Qne 1 [(0,x3),(1,x4),(2,x5)]) m) fun x6 m=>bp (some (aNew Qew Qne m)) fun x7 m=>bp (unt (X8 3 x7 x6 m)) fun _ m=>bp (pur (X4 false 1 p4 m) m) fun x8 m=>bp (pur (Xa x8) m) fun x9 m=>bp (pur (X0 4 x9) m) fun x10 m=>bp (pur (X4 false 1 x10 m) m) fun x11 m=>bp (pur (X4 true 3 x7 m) m) fun x12 m=>bp (pur (X1j (.struct [(0,1,false,.int),(1,1,false,.int),(2,1,false,.int)]) (.int .i32 0) true x11 x12 m) m) fun x13 m=>bp (pur (X6 x13 0) m) fun x14 m=>bp (pur (X6 x13 1) m) fun x15 m=>brb x15 (some (x14,m)) (bp (pur (X4 false 1 p4 m) m) fun x16 m=>bp (pur (Xa x16) m) fun x17 m=>bp (pur (X0 2 x17) m) fun x18 m=>bp (pur (X4 false 1 x18 m) m) fun x19 m=>bp (pur (X4 false 1 p5 m) m) fun x20 m=>bp (pur (X5 3 x19 x20) m) fun x21 m=>bp (pur (X0 0 x21) m) fun x22 m=>bp (pur (X4 false 1 x22 m) m) fun x23 m=>bp (pur (X4 false 1 p4 m) m) fun x24 m=>bp (pur (Xa x24) m) fun x25 m=>bp (pur (X0 2 x25) m) fun x26 m=>bp (pur (X4 false 1 x26 m) m) fun x27 m=>bp (pur (X4 false 1 p6 m) m) fun x28 m=>bp (pur (X5 3 x27 x28) m) fun x29 m=>bp (pur (X0 0 x29) m) fun x30 m=>bp (pur (X4 false 1 x30 m) m) fun x31 m=>bp (pur (X4 false 1 p4 m) m) fun x32 m=>bp (pur (Xa x32) m) fun x33 m=>bp (pur (X0 2 x33) m) fun x34 m=>bp (pur (X4 false 1 x34 m) m) fun x35 m=>bp (pur (X4 false 1 p7 m) m) fun x36 m=>bp (pur (X5 3 x35 x36) m) fun x37 m=>bp (pur (X0 0 x37) m) fun x38 m=>bp (pur (X4 false 1 x38 m) m) fun x39 m=>bp (pur (Xrv x23 x31 x39) m) fun x40 m=>bp (some (aNew Q1m [(.int .i32 0)] m)) fun x41 m=>bp (unt (X8 1 x41 x40 m)) fun _ m=>let x42:V:=(.func (.func Q2f) ⟨[]⟩ ⟨[p4,p5,x41,p6,p7]⟩);bp (Xi G.tab x42 [(.bool false)] m) fun x43 m=>bp (pur (X4 false 1 p4 m) m) fun x44 m=>bp (pur (X4 false 1 x41 m) m) fun x45 m=>bp (Xi G.tab x42 [(.bool true)] m) fun x46 m=>ckB (again (pur (X4 false 1 p4 m) m) x44 && (again (pur (X4 false 1 x41 m) m) x45 && true)) (bp (G.tab Q2w [x44,x45,x43,x46] m) fun x47 m=>bp (pur (X4 false 1 p4 m) m) fun x48 m=>bp (pur (Xa x48) m) fun x49 m=>bp (pur (X0 4 x49) m) fun x50 m=>bp (pur (X4 false 1 x50 m) m) fun x51 m=>bp (pur (X4 true 3 x7 m) m) fun x52 m=>bp (unt (Xn (.struct [(0,1,false,.int),(1,1,false,.int),(2,1,false,.int)]) x51 x52 x47 m)) fun _ m=>some (x47,m))))
def Q7c (G:Gt)(p25 p7 p6 p5 p4:V)(m:M):R:=brb p25 (bp (pur (X4 false 1 p7 m) m) fun x1 m=>some (x1,m)) (bp (pur (X4 false 1 p6 m) m) fun x53 m=>bp (pur (bin .eql true true .int x53 (.int .i32 1)) m) fun x54 m=>brb x54 (bp (pur (X4 false 1 p7 m) m) fun x55 m=>bp (pur (bin .eql true true .int x55 (.int .i32 0)) m) fun x56 m=>Q1s G x56 p5 p6 p7 p4 m) (Q1s G (.bool false) p5 p6 p7 p4 m))
def Q3a (G:Gt)(p16 p6 p5 p7 p4:V)(m:M):R:=brb p16 (bp (pur (X4 false 1 p6 m) m) fun x0 m=>some (x0,m)) (bp (pur (X4 false 1 p5 m) m) fun x57 m=>bp (pur (bin .eql true true .int x57 (.int .i32 0)) m) fun x58 m=>Q7c G x58 p7 p6 p5 p4 m)
def Q2k (G:Gt)(p5 p6 p7 p4:V)(m:M):R:=bp (pur (X4 false 1 p5 m) m) fun x59 m=>bp (pur (bin .eql true true .int x59 (.int .i32 1)) m) fun x60 m=>brb x60 (Q3a G (.bool true) p6 p5 p7 p4 m) (bp (pur (X4 false 1 p6 m) m) fun x61 m=>bp (pur (X4 false 1 p7 m) m) fun x62 m=>bp (pur (bin .eql false true .int x61 x62) m) fun x63 m=>Q3a G x63 p6 p5 p7 p4 m)
def Qm (G:Gt)(p0 p1 p2 p3:V)(m:M):R:=bp (some (aNew Q1q (Value.cells p0).toList m)) fun x64 m=>bp (some (aNew Q1m (Value.cells p1).toList m)) fun x65 m=>bp (some (aNew Q1m (Value.cells p2).toList m)) fun x66 m=>bp (some (aNew Q1m (Value.cells p3).toList m)) fun x67 m=>Q2k G x65 x66 x67 x64 m
theorem Q17a (G:Gt)(a0 a1 a2 a3:V)(m:M):ef G Tryz.f535 [a0,a1,a2,a3] m = Qm G a0 a1 a2 a3 m:=Xb (r:=fun r m=>Qm G (r 0) (r 1) (r 2) (r 3) m) rfl rfl (tr (seqQ (f:=fun r m=>Q2k G (r 5) (r 6) (r 7) (r 4) m) (tr (tr seqD (Xm (seqQ (f:=fun r m=>Q3a G (r 16) (r 6) (r 5) (r 7) (r 4) m) (tr (X5g (refQ) (seqQ (f:=fun r m=>Q7c G (r 25) (r 7) (r 6) (r 5) (r 4) m) (tr (X5g (refQ) (seqQ (f:=fun r m=>Q1s G (r 29) (r 5) (r 6) (r 7) (r 4) m))))))))))))) m
def Q8x:En:=⟨Qr,Tryz.f535,Tryz.func535,by kernel_rfl,arg4 Qm,X3u Q17a⟩
def Q73 (G:Gt)(p0 p2 p1:V)(m:M):R:=bp (some (aNew Q1q (Value.cells p0).toList m)) fun x0 m=>bp (some (aNew Qqw (Value.cells p2).toList m)) fun x1 m=>bp (some (X4j m)) fun x2 m=>bp (unt (Xn .int x2 (.int .i32 0) (.bool true) m)) fun _ m=>bp (unt (Xn .int x2 (.int .i32 1) (.bool true) m)) fun _ m=>bp (some (aNew Qev [(.map none)] m)) fun x3 m=>bp (unt (X8 1 x3 x2 m)) fun _ m=>bp (some (aNew Qqw [.nilFunc] m)) fun x4 m=>let x5:V:=(.func (.func Qeu) ⟨[]⟩ ⟨[x3,x1,x4,x0]⟩);bp (unt (X8 1 x4 x5 m)) fun _ m=>bp (pur (X4 false 1 x4 m) m) fun x6 m=>bp (Xi G.tab x6 [p1] m) fun x7 m=>some (.tuple ⟨[]⟩,m)
theorem Q13s (G:Gt)(a0 a1 a2:V)(m:M):ef G Tryz.f536 [a0,a1,a2] m = Q73 G a0 a2 a1 m:=Xb (r:=fun r m=>Q73 G (r 0) (r 2) (r 1) m) rfl rfl (fun r m=>by kernel_rfl) m
def Qhy:En:=⟨Qhu,Tryz.f536,Tryz.func536,by kernel_rfl,arg3 (fun G a0 a1 a2 m=>Q73 G a0 a2 a1 m),X2n Q13s⟩
def Q3q (G:Gt)(p1 p2 p0:V)(m:M):R:=bp (pur (X4 false 1 p1 m) m) fun x0 m=>bp (pur (X4 false 1 p2 m) m) fun x1 m=>bp (pur (Xa x1) m) fun x2 m=>bp (pur (X0 2 x2) m) fun x3 m=>bp (pur (X4 false 1 x3 m) m) fun x4 m=>bp (pur (X5 3 x4 p0) m) fun x5 m=>bp (pur (X0 0 x5) m) fun x6 m=>bp (pur (X4 false 1 x6 m) m) fun x7 m=>bp (conv (.int .i64) x7 m) fun x8 m=>bp (Xc Q7j [(.int .i64 0)] 1 1 [(0,x8)] m) fun x9 m=>bp (apS Q7j 1 8 x0 x9 m) fun x10 m=>bp (unt (X8 1 p1 x10 m)) fun _ m=>some (.tuple ⟨[]⟩,m)
theorem Qx9 (G:Gt)(a0 a1 a2:V)(m:M):ef G Tryz.f538 [a0,a1,a2] m = Q3q G a1 a2 a0 m:=Xb (r:=fun r m=>Q3q G (r 1) (r 2) (r 0) m) rfl rfl (fun r m=>by kernel_rfl) m
def Qbx:En:=⟨Qbm,Tryz.f538,Tryz.func538,by kernel_rfl,arg3 (fun G a0 a1 a2 m=>Q3q G a1 a2 a0 m),X2n Qx9⟩
def Q39 (G:Gt)(p0:V)(m:M):R:=bp (pur (lenK 1 p0 m) m) fun x0 m=>bp (conv (.int .u64) x0 m) fun x1 m=>bp (G.tab Qn6 [x1] m) fun x2 m=>bp (G.tab Q27 [p0,(.int .i64 0),x0,x2] m) fun x3 m=>some (.tuple ⟨[]⟩,m)
theorem Qve (G:Gt)(a0:V)(m:M):ef G Tryz.f539 [a0] m = Q39 G a0 m:=Xb (r:=fun r m=>Q39 G (r 0) m) rfl rfl (fun r m=>by kernel_rfl) m
def Q9r:En:=⟨Q9a,Tryz.f539,Tryz.func539,by kernel_rfl,arg1 Q39,X1v Qve⟩
def Qcc (G:Gt)(p0:V)(m:M):R:=some (p0,m)
def Qcd (G:Gt)(p0 p3:V)(m:M):R:=bp (pur (X2g 1 p0 (some p3) none) m) fun x0 m=>bp (unt (Xnr [(.int .i64 0)] 1 x0 m)) fun _ m=>bp (pur (X2g 1 p0 none (some p3)) m) fun x1 m=>some (x1,m)
def Q5r (G:Gt)(k1:J4)(p5 p4 p0 p3:V)(m:M):R:=bp (pur (bin .add true true .int p5 (.int .i64 1)) m) fun x2 m=>k1 x2 p4 p0 p3 m
def Qbd (G:Gt)(k1:J4)(p4 p5 p0 p3:V)(m:M):R:=bp (pur (X5 1 p4 p5) m) fun x3 m=>bp (pur (X4 false 1 x3 m) m) fun x4 m=>bp (pur (bin .sub true true .int p5 (.int .i64 1)) m) fun x5 m=>bp (pur (X5 1 p4 x5) m) fun x6 m=>bp (pur (X4 false 1 x6 m) m) fun x7 m=>bp (pur (bin .neq false true .int x4 x7) m) fun x8 m=>brb x8 (bp (pur (X5 1 p4 p5) m) fun x9 m=>bp (pur (X4 false 1 x9 m) m) fun x10 m=>bp (pur (X5 1 p0 p3) m) fun x11 m=>bp (unt (X8 1 x11 x10 m)) fun _ m=>bp (pur (bin .add true true .int p3 (.int .i64 1)) m) fun x12 m=>Q5r G k1 p5 p4 p0 x12 m) (Q5r G k1 p5 p4 p0 p3 m)
def Q1t (G:Gt):Nat→V→V→V→V→M→R
 | 0,_,_,_,_,_=>none
 | i + 1,p5,p4,p0,p3,m=>bp (pur (lenK 1 p4 m) m) fun x13 m=>bp (pur (bin .lss false true .int p5 x13) m) fun x14 m=>brb x14 (Qbd G (Q1t G i) p4 p5 p0 p3 m) (Qcd G p0 p3 m)
def Qce (G:Gt)(p5 p4 p0 p3:V)(m:M):R:=Q1t G G.rds p5 p4 p0 p3 m
def Qcf (G:Gt)(p4 p0 p3:V)(m:M):R:=Qce G (.int .i64 1) p4 p0 p3 m
def Qcg (G:Gt)(k0:J2)(p25 p0 p3:V)(m:M):R:=brb p25 (bp (pur (X2g 1 p0 (some p3) none) m) fun x15 m=>Qcf G x15 p0 p3 m) (bp (pur (bin .add true true .int p3 (.int .i64 1)) m) fun x16 m=>k0 x16 p0 m)
def Qch (G:Gt)(k0:J2)(p0 p3:V)(m:M):R:=bp (pur (X5 1 p0 p3) m) fun x17 m=>bp (pur (X4 false 1 x17 m) m) fun x18 m=>bp (pur (bin .sub true true .int p3 (.int .i64 1)) m) fun x19 m=>bp (pur (X5 1 p0 x19) m) fun x20 m=>bp (pur (X4 false 1 x20 m) m) fun x21 m=>bp (pur (bin .eql false true .int x18 x21) m) fun x22 m=>Qcg G k0 x22 p0 p3 m
def Q24 (G:Gt):Nat→V→V→M→R
 | 0,_,_,_=>none
 | i + 1,p3,p0,m=>bp (pur (lenK 1 p0 m) m) fun x23 m=>bp (pur (bin .lss false true .int p3 x23) m) fun x24 m=>brb x24 (Qch G (Q24 G i) p0 p3 m) (Qcc G p0 m)
def Qci (G:Gt)(p3 p0:V)(m:M):R:=Q24 G G.rds p3 p0 m
def Qcj (G:Gt)(p0:V)(m:M):R:=Qci G (.int .i64 1) p0 m
def Qck (G:Gt)(p0:V)(m:M):R:=bp (pur (lenK 1 p0 m) m) fun x25 m=>bp (pur (bin .lss true true .int x25 (.int .i64 2)) m) fun x26 m=>brb x26 (some (p0,m)) (Qcj G p0 m)
def Q2h (G:Gt)(p0:V)(m:M):R:=Qck G p0 m
theorem Qrf (G:Gt)(a0:V)(m:M):ef G Tryz.f540 [a0] m = Q2h G a0 m:=Xb (r:=fun r m=>Q2h G (r 0) m) rfl rfl (tr (seqQ (f:=fun r m=>Qck G (r 0) m) (tr (seqQ (f:=fun r m=>Qcj G (r 0) m) (tr (tr (seqQ (f:=fun r m=>Qcc G (r 0) m)) (seqQ (f:=fun r m=>Qci G (r 3) (r 0) m) (tr (Xm (X1l (fun i r m=>Q24 G i (r 3) (r 0) m) (fun _ _=>rfl) (fun i0=>tr (seqQ (f:=fun r m=>Qch G (Q24 G i0) (r 0) (r 3) m) (tr (tr seqD (Xm (seqQ (f:=fun r m=>Qcg G (Q24 G i0) (r 25) (r 0) (r 3) m) (tr (X5g (seqQ (f:=fun r m=>Qcf G (r 4) (r 0) (r 3) m) (tr (tr (seqQ (f:=fun r m=>Qcd G (r 0) (r 3) m)) (seqQ (f:=fun r m=>Qce G (r 5) (r 4) (r 0) (r 3) m) (tr (Xm (X1l (fun i r m=>Q1t G i (r 5) (r 4) (r 0) (r 3) m) (fun _ _=>rfl) (fun i1=>tr (seqQ (f:=fun r m=>Qbd G (Q1t G i1) (r 4) (r 5) (r 0) (r 3) m) (tr (seqQ (f:=fun r m=>Q5r G (Q1t G i1) (r 5) (r 4) (r 0) (r 3) m)))))))))))) (refQ))))))))))))))))))) m
def Q77:En:=⟨Q6z,Tryz.f540,Tryz.func540,by kernel_rfl,arg1 Q2h,X1v Qrf⟩
def Q13t:En:=wE Q134 Tryz.f541 Tryz.func541 ⟨_,by go_invoke; rfl⟩
end
end Go.Ab.Sh
