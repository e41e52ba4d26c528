/-
  Functions of the program as plain definitions. No conditions.
-/
import Derived.Test.YtphmfaooegiohaaGreatDoorAb5
import Derived.Test.YtphmfaooegiohaaGreatDoorZ
import Derived.KernelRfl
import Derived.Test.YtphmfaooegiohaaGreatDoorProg
set_option linter.unusedVariables false
set_option maxRecDepth 100000
namespace Go.Ab.Sh
open Go Go.Ab Go.Proofs
noncomputable section
def Qv2 (G:Gt)(p2 p0:V)(m:M):R:=bp (conv (.int .u8) p0 m) fun x0 m=>bp (pur (X2s (.string ⟨#[0,1,2,2,3,3,3,3,4,4,4,4,4,4,4,4,5,5,5,5,5,5,5,5,5,5,5,5,5,5,5,5,6,6,6,6,6,6,6,6,6,6,6,6,6,6,6,6,6,6,6,6,6,6,6,6,6,6,6,6,6,6,6,6,7,7,7,7,7,7,7,7,7,7,7,7,7,7,7,7,7,7,7,7,7,7,7,7,7,7,7,7,7,7,7,7,7,7,7,7,7,7,7,7,7,7,7,7,7,7,7,7,7,7,7,7,7,7,7,7,7,7,7,7,7,7,7,7,8,8,8,8,8,8,8,8,8,8,8,8,8,8,8,8,8,8,8,8,8,8,8,8,8,8,8,8,8,8,8,8,8,8,8,8,8,8,8,8,8,8,8,8,8,8,8,8,8,8,8,8,8,8,8,8,8,8,8,8,8,8,8,8,8,8,8,8,8,8,8,8,8,8,8,8,8,8,8,8,8,8,8,8,8,8,8,8,8,8,8,8,8,8,8,8,8,8,8,8,8,8,8,8,8,8,8,8,8,8,8,8,8,8,8,8,8,8,8,8,8,8,8,8,8,8,8,8]⟩) x0) m) fun x1 m=>bp (conv (.int .i64) x1 m) fun x2 m=>bp (pur (bin .add false true .int p2 x2) m) fun x3 m=>some (x3,m)
def Qv3 (G:Gt)(p0 p2:V)(m:M):R:=bp (pur (bin .geq true true .int p0 (.int .u64 256)) m) fun x4 m=>brb x4 (bp (pur (bin .shr true true .int p0 (.int .u64 8)) m) fun x5 m=>bp (pur (bin .add true true .int p2 (.int .i64 8)) m) fun x6 m=>Qv2 G x6 x5 m) (Qv2 G p2 p0 m)
def Qv4 (G:Gt)(p0 p2:V)(m:M):R:=bp (pur (bin .geq true true .int p0 (.int .u64 65536)) m) fun x7 m=>brb x7 (bp (pur (bin .shr true true .int p0 (.int .u64 16)) m) fun x8 m=>bp (pur (bin .add true true .int p2 (.int .i64 16)) m) fun x9 m=>Qv3 G x8 x9 m) (Qv3 G p0 p2 m)
def Q1fw (G:Gt)(p0 p2:V)(m:M):R:=bp (pur (bin .geq true true .int p0 (.int .u64 4294967296)) m) fun x10 m=>brb x10 (bp (pur (bin .shr true true .int p0 (.int .u64 32)) m) fun x11 m=>Qv4 G x11 (.int .i64 32) m) (Qv4 G p0 p2 m)
def Q13f (G:Gt)(p0:V)(m:M):R:=Q1fw G p0 (.int .i64 0) m
theorem Q1zp (G:Gt)(a0:V)(m:M):ef G Tryz.f198 [a0] m = Q13f G a0 m:=X6 (r:=fun r m=>Q13f G (r 0) m) rfl rfl (tr (seqQ (f:=fun r m=>Q1fw G (r 0) (r 2) m) (tr (seqQ (f:=fun r m=>Qv4 G (r 0) (r 2) m) (tr (seqQ (f:=fun r m=>Qv3 G (r 0) (r 2) m) (tr (seqQ (f:=fun r m=>Qv2 G (r 2) (r 0) m))))))))) m
def Q1zq:En:=⟨Q1ki,Tryz.f198,Tryz.func198,by kernel_rfl,arg1 Q13f,Xk Q1zp⟩
def Q1he (G:Gt)(p0:V)(m:M):R:=bp (some (aNew Q4 (Value.cells p0).toList m)) fun x0 m=>bp (some (aNew Q1ln Q1lo m)) fun x1 m=>bp (pur (X0 2 x0) m) fun x2 m=>bp (pur (X4 false 1 x2 m) m) fun x3 m=>bp (pur (X0 4 x0) m) fun x4 m=>bp (pur (X4 false 1 x4 m) m) fun x5 m=>bp (pur (X0 7 x0) m) fun x6 m=>bp (pur (X4 false 1 x6 m) m) fun x7 m=>bp (pur (X0 8 x0) m) fun x8 m=>bp (pur (X4 false 1 x8 m) m) fun x9 m=>bp (pur (X0 9 x0) m) fun x10 m=>bp (pur (X4 false 1 x10 m) m) fun x11 m=>bp (G.tab Q18v [x3,(.func (.func Q243) #[] #[])] m) fun x12 m=>ckB (again (pur (X4 false 1 x4 m) m) x5 && (again (pur (X4 false 1 x6 m) m) x7 && (again (pur (X4 false 1 x8 m) m) x9 && (again (pur (X4 false 1 x10 m) m) x11 && true)))) (bp (G.tab Qwo [x5,(.func (.func Q1lq) #[] #[])] m) fun x13 m=>ckB (again (pur (X4 false 1 x6 m) m) x7 && (again (pur (X4 false 1 x8 m) m) x9 && (again (pur (X4 false 1 x10 m) m) x11 && true))) (bp (G.tab Qow [x7,(.func (.func Q1ib) #[] #[])] m) fun x14 m=>ckB (again (pur (X4 false 1 x8 m) m) x9 && (again (pur (X4 false 1 x10 m) m) x11 && true)) (bp (G.tab Qkv [x9,(.func (.func Q1fx) #[] #[])] m) fun x15 m=>ckB (again (pur (X4 false 1 x10 m) m) x11 && true) (bp (G.tab Qwp [x11,(.func (.func Q1lr) #[] #[])] m) fun x16 m=>bp (pur (Xe Q1lo [(0,1),(1,1),(2,1),(3,1),(4,1)] [(0,x12),(1,x13),(2,x14),(3,x15),(4,x16)]) m) fun x17 m=>bp (unt (X8 5 x1 x17 m)) fun _ m=>ob (ob (X4 true 5 x1 m) fun v=>ob (some []) fun l=>some (v :: l)) fun l=>some (X1c l,m)))))
theorem Q244 (G:Gt)(a0:V)(m:M):ef G Tryz.f200 [a0] m = Q1he G a0 m:=X6 (r:=fun r m=>Q1he G (r 0) m) rfl rfl (fun r m=>by kernel_rfl) m
def Q245:En:=⟨Q1py,Tryz.f200,Tryz.func200,by kernel_rfl,arg1 Q1he,Xk Q244⟩
def Q1jo (G:Gt)(p0 p1:V)(m:M):R:=bp (pur (un .not p0) m) fun x0 m=>brb x0 (some ((.int .i64 1),m)) (bp (pur (un .not p1) m) fun x1 m=>brb x1 (some ((.int .i64 2),m)) (some ((.int .i64 0),m)))
theorem Q259 (G:Gt)(a0 a1:V)(m:M):ef G Tryz.f202 [a0,a1] m = Q1jo G a0 a1 m:=X6 (r:=fun r m=>Q1jo G (r 0) (r 1) m) rfl rfl (fun r m=>by kernel_rfl) m
def Q25a:En:=⟨Q17q,Tryz.f202,Tryz.func202,by kernel_rfl,arg2 Q1jo,Xf Q259⟩
def Q13g (G:Gt)(p1 p2 p0:V)(m:M):R:=bp (pur (X4 true 5 p1 m) m) fun x0 m=>bp (pur (X4 true 12 p2 m) m) fun x1 m=>bp (G.tab Q1ic [x0,x1,p0] m) fun x2 m=>some (x2,m)
theorem Q1zr (G:Gt)(a0 a1 a2:V)(m:M):ef G Tryz.f205 [a0,a1,a2] m = Q13g G a1 a2 a0 m:=X6 (r:=fun r m=>Q13g G (r 1) (r 2) (r 0) m) rfl rfl (fun r m=>by kernel_rfl) m
def Q1zs:En:=⟨Q1kj,Tryz.f205,Tryz.func205,by kernel_rfl,arg3 (fun G a0 a1 a2 m=>Q13g G a1 a2 a0 m),Xr Q1zr⟩
def Qj6 (G:Gt)(p6:V)(m:M):R:=some (p6,m)
def Q5u (G:Gt)(p9 p3 p7:V)(m:M):R:=bp (pur (X0 0 p3) m) fun x0 m=>bp (pur (X4 false 1 x0 m) m) fun x1 m=>bp (pur (X0 1 p7) m) fun x2 m=>bp (pur (X4 false 1 x2 m) m) fun x3 m=>bp (G.tab Q1dh [x1,x3] m) fun x4 m=>brb x4 (bp (pur (X0 1 p3) m) fun x5 m=>bp (pur (X4 false 1 x5 m) m) fun x6 m=>bp (pur (X0 5 p7) m) fun x7 m=>bp (pur (X4 false 1 x7 m) m) fun x8 m=>bp (G.tab Q1dh [x6,x8] m) fun x9 m=>brb x9 (bp (pur (X0 1 p3) m) fun x10 m=>bp (pur (X4 false 1 x10 m) m) fun x11 m=>bp (pur (X0 6 p7) m) fun x12 m=>bp (pur (X4 false 1 x12 m) m) fun x13 m=>bp (G.tab Q1dh [x11,x13] m) fun x14 m=>bp (G.tab Q17q [p9,x14] m) fun x15 m=>Qj6 G x15 m) (bp (G.tab Q17q [p9,(.bool false)] m) fun x16 m=>Qj6 G x16 m)) (bp (G.tab Q17q [p9,(.bool false)] m) fun x17 m=>Qj6 G x17 m)
def Q8i (G:Gt)(p7 p4 p2 p8 p3:V)(m:M):R:=bp (pur (X0 0 p7) m) fun x18 m=>bp (pur (X4 false 1 x18 m) m) fun x19 m=>bp (G.tab Q1lm [x19] m) fun x20 m=>brb x20 (bp (pur (X0 3 p4) m) fun x21 m=>bp (pur (X4 false 1 x21 m) m) fun x22 m=>bp (G.tab Qyk [x22,p2,(.func (.func Q1da) #[] #[])] m) fun x23 m=>brb x23 (brb p8 (bp (pur (X0 7 p7) m) fun x24 m=>bp (pur (X4 false 1 x24 m) m) fun x25 m=>bp (pur (bin .leq true true .int x25 (.int .u8 2)) m) fun x26 m=>brb x26 (bp (pur (X0 8 p7) m) fun x27 m=>bp (pur (X4 false 1 x27 m) m) fun x28 m=>bp (G.tab Qpi [x28,(.int .i64 (-1)),(.int .i64 16777216)] m) fun x29 m=>brb x29 (bp (pur (X0 9 p7) m) fun x30 m=>bp (pur (X4 false 1 x30 m) m) fun x31 m=>bp (G.tab Qpi [x31,(.int .i64 1),(.int .i64 65535)] m) fun x32 m=>Q5u G x32 p3 p7 m) (Q5u G (.bool false) p3 p7 m)) (Q5u G (.bool false) p3 p7 m)) (Q5u G (.bool false) p3 p7 m)) (Q5u G (.bool false) p3 p7 m)) (Q5u G (.bool false) p3 p7 m)
def Q1di (G:Gt)(p7 p4 p2 p3:V)(m:M):R:=bp (pur (X0 2 p7) m) fun x33 m=>bp (pur (X4 false 1 x33 m) m) fun x34 m=>bp (pur (bin .eql true true .int x34 (.int .u32 0)) m) fun x35 m=>brb x35 (bp (pur (X0 3 p7) m) fun x36 m=>bp (pur (X4 false 1 x36 m) m) fun x37 m=>bp (pur (bin .eql true true .int x37 (.int .i64 0)) m) fun x38 m=>brb x38 (Q8i G p7 p4 p2 (.bool true) p3 m) (bp (pur (X0 2 p7) m) fun x39 m=>bp (pur (X4 false 1 x39 m) m) fun x40 m=>bp (pur (bin .neq true true .int x40 (.int .u32 0)) m) fun x41 m=>brb x41 (bp (pur (X0 3 p7) m) fun x42 m=>bp (pur (X4 false 1 x42 m) m) fun x43 m=>bp (G.tab Qpi [x43,(.int .i64 1),(.int .i64 32)] m) fun x44 m=>Q8i G p7 p4 p2 x44 p3 m) (Q8i G p7 p4 p2 (.bool false) p3 m))) (bp (pur (X0 2 p7) m) fun x45 m=>bp (pur (X4 false 1 x45 m) m) fun x46 m=>bp (pur (bin .neq true true .int x46 (.int .u32 0)) m) fun x47 m=>brb x47 (bp (pur (X0 3 p7) m) fun x48 m=>bp (pur (X4 false 1 x48 m) m) fun x49 m=>bp (G.tab Qpi [x49,(.int .i64 1),(.int .i64 32)] m) fun x50 m=>Q8i G p7 p4 p2 x50 p3 m) (Q8i G p7 p4 p2 (.bool false) p3 m))
def Q1dj (G:Gt)(p4 p2 p3:V)(m:M):R:=bp (pur (X0 3 p4) m) fun x51 m=>bp (pur (X4 false 1 x51 m) m) fun x52 m=>bp (pur (X3 11 x52 p2) m) fun x53 m=>bp (pur (X4 true 11 x53 m) m) fun x54 m=>bp (some (aNew Q1i Q3q m)) fun x55 m=>bp (unt (X8 11 x55 x54 m)) fun _ m=>Q1di G x55 p4 p2 p3 m
def Qyl (G:Gt)(p0 p1 p2:V)(m:M):R:=bp (some (aNew Q1ln (Value.cells p0).toList m)) fun x56 m=>bp (some (aNew Q4 (Value.cells p1).toList m)) fun x57 m=>Q1dj G x57 p2 x56 m
theorem Q1x4 (G:Gt)(a0 a1 a2:V)(m:M):ef G Tryz.f206 [a0,a1,a2] m = Qyl G a0 a1 a2 m:=X6 (r:=fun r m=>Qyl G (r 0) (r 1) (r 2) m) rfl rfl (tr (seqQ (f:=fun r m=>Q1dj G (r 4) (r 2) (r 3) m) (tr (seqQ (f:=fun r m=>Q1di G (r 7) (r 4) (r 2) (r 3) m) (tr (seqQ (f:=fun r m=>Q8i G (r 7) (r 4) (r 2) (r 8) (r 3) m) (tr (seqQ (f:=fun r m=>Q5u G (r 9) (r 3) (r 7) m) (tr (seqQ (f:=fun r m=>Qj6 G (r 6) m))))))))))) m
def Q1x5:En:=⟨Q1ic,Tryz.f206,Tryz.func206,by kernel_rfl,arg3 Qyl,Xr Q1x4⟩
def Q1hf (G:Gt)(p4:V)(m:M):R:=some (p4,m)
def Q1pz (G:Gt)(p1 p0:V)(m:M):R:=bp (pur (bin .eql true true .str p1 (.string ⟨#[]⟩)) m) fun x0 m=>brb x0 (Q1hf G (.bool true) m) (bp (pur (Xg .str (.int .i64 0) false p0 p1 m) m) fun x1 m=>bp (pur (bin .gtr true true .int x1 (.int .i64 0)) m) fun x2 m=>Q1hf G x2 m)
def Q1ls (G:Gt)(p1 p0:V)(m:M):R:=Q1pz G p1 p0 m
theorem Q271 (G:Gt)(a0 a1:V)(m:M):ef G Tryz.f211 [a0,a1] m = Q1ls G a1 a0 m:=X6 (r:=fun r m=>Q1ls G (r 1) (r 0) m) rfl rfl (tr (seqQ (f:=fun r m=>Q1pz G (r 1) (r 0) m) (tr (seqQ (f:=fun r m=>Q1hf G (r 4) m))))) m
def Q272:En:=⟨Q1dh,Tryz.f211,Tryz.func211,by kernel_rfl,arg2 (fun G a0 a1 m=>Q1ls G a1 a0 m),Xf Q271⟩
def Qcs (G:Gt)(p0:V)(m:M):R:=bp (pur (bin .eql true true .slice p0 (.slice none 0 0)) m) fun x0 m=>brb x0 (some ((.slice none 0 0),m)) (bp (Xa Q4v [(.string ⟨#[]⟩)] 1 0 [] m) fun x1 m=>bp (apS Q4v 1 16 x1 p0 m) fun x2 m=>some (x2,m))
theorem Q1c7 (G:Gt)(a0:V)(m:M):ef G Tryz.f228 [a0] m = Qcs G a0 m:=X6 (r:=fun r m=>Qcs G (r 0) m) rfl rfl (fun r m=>by kernel_rfl) m
def Q1c8:En:=⟨Qlx,Tryz.f228,Tryz.func228,by kernel_rfl,arg1 Qcs,Xk Q1c7⟩
def Q6x (G:Gt)(p0:V)(m:M):R:=bp (pur (bin .eql true true .slice p0 (.slice none 0 0)) m) fun x0 m=>brb x0 (some ((.slice none 0 0),m)) (bp (Xa Q1i Q3q 11 0 [] m) fun x1 m=>bp (apS Q1i 11 120 x1 p0 m) fun x2 m=>some (x2,m))
theorem Qxw (G:Gt)(a0:V)(m:M):ef G Tryz.f229 [a0] m = Q6x G a0 m:=X6 (r:=fun r m=>Q6x G (r 0) m) rfl rfl (fun r m=>by kernel_rfl) m
def Qxx:En:=⟨Qf6,Tryz.f229,Tryz.func229,by kernel_rfl,arg1 Q6x,Xk Qxw⟩
def Q5b (G:Gt)(p0:V)(m:M):R:=bp (pur (bin .eql true true .slice p0 (.slice none 0 0)) m) fun x0 m=>brb x0 (some ((.slice none 0 0),m)) (bp (Xa Q1jp Q25b 3 0 [] m) fun x1 m=>bp (apS Q1jp 3 32 x1 p0 m) fun x2 m=>some (x2,m))
theorem Qqx (G:Gt)(a0:V)(m:M):ef G Tryz.f230 [a0] m = Q5b G a0 m:=X6 (r:=fun r m=>Q5b G (r 0) m) rfl rfl (fun r m=>by kernel_rfl) m
def Qqy:En:=⟨Qd1,Tryz.f230,Tryz.func230,by kernel_rfl,arg1 Q5b,Xk Qqx⟩
def Q69 (G:Gt)(p0:V)(m:M):R:=bp (pur (bin .eql true true .slice p0 (.slice none 0 0)) m) fun x0 m=>brb x0 (some ((.slice none 0 0),m)) (bp (Xa Q1dk Q1x6 7 0 [] m) fun x1 m=>bp (apS Q1dk 7 56 x1 p0 m) fun x2 m=>some (x2,m))
theorem Qtt (G:Gt)(a0:V)(m:M):ef G Tryz.f231 [a0] m = Q69 G a0 m:=X6 (r:=fun r m=>Q69 G (r 0) m) rfl rfl (fun r m=>by kernel_rfl) m
def Qtu:En:=⟨Qec,Tryz.f231,Tryz.func231,by kernel_rfl,arg1 Q69,Xk Qtt⟩
def Qtv (G:Gt)(p5:V)(m:M):R:=some (p5,m)
def Qhz (G:Gt):Nat→V→V→V→V→V→M→R
 | 0,_,_,_,_,_,_=>none
 | i + 1,p10,p9,p8,p5,p1,m=>bp (pur (bin .lss false true .int p10 p9) m) fun x0 m=>brb x0 (bp (pur (X3 2 p8 p10) m) fun x1 m=>bp (pur (X4 true 2 x1 m) m) fun x2 m=>bp (some (aNew Qkw Qpj m)) fun x3 m=>bp (unt (X8 2 x3 x2 m)) fun _ m=>bp (pur (X4 true 2 x3 m) m) fun x4 m=>bp (Xj G.tab p1 [x4] m) fun x5 m=>bp (Xa Qkw Qpj 2 1 [(0,x5)] m) fun x6 m=>bp (apS Qkw 2 40 p5 x6 m) fun x7 m=>bp (pur (bin .add true true .int p10 (.int .i64 1)) m) fun x8 m=>(Qhz G i) x8 p9 p8 x7 p1 m) (Qtv G p5 m)
def Qtw (G:Gt)(p10 p9 p8 p5 p1:V)(m:M):R:=Qhz G G.rds p10 p9 p8 p5 p1 m
def Qtx (G:Gt)(p0 p5 p1:V)(m:M):R:=bp (pur (lenK 1 p0 m) m) fun x9 m=>Qtw G (.int .i64 0) x9 p0 p5 p1 m
def Qty (G:Gt)(p0 p1:V)(m:M):R:=Qtx G p0 (.slice none 0 0) p1 m
def Qkx (G:Gt)(p0 p1:V)(m:M):R:=Qty G p0 p1 m
theorem Q1lt (G:Gt)(a0 a1:V)(m:M):ef G Tryz.f232 [a0,a1] m = Qkx G a0 a1 m:=X6 (r:=fun r m=>Qkx G (r 0) (r 1) m) rfl rfl (tr (seqQ (f:=fun r m=>Qty G (r 0) (r 1) m) (tr (seqQ (f:=fun r m=>Qtx G (r 0) (r 5) (r 1) m) (tr (tr (seqQ (f:=fun r m=>Qtv G (r 5) m)) (seqQ (f:=fun r m=>Qtw G (r 10) (r 9) (r 8) (r 5) (r 1) m) (tr (X7 (Xc (fun i r m=>Qhz G i (r 10) (r 9) (r 8) (r 5) (r 1) m) (fun _ _=>rfl) (fun i0=>fun r m=>by kernel_rfl))))))))))) m
def Q1lu:En:=⟨Qyf,Tryz.f232,Tryz.func232,by kernel_rfl,arg2 Qkx,Xf Q1lt⟩
def Qn9 (G:Gt)(p5:V)(m:M):R:=some (p5,m)
def Qdm (G:Gt):Nat→V→V→V→V→V→M→R
 | 0,_,_,_,_,_,_=>none
 | i + 1,p10,p9,p8,p5,p1,m=>bp (pur (bin .lss false true .int p10 p9) m) fun x0 m=>brb x0 (bp (pur (X3 2 p8 p10) m) fun x1 m=>bp (pur (X4 true 2 x1 m) m) fun x2 m=>bp (some (aNew Qby Qf1 m)) fun x3 m=>bp (unt (X8 2 x3 x2 m)) fun _ m=>bp (pur (X4 true 2 x3 m) m) fun x4 m=>bp (Xj G.tab p1 [x4] m) fun x5 m=>bp (Xa Qby Qf1 2 1 [(0,x5)] m) fun x6 m=>bp (apS Qby 2 40 p5 x6 m) fun x7 m=>bp (pur (bin .add true true .int p10 (.int .i64 1)) m) fun x8 m=>(Qdm G i) x8 p9 p8 x7 p1 m) (Qn9 G p5 m)
def Qna (G:Gt)(p10 p9 p8 p5 p1:V)(m:M):R:=Qdm G G.rds p10 p9 p8 p5 p1 m
def Qnb (G:Gt)(p0 p5 p1:V)(m:M):R:=bp (pur (lenK 1 p0 m) m) fun x9 m=>Qna G (.int .i64 0) x9 p0 p5 p1 m
def Qnc (G:Gt)(p0 p1:V)(m:M):R:=Qnb G p0 (.slice none 0 0) p1 m
def Qf2 (G:Gt)(p0 p1:V)(m:M):R:=Qnc G p0 p1 m
theorem Q1hg (G:Gt)(a0 a1:V)(m:M):ef G Tryz.f235 [a0,a1] m = Qf2 G a0 a1 m:=X6 (r:=fun r m=>Qf2 G (r 0) (r 1) m) rfl rfl (tr (seqQ (f:=fun r m=>Qnc G (r 0) (r 1) m) (tr (seqQ (f:=fun r m=>Qnb G (r 0) (r 5) (r 1) m) (tr (tr (seqQ (f:=fun r m=>Qn9 G (r 5) m)) (seqQ (f:=fun r m=>Qna G (r 10) (r 9) (r 8) (r 5) (r 1) m) (tr (X7 (Xc (fun i r m=>Qdm G i (r 10) (r 9) (r 8) (r 5) (r 1) m) (fun _ _=>rfl) (fun i0=>fun r m=>by kernel_rfl))))))))))) m
def Q1hh:En:=⟨Qpg,Tryz.f235,Tryz.func235,by kernel_rfl,arg2 Qf2,Xf Q1hg⟩
def Qjp (G:Gt)(p5:V)(m:M):R:=some (p5,m)
def Q9s (G:Gt):Nat→V→V→V→V→V→M→R
 | 0,_,_,_,_,_,_=>none
 | i + 1,p10,p9,p8,p5,p1,m=>bp (pur (bin .lss false true .int p10 p9) m) fun x0 m=>brb x0 (bp (pur (X3 2 p8 p10) m) fun x1 m=>bp (pur (X4 true 2 x1 m) m) fun x2 m=>bp (some (aNew Q4p Q6j m)) fun x3 m=>bp (unt (X8 2 x3 x2 m)) fun _ m=>bp (pur (X4 true 2 x3 m) m) fun x4 m=>bp (Xj G.tab p1 [x4] m) fun x5 m=>bp (Xa Q4p Q6j 2 1 [(0,x5)] m) fun x6 m=>bp (apS Q4p 2 40 p5 x6 m) fun x7 m=>bp (pur (bin .add true true .int p10 (.int .i64 1)) m) fun x8 m=>(Q9s G i) x8 p9 p8 x7 p1 m) (Qjp G p5 m)
def Qjq (G:Gt)(p10 p9 p8 p5 p1:V)(m:M):R:=Q9s G G.rds p10 p9 p8 p5 p1 m
def Qjr (G:Gt)(p0 p5 p1:V)(m:M):R:=bp (pur (lenK 1 p0 m) m) fun x9 m=>Qjq G (.int .i64 0) x9 p0 p5 p1 m
def Qjs (G:Gt)(p0 p1:V)(m:M):R:=Qjr G p0 (.slice none 0 0) p1 m
def Qct (G:Gt)(p0 p1:V)(m:M):R:=Qjs G p0 p1 m
theorem Q1c9 (G:Gt)(a0 a1:V)(m:M):ef G Tryz.f238 [a0,a1] m = Qct G a0 a1 m:=X6 (r:=fun r m=>Qct G (r 0) (r 1) m) rfl rfl (tr (seqQ (f:=fun r m=>Qjs G (r 0) (r 1) m) (tr (seqQ (f:=fun r m=>Qjr G (r 0) (r 5) (r 1) m) (tr (tr (seqQ (f:=fun r m=>Qjp G (r 5) m)) (seqQ (f:=fun r m=>Qjq G (r 10) (r 9) (r 8) (r 5) (r 1) m) (tr (X7 (Xc (fun i r m=>Q9s G i (r 10) (r 9) (r 8) (r 5) (r 1) m) (fun _ _=>rfl) (fun i0=>fun r m=>by kernel_rfl))))))))))) m
def Q1ca:En:=⟨Qly,Tryz.f238,Tryz.func238,by kernel_rfl,arg2 Qct,Xf Q1c9⟩
def Qtz (G:Gt)(p5:V)(m:M):R:=some (p5,m)
def Qi0 (G:Gt):Nat→V→V→V→V→V→M→R
 | 0,_,_,_,_,_,_=>none
 | i + 1,p10,p9,p8,p5,p1,m=>bp (pur (bin .lss false true .int p10 p9) m) fun x0 m=>brb x0 (bp (pur (X3 3 p8 p10) m) fun x1 m=>bp (pur (X4 true 3 x1 m) m) fun x2 m=>bp (some (aNew Qky Qpk m)) fun x3 m=>bp (unt (X8 3 x3 x2 m)) fun _ m=>bp (pur (X4 true 3 x3 m) m) fun x4 m=>bp (Xj G.tab p1 [x4] m) fun x5 m=>bp (Xa Qky Qpk 3 1 [(0,x5)] m) fun x6 m=>bp (apS Qky 3 48 p5 x6 m) fun x7 m=>bp (pur (bin .add true true .int p10 (.int .i64 1)) m) fun x8 m=>(Qi0 G i) x8 p9 p8 x7 p1 m) (Qtz G p5 m)
def Qu0 (G:Gt)(p10 p9 p8 p5 p1:V)(m:M):R:=Qi0 G G.rds p10 p9 p8 p5 p1 m
def Qu1 (G:Gt)(p0 p5 p1:V)(m:M):R:=bp (pur (lenK 1 p0 m) m) fun x9 m=>Qu0 G (.int .i64 0) x9 p0 p5 p1 m
def Qu2 (G:Gt)(p0 p1:V)(m:M):R:=Qu1 G p0 (.slice none 0 0) p1 m
def Qkz (G:Gt)(p0 p1:V)(m:M):R:=Qu2 G p0 p1 m
theorem Q1lv (G:Gt)(a0 a1:V)(m:M):ef G Tryz.f243 [a0,a1] m = Qkz G a0 a1 m:=X6 (r:=fun r m=>Qkz G (r 0) (r 1) m) rfl rfl (tr (seqQ (f:=fun r m=>Qu2 G (r 0) (r 1) m) (tr (seqQ (f:=fun r m=>Qu1 G (r 0) (r 5) (r 1) m) (tr (tr (seqQ (f:=fun r m=>Qtz G (r 5) m)) (seqQ (f:=fun r m=>Qu0 G (r 10) (r 9) (r 8) (r 5) (r 1) m) (tr (X7 (Xc (fun i r m=>Qi0 G i (r 10) (r 9) (r 8) (r 5) (r 1) m) (fun _ _=>rfl) (fun i0=>fun r m=>by kernel_rfl))))))))))) m
def Q1lw:En:=⟨Qyg,Tryz.f243,Tryz.func243,by kernel_rfl,arg2 Qkz,Xf Q1lv⟩
end
end Go.Ab.Sh

set_option linter.unusedVariables false
set_option maxRecDepth 100000
namespace Go.Ab.Sh
open Go Go.Ab Go.Proofs
noncomputable section
def Qym (G:Gt)(p5:V)(m:M):R:=some (p5,m)
def Ql0 (G:Gt):Nat→V→V→V→V→V→M→R
 | 0,_,_,_,_,_,_=>none
 | i + 1,p10,p9,p8,p5,p1,m=>bp (pur (bin .lss false true .int p10 p9) m) fun x0 m=>brb x0 (bp (pur (X3 3 p8 p10) m) fun x1 m=>bp (pur (X4 true 3 x1 m) m) fun x2 m=>bp (some (aNew Qsi Q115 m)) fun x3 m=>bp (unt (X8 3 x3 x2 m)) fun _ m=>bp (pur (X4 true 3 x3 m) m) fun x4 m=>bp (Xj G.tab p1 [x4] m) fun x5 m=>bp (Xa Qsi Q115 3 1 [(0,x5)] m) fun x6 m=>bp (apS Qsi 3 48 p5 x6 m) fun x7 m=>bp (pur (bin .add true true .int p10 (.int .i64 1)) m) fun x8 m=>(Ql0 G i) x8 p9 p8 x7 p1 m) (Qym G p5 m)
def Qyn (G:Gt)(p10 p9 p8 p5 p1:V)(m:M):R:=Ql0 G G.rds p10 p9 p8 p5 p1 m
def Qyo (G:Gt)(p0 p5 p1:V)(m:M):R:=bp (pur (lenK 1 p0 m) m) fun x9 m=>Qyn G (.int .i64 0) x9 p0 p5 p1 m
def Qyp (G:Gt)(p0 p1:V)(m:M):R:=Qyo G p0 (.slice none 0 0) p1 m
def Qnm (G:Gt)(p0 p1:V)(m:M):R:=Qyp G p0 p1 m
theorem Q1oe (G:Gt)(a0 a1:V)(m:M):ef G Tryz.f247 [a0,a1] m = Qnm G a0 a1 m:=X6 (r:=fun r m=>Qnm G (r 0) (r 1) m) rfl rfl (tr (seqQ (f:=fun r m=>Qyp G (r 0) (r 1) m) (tr (seqQ (f:=fun r m=>Qyo G (r 0) (r 5) (r 1) m) (tr (tr (seqQ (f:=fun r m=>Qym G (r 5) m)) (seqQ (f:=fun r m=>Qyn G (r 10) (r 9) (r 8) (r 5) (r 1) m) (tr (X7 (Xc (fun i r m=>Ql0 G i (r 10) (r 9) (r 8) (r 5) (r 1) m) (fun _ _=>rfl) (fun i0=>fun r m=>by kernel_rfl))))))))))) m
def Q1of:En:=⟨Q148,Tryz.f247,Tryz.func247,by kernel_rfl,arg2 Qnm,Xf Q1oe⟩
def Q11e (G:Gt)(p5:V)(m:M):R:=some (p5,m)
def Qm8 (G:Gt):Nat→V→V→V→V→V→M→R
 | 0,_,_,_,_,_,_=>none
 | i + 1,p10,p9,p8,p5,p1,m=>bp (pur (bin .lss false true .int p10 p9) m) fun x0 m=>brb x0 (bp (pur (X3 6 p8 p10) m) fun x1 m=>bp (pur (X4 true 6 x1 m) m) fun x2 m=>bp (some (aNew Qrl Q18w m)) fun x3 m=>bp (unt (X8 6 x3 x2 m)) fun _ m=>bp (pur (X4 true 6 x3 m) m) fun x4 m=>bp (Xj G.tab p1 [x4] m) fun x5 m=>bp (Xa Qrl Q18w 6 1 [(0,x5)] m) fun x6 m=>bp (apS Qrl 6 96 p5 x6 m) fun x7 m=>bp (pur (bin .add true true .int p10 (.int .i64 1)) m) fun x8 m=>(Qm8 G i) x8 p9 p8 x7 p1 m) (Q11e G p5 m)
def Q11f (G:Gt)(p10 p9 p8 p5 p1:V)(m:M):R:=Qm8 G G.rds p10 p9 p8 p5 p1 m
def Q11g (G:Gt)(p0 p5 p1:V)(m:M):R:=bp (pur (lenK 1 p0 m) m) fun x9 m=>Q11f G (.int .i64 0) x9 p0 p5 p1 m
def Q11h (G:Gt)(p0 p1:V)(m:M):R:=Q11g G p0 (.slice none 0 0) p1 m
def Qpl (G:Gt)(p0 p1:V)(m:M):R:=Q11h G p0 p1 m
theorem Q1q0 (G:Gt)(a0 a1:V)(m:M):ef G Tryz.f250 [a0,a1] m = Qpl G a0 a1 m:=X6 (r:=fun r m=>Qpl G (r 0) (r 1) m) rfl rfl (tr (seqQ (f:=fun r m=>Q11h G (r 0) (r 1) m) (tr (seqQ (f:=fun r m=>Q11g G (r 0) (r 5) (r 1) m) (tr (tr (seqQ (f:=fun r m=>Q11e G (r 5) m)) (seqQ (f:=fun r m=>Q11f G (r 10) (r 9) (r 8) (r 5) (r 1) m) (tr (X7 (Xc (fun i r m=>Qm8 G i (r 10) (r 9) (r 8) (r 5) (r 1) m) (fun _ _=>rfl) (fun i0=>fun r m=>by kernel_rfl))))))))))) m
def Q1q1:En:=⟨Q18u,Tryz.f250,Tryz.func250,by kernel_rfl,arg2 Qpl,Xf Q1q0⟩
def Q8x (G:Gt)(k0:J6)(p87 p0 p1 p2 p11 p3 p8 p9 p10:V)(m:M):R:=brb p87 (bp (G.tab Qv5 [p0,p1,p2,p11] m) fun x0 m=>k0 p2 x0 p0 p3 p8 p9 m) (bp (G.tab Q14d [p0,p1,p2,p11] m) fun x1 m=>bp (pur (X5 x1 0) m) fun x2 m=>bp (pur (X5 x1 1) m) fun x3 m=>bp (pur (bin .sub false true .int x2 p1) m) fun x4 m=>bp (pur (bin .sub false true .int p2 x2) m) fun x5 m=>bp (pur (bin .quo true true .int p10 (.int .i64 8)) m) fun x6 m=>bp (pur (bin .lss false true .int x4 x5) m) fun x7 m=>brb x7 (bp (pur (bin .geq false true .int x4 x6) m) fun x8 m=>bp (G.tab Q6h [p0,p1,x2,p3] m) fun x9 m=>bp (pur (bin .add true true .int x2 (.int .i64 1)) m) fun x10 m=>k0 p2 x10 p0 p3 x8 x3 m) (bp (pur (bin .geq false true .int x5 x6) m) fun x11 m=>bp (pur (bin .add true true .int x2 (.int .i64 1)) m) fun x12 m=>bp (G.tab Q6h [p0,x12,p2,p3] m) fun x13 m=>k0 x2 p1 p0 p3 x11 x3 m))
def Q9t (G:Gt)(k0:J6)(p1 p0 p11 p2 p3 p8 p9 p10:V)(m:M):R:=bp (pur (bin .gtr true true .int p1 (.int .i64 0)) m) fun x14 m=>brt x14 (bp (pur (bin .sub true true .int p1 (.int .i64 1)) m) fun x15 m=>bp (pur (X3 1 p0 x15) m) fun x16 m=>bp (pur (X4 false 1 x16 m) m) fun x17 m=>bp (pur (X3 1 p0 p11) m) fun x18 m=>bp (pur (X4 false 1 x18 m) m) fun x19 m=>bp (G.tab Q1id [x17,x19] m) fun x20 m=>bp (pur (un .not x20) m) fun x21 m=>Q8x G k0 x21 p0 p1 p2 p11 p3 p8 p9 p10 m) (Q8x G k0 (.bool false) p0 p1 p2 p11 p3 p8 p9 p10 m) (none)
def Q4r (G:Gt)(k0:J6)(p68 p0 p1 p2 p11 p3 p8 p9 p10:V)(m:M):R:=brb p68 (bp (G.tab Qnn [p0,p1,p2] m) fun x22 m=>brb x22 (some (.tuple ⟨[]⟩,m)) (Q9t G k0 p1 p0 p11 p2 p3 p8 p9 p10 m)) (Q9t G k0 p1 p0 p11 p2 p3 p8 p9 p10 m)
def Q9u (G:Gt)(k0:J6)(p8 p9 p12 p0 p1 p2 p11 p3 p10:V)(m:M):R:=brb p8 (brb p9 (bp (pur (bin .eql true true .int p12 (.int .i64 1)) m) fun x23 m=>Q4r G k0 x23 p0 p1 p2 p11 p3 p8 p9 p10 m) (Q4r G k0 (.bool false) p0 p1 p2 p11 p3 p8 p9 p10 m)) (Q4r G k0 (.bool false) p0 p1 p2 p11 p3 p8 p9 p10 m)
def Qjt (G:Gt)(k0:J6)(p12 p0 p1 p2 p11 p8 p9 p3 p10:V)(m:M):R:=bp (pur (bin .eql true true .int p12 (.int .i64 2)) m) fun x24 m=>brb x24 (bp (G.tab Qyq [p0,p1,p2] m) fun x25 m=>bp (pur (bin .sub true true .int p2 (.int .i64 1)) m) fun x26 m=>bp (pur (bin .sub false true .int p11 p1) m) fun x27 m=>bp (pur (bin .sub false true .int x26 x27) m) fun x28 m=>Q9u G k0 p8 p9 (.int .i64 1) p0 p1 p2 x28 p3 p10 m) (Q9u G k0 p8 p9 p12 p0 p1 p2 p11 p3 p10 m)
def Q9v (G:Gt)(k0:J6)(p0 p1 p2 p8 p9 p3 p10:V)(m:M):R:=bp (G.tab Q116 [p0,p1,p2] m) fun x29 m=>bp (pur (X5 x29 0) m) fun x30 m=>bp (pur (X5 x29 1) m) fun x31 m=>Qjt G k0 x31 p0 p1 p2 x30 p8 p9 p3 p10 m
def Qju (G:Gt)(k0:J6)(p8 p0 p1 p2 p3 p9 p10:V)(m:M):R:=bp (pur (un .not p8) m) fun x32 m=>brb x32 (bp (G.tab Qxy [p0,p1,p2] m) fun x33 m=>bp (pur (bin .sub true true .int p3 (.int .i64 1)) m) fun x34 m=>Q9v G k0 p0 p1 p2 p8 p9 x34 p10 m) (Q9v G k0 p0 p1 p2 p8 p9 p3 p10 m)
def Qjv (G:Gt)(k0:J6)(p3 p0 p1 p2 p8 p9 p10:V)(m:M):R:=bp (pur (bin .eql true true .int p3 (.int .i64 0)) m) fun x35 m=>brb x35 (bp (G.tab Q185 [p0,p1,p2] m) fun x36 m=>some (.tuple ⟨[]⟩,m)) (Qju G k0 p8 p0 p1 p2 p3 p9 p10 m)
def Qjw (G:Gt)(k0:J6)(p10 p0 p1 p2 p3 p8 p9:V)(m:M):R:=bp (pur (bin .leq true true .int p10 (.int .i64 12)) m) fun x37 m=>brb x37 (bp (G.tab Qf7 [p0,p1,p2] m) fun x38 m=>some (.tuple ⟨[]⟩,m)) (Qjv G k0 p3 p0 p1 p2 p8 p9 p10 m)
def Qm (G:Gt):Nat→V→V→V→V→V→V→M→R
 | 0,_,_,_,_,_,_,_=>none
 | i + 1,p2,p1,p0,p3,p8,p9,m=>bp (pur (bin .sub false true .int p2 p1) m) fun x39 m=>Qjw G (Qm G i) x39 p0 p1 p2 p3 p8 p9 m
def Qjx (G:Gt)(p2 p1 p0 p3 p8 p9:V)(m:M):R:=Qm G G.rds p2 p1 p0 p3 p8 p9 m
def Qjy (G:Gt)(p2 p1 p0 p3 p8:V)(m:M):R:=Qjx G p2 p1 p0 p3 p8 (.bool true) m
def Qcu (G:Gt)(p2 p1 p0 p3:V)(m:M):R:=Qjy G p2 p1 p0 p3 (.bool true) m
theorem Q1cb (G:Gt)(a0 a1 a2 a3:V)(m:M):ef G Tryz.f254 [a0,a1,a2,a3] m = Qcu G a2 a1 a0 a3 m:=X6 (r:=fun r m=>Qcu G (r 2) (r 1) (r 0) (r 3) m) rfl rfl (tr (seqQ (f:=fun r m=>Qjy G (r 2) (r 1) (r 0) (r 3) (r 8) m) (tr (seqQ (f:=fun r m=>Qjx G (r 2) (r 1) (r 0) (r 3) (r 8) (r 9) m) (tr (X7 (Xc (fun i r m=>Qm G i (r 2) (r 1) (r 0) (r 3) (r 8) (r 9) m) (fun _ _=>rfl) (fun i0=>tr (X7 (seqQ (f:=fun r m=>Qjw G (Qm G i0) (r 10) (r 0) (r 1) (r 2) (r 3) (r 8) (r 9) m) (tr (seqQ (f:=fun r m=>Qjv G (Qm G i0) (r 3) (r 0) (r 1) (r 2) (r 8) (r 9) (r 10) m) (tr (seqQ (f:=fun r m=>Qju G (Qm G i0) (r 8) (r 0) (r 1) (r 2) (r 3) (r 9) (r 10) m) (tr (seqQ (f:=fun r m=>Q9v G (Qm G i0) (r 0) (r 1) (r 2) (r 8) (r 9) (r 3) (r 10) m) (tr (seqQ (f:=fun r m=>Qjt G (Qm G i0) (r 12) (r 0) (r 1) (r 2) (r 11) (r 8) (r 9) (r 3) (r 10) m) (tr (seqQ (f:=fun r m=>Q9u G (Qm G i0) (r 8) (r 9) (r 12) (r 0) (r 1) (r 2) (r 11) (r 3) (r 10) m) (tr (tr (seqQ (f:=fun r m=>Q9t G (Qm G i0) (r 1) (r 0) (r 11) (r 2) (r 3) (r 8) (r 9) (r 10) m) (tr (tr seqD (seqQ (f:=fun r m=>Q8x G (Qm G i0) (r 87) (r 0) (r 1) (r 2) (r 11) (r 3) (r 8) (r 9) (r 10) m))))) (seqQ (f:=fun r m=>Q4r G (Qm G i0) (r 68) (r 0) (r 1) (r 2) (r 11) (r 3) (r 8) (r 9) (r 10) m)))))))))))))))))))))))) m
def Q1cc:En:=⟨Q6h,Tryz.f254,Tryz.func254,by kernel_rfl,arg4 (fun G a0 a1 a2 a3 m=>Qcu G a2 a1 a0 a3 m),X19 Q1cb⟩
def Q3u (G:Gt)(p0 p1:V)(m:M):R:=bp (pur (lenK 1 p0 m) m) fun x0 m=>bp (G.tab Qjz [p0,x0,p1] m) fun x1 m=>some (.tuple ⟨[]⟩,m)
theorem Qm9 (G:Gt)(a0 a1:V)(m:M):ef G Tryz.f255 [a0,a1] m = Q3u G a0 a1 m:=X6 (r:=fun r m=>Q3u G (r 0) (r 1) m) rfl rfl (fun r m=>by kernel_rfl) m
def Qma:En:=⟨Q8q,Tryz.f255,Tryz.func255,by kernel_rfl,arg2 Q3u,Xf Qm9⟩
def Qfz (G:Gt)(p0 p1 p2:V)(m:M):R:=bp (some (aNew Q1i (Value.cells p0).toList m)) fun x0 m=>bp (some (aNew Q1i (Value.cells p1).toList m)) fun x1 m=>bp (pur (X4 false 1 p2 m) m) fun x2 m=>bp (pur (X4 true 11 x0 m) m) fun x3 m=>bp (pur (X4 false 1 p2 m) m) fun x4 m=>bp (pur (X4 true 11 x1 m) m) fun x5 m=>bp (Xj G.tab x2 [x3] m) fun x6 m=>ckB (again (pur (X4 false 1 p2 m) m) x4 && (again (pur (X4 true 11 x1 m) m) x5 && true)) (bp (Xj G.tab x4 [x5] m) fun x7 m=>bp (G.tab Q13b [x6,x7] m) fun x8 m=>some (x8,m))
theorem Q1ie (G:Gt)(a0 a1 a2:V)(m:M):ef G Tryz.f256 [a0,a1,a2] m = Qfz G a0 a1 a2 m:=X6 (r:=fun r m=>Qfz G (r 0) (r 1) (r 2) m) rfl rfl (fun r m=>by kernel_rfl) m
def Q1if:En:=⟨Qrj,Tryz.f256,Tryz.func256,by kernel_rfl,arg3 Qfz,Xr Q1ie⟩
def Q3i (G:Gt)(p0 p1:V)(m:M):R:=bp (pur (lenK 1 p0 m) m) fun x0 m=>bp (G.tab Qil [p0,x0,p1] m) fun x1 m=>some (.tuple ⟨[]⟩,m)
theorem Ql1 (G:Gt)(a0 a1:V)(m:M):ef G Tryz.f257 [a0,a1] m = Q3i G a0 a1 m:=X6 (r:=fun r m=>Q3i G (r 0) (r 1) m) rfl rfl (fun r m=>by kernel_rfl) m
def Ql2:En:=⟨Q7h,Tryz.f257,Tryz.func257,by kernel_rfl,arg2 Q3i,Xf Ql1⟩
def Q2n (G:Gt)(p0 p1:V)(m:M):R:=bp (pur (lenK 1 p0 m) m) fun x0 m=>bp (G.tab Qeo [p0,x0,p1] m) fun x1 m=>some (.tuple ⟨[]⟩,m)
theorem Qf3 (G:Gt)(a0 a1:V)(m:M):ef G Tryz.f259 [a0,a1] m = Q2n G a0 a1 m:=X6 (r:=fun r m=>Q2n G (r 0) (r 1) m) rfl rfl (fun r m=>by kernel_rfl) m
def Qf4:En:=⟨Q4u,Tryz.f259,Tryz.func259,by kernel_rfl,arg2 Q2n,Xf Qf3⟩
def Q22 (G:Gt)(p0 p1:V)(m:M):R:=bp (pur (lenK 1 p0 m) m) fun x0 m=>bp (G.tab Qd2 [p0,x0,p1] m) fun x1 m=>some (.tuple ⟨[]⟩,m)
theorem Qcv (G:Gt)(a0 a1:V)(m:M):ef G Tryz.f261 [a0,a1] m = Q22 G a0 a1 m:=X6 (r:=fun r m=>Q22 G (r 0) (r 1) m) rfl rfl (fun r m=>by kernel_rfl) m
def Qcw:En:=⟨Q3r,Tryz.f261,Tryz.func261,by kernel_rfl,arg2 Q22,Xf Qcv⟩
def Q3j (G:Gt)(p0 p1:V)(m:M):R:=bp (pur (lenK 1 p0 m) m) fun x0 m=>bp (G.tab Qim [p0,x0,p1] m) fun x1 m=>some (.tuple ⟨[]⟩,m)
theorem Ql3 (G:Gt)(a0 a1:V)(m:M):ef G Tryz.f263 [a0,a1] m = Q3j G a0 a1 m:=X6 (r:=fun r m=>Q3j G (r 0) (r 1) m) rfl rfl (fun r m=>by kernel_rfl) m
def Ql4:En:=⟨Q7i,Tryz.f263,Tryz.func263,by kernel_rfl,arg2 Q3j,Xf Ql3⟩
def Q7q (G:Gt)(k0:J4)(p6 p1 p0 p2:V)(m:M):R:=bp (pur (bin .mul true true .int p6 (.int .i64 2)) m) fun x0 m=>k0 x0 p1 p0 p2 m
def Qg0 (G:Gt)(k0:J4)(p7 p6 p1 p0 p2:V)(m:M):R:=bp (pur (bin .add false true .int p7 p6) m) fun x1 m=>bp (pur (bin .lss false true .int x1 p1) m) fun x2 m=>brb x2 (bp (G.tab Qg1 [p0,p7,x1,p1,p2] m) fun x3 m=>Q7q G k0 p6 p1 p0 p2 m) (Q7q G k0 p6 p1 p0 p2 m)
def Q7r (G:Gt)(k0:J4):Nat→V→V→V→V→V→V→M→R
 | 0,_,_,_,_,_,_,_=>none
 | i + 1,p8,p1,p0,p7,p6,p2,m=>bp (pur (bin .leq false true .int p8 p1) m) fun x4 m=>brb x4 (bp (pur (bin .add false true .int p7 p6) m) fun x5 m=>bp (G.tab Qg1 [p0,p7,x5,p8,p2] m) fun x6 m=>bp (pur (bin .mul true true .int (.int .i64 2) p6) m) fun x7 m=>bp (pur (bin .add false true .int p8 x7) m) fun x8 m=>(Q7r G k0 i) x8 p1 p0 p8 p6 p2 m) (Qg0 G k0 p7 p6 p1 p0 p2 m)
def Qg2 (G:Gt)(k0:J4)(p8 p1 p0 p7 p6 p2:V)(m:M):R:=Q7r G k0 G.rds p8 p1 p0 p7 p6 p2 m
def Qg3 (G:Gt)(k0:J4)(p6 p1 p0 p2:V)(m:M):R:=bp (pur (bin .mul true true .int (.int .i64 2) p6) m) fun x9 m=>Qg2 G k0 x9 p1 p0 (.int .i64 0) p6 p2 m
def Q14 (G:Gt):Nat→V→V→V→V→M→R
 | 0,_,_,_,_,_=>none
 | i + 1,p6,p1,p0,p2,m=>bp (pur (bin .lss false true .int p6 p1) m) fun x10 m=>brb x10 (Qg3 G (Q14 G i) p6 p1 p0 p2 m) (some (.tuple ⟨[]⟩,m))
def Qg4 (G:Gt)(p6 p1 p0 p2:V)(m:M):R:=Q14 G G.rds p6 p1 p0 p2 m
def Qg5 (G:Gt)(p0 p7 p1 p2 p6:V)(m:M):R:=bp (G.tab Q5c [p0,p7,p1,p2] m) fun x11 m=>Qg4 G p6 p1 p0 p2 m
def Q6y (G:Gt):Nat→V→V→V→V→V→V→M→R
 | 0,_,_,_,_,_,_,_=>none
 | i + 1,p8,p1,p0,p7,p2,p6,m=>bp (pur (bin .leq false true .int p8 p1) m) fun x12 m=>brb x12 (bp (G.tab Q5c [p0,p7,p8,p2] m) fun x13 m=>bp (pur (bin .add false true .int p8 p6) m) fun x14 m=>(Q6y G i) x14 p1 p0 p8 p2 p6 m) (Qg5 G p0 p7 p1 p2 p6 m)
def Qg6 (G:Gt)(p8 p1 p0 p7 p2 p6:V)(m:M):R:=Q6y G G.rds p8 p1 p0 p7 p2 p6 m
def Qg7 (G:Gt)(p6 p1 p0 p2:V)(m:M):R:=Qg6 G p6 p1 p0 (.int .i64 0) p2 p6 m
def Q8y (G:Gt)(p1 p0 p2:V)(m:M):R:=Qg7 G (.int .i64 20) p1 p0 p2 m
theorem Q13h (G:Gt)(a0 a1 a2:V)(m:M):ef G Tryz.f265 [a0,a1,a2] m = Q8y G a1 a0 a2 m:=X6 (r:=fun r m=>Q8y G (r 1) (r 0) (r 2) m) rfl rfl (tr (seqQ (f:=fun r m=>Qg7 G (r 6) (r 1) (r 0) (r 2) m) (tr (seqQ (f:=fun r m=>Qg6 G (r 8) (r 1) (r 0) (r 7) (r 2) (r 6) m) (tr (tr (seqQ (f:=fun r m=>Qg5 G (r 0) (r 7) (r 1) (r 2) (r 6) m) (tr (seqQ (f:=fun r m=>Qg4 G (r 6) (r 1) (r 0) (r 2) m) (tr (X7 (Xc (fun i r m=>Q14 G i (r 6) (r 1) (r 0) (r 2) m) (fun _ _=>rfl) (fun i0=>tr (seqQ (f:=fun r m=>Qg3 G (Q14 G i0) (r 6) (r 1) (r 0) (r 2) m) (tr (X7 (seqQ (f:=fun r m=>Qg2 G (Q14 G i0) (r 8) (r 1) (r 0) (r 7) (r 6) (r 2) m) (tr (tr (seqQ (f:=fun r m=>Qg0 G (Q14 G i0) (r 7) (r 6) (r 1) (r 0) (r 2) m) (tr (seqQ (f:=fun r m=>Q7q G (Q14 G i0) (r 6) (r 1) (r 0) (r 2) m)))) (X7 (Xc (fun i r m=>Q7r G (Q14 G i0) i (r 8) (r 1) (r 0) (r 7) (r 6) (r 2) m) (fun _ _=>rfl) (fun i1=>fun r m=>by kernel_rfl)))))))))))))))) (X7 (Xc (fun i r m=>Q6y G i (r 8) (r 1) (r 0) (r 7) (r 2) (r 6) m) (fun _ _=>rfl) (fun i0=>fun r m=>by kernel_rfl))))))))) m
def Q13i:En:=⟨Qia,Tryz.f265,Tryz.func265,by kernel_rfl,arg3 (fun G a0 a1 a2 m=>Q8y G a1 a0 a2 m),Xr Q13h⟩
end
end Go.Ab.Sh
