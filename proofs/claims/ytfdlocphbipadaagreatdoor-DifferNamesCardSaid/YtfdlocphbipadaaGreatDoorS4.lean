/-
  Functions of the program as plain definitions. No conditions.
-/
import Derived.Test.YtfdlocphbipadaaGreatDoorAb5
import Derived.Test.YtfdlocphbipadaaGreatDoorZ
import Derived.KernelRfl
import Derived.Test.YtfdlocphbipadaaGreatDoorProg
set_option linter.unusedVariables false
set_option maxRecDepth 100000
namespace Go.Ab.Sh
open Go Go.Ab Go.Proofs
noncomputable section
def Qxe (G:Gt)(p8:V)(m:M):R:=some (.tuple ⟨[p8,(.int .i64 0),(.int .i64 0)]⟩,m)
def Qxf (G:Gt)(k0:J3)(p9 p0 p8:V)(m:M):R:=bp (pur (bin .add true true .int p9 (.int .i64 1)) m) fun x0 m=>k0 x0 p0 p8 m
def Qiq (G:Gt)(k1:J4)(k0:J3)(p89 p8 p12 p9 p0:V)(m:M):R:=brb p89 (bp (pur (bin .sub true true .int p12 (.int .i64 1)) m) fun x1 m=>bp (pur (bin .sub true true .int p12 (.int .i64 1)) m) fun x2 m=>bp (pur (X3 12 p8 x2) m) fun x3 m=>bp (pur (X4 true 12 x3 m) m) fun x4 m=>bp (pur (X3 12 p8 p12) m) fun x5 m=>bp (pur (X4 true 12 x5 m) m) fun x6 m=>bp (pur (X3 12 p8 p12) m) fun x7 m=>bp (unt (X8 12 x7 x4 m)) fun _ m=>bp (pur (X3 12 p8 x1) m) fun x8 m=>bp (unt (X8 12 x8 x6 m)) fun _ m=>bp (pur (bin .sub true true .int p12 (.int .i64 1)) m) fun x9 m=>k1 x9 p8 p9 p0 m) (Qxf G k0 p9 p0 p8 m)
def Q6i (G:Gt)(k0:J3):Nat→V→V→V→V→M→R
 | 0,_,_,_,_,_=>none
 | i + 1,p12,p8,p9,p0,m=>bp (pur (bin .gtr true true .int p12 (.int .i64 0)) m) fun x10 m=>brt x10 (bp (pur (X3 12 p8 p12) m) fun x11 m=>bp (pur (X0 0 x11) m) fun x12 m=>bp (pur (X4 false 1 x12 m) m) fun x13 m=>bp (pur (bin .sub true true .int p12 (.int .i64 1)) m) fun x14 m=>bp (pur (X3 12 p8 x14) m) fun x15 m=>bp (pur (X0 0 x15) m) fun x16 m=>bp (pur (X4 false 1 x16 m) m) fun x17 m=>bp (pur (bin .lss false true .str x13 x17) m) fun x18 m=>Qiq G (Q6i G k0 i) k0 x18 p8 p12 p9 p0 m) (Qiq G (Q6i G k0 i) k0 (.bool false) p8 p12 p9 p0 m) (none)
def Qve (G:Gt)(k0:J3)(p12 p8 p9 p0:V)(m:M):R:=Q6i G k0 G.rds p12 p8 p9 p0 m
def Qvf (G:Gt)(k0:J3)(p9 p8 p0:V)(m:M):R:=Qve G k0 p9 p8 p9 p0 m
def Qvg (G:Gt)(k0:J3)(p8 p0 p9:V)(m:M):R:=bp (pur (X3 12 p0 p9) m) fun x19 m=>bp (pur (X4 true 12 x19 m) m) fun x20 m=>bp (G.tab Q1i4 [x20] m) fun x21 m=>bp (Xa Q5 Q1k 12 1 [(0,x21)] m) fun x22 m=>bp (apS Q5 12 264 p8 x22 m) fun x23 m=>Qvf G k0 p9 x23 p0 m
def Qvh (G:Gt)(k0:J3)(p10 p9 p8 p0:V)(m:M):R:=bp (pur (un .not p10) m) fun x24 m=>brb x24 (some (.tuple ⟨[(.slice none 0 0),p9,(.int .i64 121)]⟩,m)) (Qvg G k0 p8 p0 p9 m)
def Qir (G:Gt)(k1:J5)(p11 p9 p10 p0 p8:V)(m:M):R:=bp (pur (bin .add true true .int p11 (.int .i64 1)) m) fun x25 m=>k1 x25 p9 p10 p0 p8 m
def Qvi (G:Gt)(k1:J5)(p10 p0 p9 p11 p8:V)(m:M):R:=brt p10 (bp (pur (X3 12 p0 p9) m) fun x26 m=>bp (pur (X4 true 12 x26 m) m) fun x27 m=>bp (pur (X3 12 p0 p11) m) fun x28 m=>bp (pur (X4 true 12 x28 m) m) fun x29 m=>bp (G.tab Q1b3 [x27,x29] m) fun x30 m=>Qir G k1 p11 p9 x30 p0 p8 m) (Qir G k1 p11 p9 (.bool false) p0 p8 m) (none)
def Q6j (G:Gt)(k0:J3):Nat→V→V→V→V→V→M→R
 | 0,_,_,_,_,_,_=>none
 | i + 1,p11,p9,p10,p0,p8,m=>bp (pur (bin .lss false true .int p11 p9) m) fun x31 m=>brb x31 (Qvi G (Q6j G k0 i) p10 p0 p9 p11 p8 m) (Qvh G k0 p10 p9 p8 p0 m)
def Qvj (G:Gt)(k0:J3)(p11 p9 p10 p0 p8:V)(m:M):R:=Q6j G k0 G.rds p11 p9 p10 p0 p8 m
def Qxg (G:Gt)(k0:J3)(p9 p10 p0 p8:V)(m:M):R:=Qvj G k0 (.int .i64 0) p9 p10 p0 p8 m
def Qxh (G:Gt)(k0:J3)(p0 p9 p8:V)(m:M):R:=bp (pur (X3 12 p0 p9) m) fun x32 m=>bp (pur (X4 true 12 x32 m) m) fun x33 m=>bp (G.tab Q1e8 [x33] m) fun x34 m=>Qxg G k0 p9 x34 p0 p8 m
def Qf (G:Gt):Nat→V→V→V→M→R
 | 0,_,_,_,_=>none
 | i + 1,p9,p0,p8,m=>bp (pur (lenK 1 p0 m) m) fun x35 m=>bp (pur (bin .lss false true .int p9 x35) m) fun x36 m=>brb x36 (Qxh G (Qf G i) p0 p9 p8 m) (Qxe G p8 m)
def Qxi (G:Gt)(p9 p0 p8:V)(m:M):R:=Qf G G.rds p9 p0 p8 m
def Qxj (G:Gt)(p0 p8:V)(m:M):R:=Qxi G (.int .i64 0) p0 p8 m
def Qxk (G:Gt)(p0:V)(m:M):R:=Qxj G p0 (.slice none 0 0) m
def Qis (G:Gt):Nat→V→V→M→R
 | 0,_,_,_=>none
 | i + 1,p5,p0,m=>bp (pur (lenK 1 p0 m) m) fun x37 m=>bp (pur (bin .lss false true .int p5 x37) m) fun x38 m=>brb x38 (bp (pur (X3 12 p0 p5) m) fun x39 m=>bp (pur (X4 true 12 x39 m) m) fun x40 m=>bp (G.tab Q1e9 [x40] m) fun x41 m=>bp (pur (X5 x41 0) m) fun x42 m=>bp (pur (X5 x41 1) m) fun x43 m=>bp (pur (bin .neq true true .int x43 (.int .i64 0)) m) fun x44 m=>brb x44 (some (.tuple ⟨[(.slice none 0 0),p5,x43]⟩,m)) (bp (pur (bin .add true true .int p5 (.int .i64 1)) m) fun x45 m=>(Qis G i) x45 p0 m)) (Qxk G p0 m)
def Qvk (G:Gt)(p5 p0:V)(m:M):R:=Qis G G.rds p5 p0 m
def Qxl (G:Gt)(p0:V)(m:M):R:=Qvk G (.int .i64 0) p0 m
def Qxm (G:Gt)(p0:V)(m:M):R:=bp (pur (lenK 1 p0 m) m) fun x46 m=>bp (pur (bin .gtr true true .int x46 (.int .i64 32)) m) fun x47 m=>brb x47 (some (.tuple ⟨[(.slice none 0 0),(.int .i64 32),(.int .i64 121)]⟩,m)) (Qxl G p0 m)
def Qnd (G:Gt)(p0:V)(m:M):R:=Qxm G p0 m
theorem Q1qj (G:Gt)(a0:V)(m:M):ef G Tryz.f52 [a0] m = Qnd G a0 m:=X6 (r:=fun r m=>Qnd G (r 0) m) rfl rfl (tr (seqQ (f:=fun r m=>Qxm G (r 0) m) (tr (seqQ (f:=fun r m=>Qxl G (r 0) m) (tr (tr (seqQ (f:=fun r m=>Qxk G (r 0) m) (tr (seqQ (f:=fun r m=>Qxj G (r 0) (r 8) m) (tr (tr (seqQ (f:=fun r m=>Qxe G (r 8) m)) (seqQ (f:=fun r m=>Qxi G (r 9) (r 0) (r 8) m) (tr (X9 (Xb (fun i r m=>Qf G i (r 9) (r 0) (r 8) m) (fun _ _=>rfl) (fun i0=>tr (seqQ (f:=fun r m=>Qxh G (Qf G i0) (r 0) (r 9) (r 8) m) (tr (tr (seqQ (f:=fun r m=>Qxf G (Qf G i0) (r 9) (r 0) (r 8) m)) (X9 (seqQ (f:=fun r m=>Qxg G (Qf G i0) (r 9) (r 10) (r 0) (r 8) m) (tr (tr (seqQ (f:=fun r m=>Qvh G (Qf G i0) (r 10) (r 9) (r 8) (r 0) m) (tr (seqQ (f:=fun r m=>Qvg G (Qf G i0) (r 8) (r 0) (r 9) m) (tr (seqQ (f:=fun r m=>Qvf G (Qf G i0) (r 9) (r 8) (r 0) m) (tr (seqQ (f:=fun r m=>Qve G (Qf G i0) (r 12) (r 8) (r 9) (r 0) m) (tr (X9 (Xb (fun i r m=>Q6i G (Qf G i0) i (r 12) (r 8) (r 9) (r 0) m) (fun _ _=>rfl) (fun i1=>tr (tr seqD (seqQ (f:=fun r m=>Qiq G (Q6i G (Qf G i0) i1) (Qf G i0) (r 89) (r 8) (r 12) (r 9) (r 0) m)))))))))))))) (seqQ (f:=fun r m=>Qvj G (Qf G i0) (r 11) (r 9) (r 10) (r 0) (r 8) m) (tr (X9 (Xb (fun i r m=>Q6j G (Qf G i0) i (r 11) (r 9) (r 10) (r 0) (r 8) m) (fun _ _=>rfl) (fun i1=>tr (seqQ (f:=fun r m=>Qvi G (Q6j G (Qf G i0) i1) (r 10) (r 0) (r 9) (r 11) (r 8) m) (tr (seqQ (f:=fun r m=>Qir G (Q6j G (Qf G i0) i1) (r 11) (r 9) (r 10) (r 0) (r 8) m)))))))))))))))))))))))))) (seqQ (f:=fun r m=>Qvk G (r 5) (r 0) m) (tr (X9 (Xb (fun i r m=>Qis G i (r 5) (r 0) m) (fun _ _=>rfl) (fun i0=>fun r m=>by kernel_rfl))))))))))) m
def Q1qk:En:=⟨Q13c,Tryz.f52,Tryz.func52,by kernel_rfl,arg1 Qnd,Xl Q1qj⟩
def Qj3 (G:Gt)(p6:V)(m:M):R:=some (p6,m)
def Q1mz (G:Gt)(p1 p0 p2:V)(m:M):R:=bp (pur (bin .geq true true .int p1 (.int .i64 0)) m) fun x0 m=>brb x0 (bp (pur (X7 p0) m) fun x1 m=>bp (pur (X0 1 x1) m) fun x2 m=>bp (pur (X4 false 1 x2 m) m) fun x3 m=>bp (pur (lenK 1 x3 m) m) fun x4 m=>bp (pur (bin .lss false true .int p1 x4) m) fun x5 m=>brb x5 (bp (pur (bin .eql true true .str p2 (.string ⟨#[]⟩)) m) fun x6 m=>brb x6 (Qj3 G (.bool true) m) (bp (pur (X7 p0) m) fun x7 m=>bp (pur (X0 1 x7) m) fun x8 m=>bp (pur (X4 false 1 x8 m) m) fun x9 m=>bp (pur (X3 12 x9 p1) m) fun x10 m=>bp (pur (X0 2 x10) m) fun x11 m=>bp (pur (X4 false 1 x11 m) m) fun x12 m=>bp (G.tab Q151 [x12,p2] m) fun x13 m=>Qj3 G x13 m)) (Qj3 G (.bool false) m)) (Qj3 G (.bool false) m)
def Q1ea (G:Gt)(p1 p0 p2:V)(m:M):R:=Q1mz G p1 p0 p2 m
theorem Q26s (G:Gt)(a0 a1 a2:V)(m:M):ef G Tryz.f53 [a0,a1,a2] m = Q1ea G a1 a0 a2 m:=X6 (r:=fun r m=>Q1ea G (r 1) (r 0) (r 2) m) rfl rfl (tr (seqQ (f:=fun r m=>Q1mz G (r 1) (r 0) (r 2) m) (tr (seqQ (f:=fun r m=>Qj3 G (r 6) m))))) m
def Q26t:En:=⟨Q1eb,Tryz.f53,Tryz.func53,by kernel_rfl,arg3 (fun G a0 a1 a2 m=>Q1ea G a1 a0 a2 m),Xr Q26s⟩
def Q1m4 (G:Gt)(p0:V)(m:M):R:=bp (some (aNew Q2am [(.slice none 0 0)] m)) fun x0 m=>bp (G.tab Q26u [p0,(.func (.func Q1rh) ⟨[]⟩ ⟨[x0]⟩)] m) fun x1 m=>bp (pur (X4 false 1 x0 m) m) fun x2 m=>some (x2,m)
theorem Q2an (G:Gt)(a0:V)(m:M):ef G Tryz.f54 [a0] m = Q1m4 G a0 m:=X6 (r:=fun r m=>Q1m4 G (r 0) m) rfl rfl (fun r m=>by kernel_rfl) m
def Q2ao:En:=⟨Q1x2,Tryz.f54,Tryz.func54,by kernel_rfl,arg1 Q1m4,Xl Q2an⟩
def Q1ec (G:Gt)(m:M):R:=some ((.bool false),m)
def Qtg (G:Gt):Nat→V→V→V→M→R
 | 0,_,_,_,_=>none
 | i + 1,p8,p7,p2,m=>bp (pur (lenK 1 p7 m) m) fun x0 m=>bp (pur (bin .lss false true .int p8 x0) m) fun x1 m=>brb x1 (bp (pur (X3 1 p7 p8) m) fun x2 m=>bp (pur (X4 false 1 x2 m) m) fun x3 m=>bp (pur (bin .eql false true .str x3 p2) m) fun x4 m=>brb x4 (some ((.bool true),m)) (bp (pur (bin .add true true .int p8 (.int .i64 1)) m) fun x5 m=>(Qtg G i) x5 p7 p2 m)) (Q1ec G m)
def Q1ed (G:Gt)(p8 p7 p2:V)(m:M):R:=Qtg G G.rds p8 p7 p2 m
def Q1ee (G:Gt)(p7 p2:V)(m:M):R:=Q1ed G (.int .i64 0) p7 p2 m
def Q1ef (G:Gt)(p0 p1 p2:V)(m:M):R:=bp (pur (X7 p0) m) fun x6 m=>bp (pur (X0 0 x6) m) fun x7 m=>bp (pur (X4 false 1 x7 m) m) fun x8 m=>bp (pur (X3 12 x8 p1) m) fun x9 m=>bp (pur (X4 true 12 x9 m) m) fun x10 m=>bp (G.tab Qw0 [x10] m) fun x11 m=>Q1ee G x11 p2 m
def Qth (G:Gt)(p19 p0 p1 p2:V)(m:M):R:=brb p19 (some ((.bool false),m)) (Q1ef G p0 p1 p2 m)
def Q1eg (G:Gt)(p1 p0 p2:V)(m:M):R:=bp (pur (bin .lss true true .int p1 (.int .i64 0)) m) fun x12 m=>brb x12 (Qth G (.bool true) p0 p1 p2 m) (bp (pur (X7 p0) m) fun x13 m=>bp (pur (X0 0 x13) m) fun x14 m=>bp (pur (X4 false 1 x14 m) m) fun x15 m=>bp (pur (lenK 1 x15 m) m) fun x16 m=>bp (pur (bin .geq false true .int p1 x16) m) fun x17 m=>Qth G x17 p0 p1 p2 m)
def Qzk (G:Gt)(p1 p0 p2:V)(m:M):R:=Q1eg G p1 p0 p2 m
theorem Q20n (G:Gt)(a0 a1 a2:V)(m:M):ef G Tryz.f55 [a0,a1,a2] m = Qzk G a1 a0 a2 m:=X6 (r:=fun r m=>Qzk G (r 1) (r 0) (r 2) m) rfl rfl (tr (seqQ (f:=fun r m=>Q1eg G (r 1) (r 0) (r 2) m) (tr (tr (seqQ (f:=fun r m=>Q1ef G (r 0) (r 1) (r 2) m) (tr (seqQ (f:=fun r m=>Q1ee G (r 7) (r 2) m) (tr (tr (seqQ (f:=fun r m=>Q1ec G m)) (seqQ (f:=fun r m=>Q1ed G (r 8) (r 7) (r 2) m) (tr (X9 (Xb (fun i r m=>Qtg G i (r 8) (r 7) (r 2) m) (fun _ _=>rfl) (fun i0=>fun r m=>by kernel_rfl)))))))))) (seqQ (f:=fun r m=>Qth G (r 19) (r 0) (r 1) (r 2) m)))))) m
def Q20o:En:=⟨Q1kd,Tryz.f55,Tryz.func55,by kernel_rfl,arg3 (fun G a0 a1 a2 m=>Qzk G a1 a0 a2 m),Xr Q20n⟩
def Qw1 (G:Gt)(p0:V)(m:M):R:=bp (some (aNew Q5 (Value.cells p0).toList m)) fun x0 m=>bp (Xa Q50 [(.string ⟨#[]⟩)] 1 1 [(0,(.string ⟨#[]⟩))] m) fun x1 m=>bp (pur (X0 2 x0) m) fun x2 m=>bp (pur (X4 false 1 x2 m) m) fun x3 m=>bp (apS Q50 1 16 x1 x3 m) fun x4 m=>some (x4,m)
theorem Q1z2 (G:Gt)(a0:V)(m:M):ef G Tryz.f56 [a0] m = Qw1 G a0 m:=X6 (r:=fun r m=>Qw1 G (r 0) m) rfl rfl (fun r m=>by kernel_rfl) m
def Q1z3:En:=⟨Qw0,Tryz.f56,Tryz.func56,by kernel_rfl,arg1 Qw1,Xl Q1z2⟩
def Qzl (G:Gt)(p4 p5:V)(m:M):R:=some (.tuple ⟨[p4,p5]⟩,m)
def Qli (G:Gt)(k0:J5)(p7 p6 p0 p4 p5:V)(m:M):R:=bp (pur (bin .add true true .int p7 (.int .i64 1)) m) fun x0 m=>k0 x0 p6 p0 p4 p5 m
def Qzm (G:Gt)(k0:J5)(p0 p6 p7 p4 p5:V)(m:M):R:=bp (pur (X3 2 p6 p7) m) fun x1 m=>bp (pur (X4 true 2 x1 m) m) fun x2 m=>bp (G.tab Q1ke [p0,x2] m) fun x3 m=>bp (pur (X5 x3 0) m) fun x4 m=>bp (pur (X5 x3 1) m) fun x5 m=>bp (some (aNew Qdz Q8s m)) fun x6 m=>bp (unt (X8 4 x6 x4 m)) fun _ m=>brb x5 (bp (pur (X4 true 4 x6 m) m) fun x7 m=>bp (Xa Qdz Q8s 4 1 [(0,x7)] m) fun x8 m=>bp (apS Qdz 4 48 p4 x8 m) fun x9 m=>Qli G k0 p7 p6 p0 x9 p5 m) (bp (pur (X3 2 p6 p7) m) fun x10 m=>bp (pur (X4 true 2 x10 m) m) fun x11 m=>bp (Xa Qu Q1g 2 1 [(0,x11)] m) fun x12 m=>bp (apS Qu 2 16 p5 x12 m) fun x13 m=>Qli G k0 p7 p6 p0 p4 x13 m)
def Q7y (G:Gt):Nat→V→V→V→V→V→M→R
 | 0,_,_,_,_,_,_=>none
 | i + 1,p7,p6,p0,p4,p5,m=>bp (pur (lenK 1 p6 m) m) fun x14 m=>bp (pur (bin .lss false true .int p7 x14) m) fun x15 m=>brb x15 (Qzm G (Q7y G i) p0 p6 p7 p4 p5 m) (Qzl G p4 p5 m)
def Qzn (G:Gt)(p7 p6 p0 p4 p5:V)(m:M):R:=Q7y G G.rds p7 p6 p0 p4 p5 m
def Qzo (G:Gt)(p6 p0 p4 p5:V)(m:M):R:=Qzn G (.int .i64 0) p6 p0 p4 p5 m
def Qzp (G:Gt)(p0 p4 p5:V)(m:M):R:=bp (G.tab Q13d [p0] m) fun x16 m=>Qzo G x16 p0 p4 p5 m
def Qzq (G:Gt)(p0 p4:V)(m:M):R:=Qzp G p0 p4 (.slice none 0 0) m
def Qzr (G:Gt)(p0:V)(m:M):R:=Qzq G p0 (.slice none 0 0) m
def Qoo (G:Gt)(p0:V)(m:M):R:=Qzr G p0 m
theorem Q1rx (G:Gt)(a0:V)(m:M):ef G Tryz.f57 [a0] m = Qoo G a0 m:=X6 (r:=fun r m=>Qoo G (r 0) m) rfl rfl (tr (seqQ (f:=fun r m=>Qzr G (r 0) m) (tr (seqQ (f:=fun r m=>Qzq G (r 0) (r 4) m) (tr (seqQ (f:=fun r m=>Qzp G (r 0) (r 4) (r 5) m) (tr (seqQ (f:=fun r m=>Qzo G (r 6) (r 0) (r 4) (r 5) m) (tr (tr (seqQ (f:=fun r m=>Qzl G (r 4) (r 5) m)) (seqQ (f:=fun r m=>Qzn G (r 7) (r 6) (r 0) (r 4) (r 5) m) (tr (X9 (Xb (fun i r m=>Q7y G i (r 7) (r 6) (r 0) (r 4) (r 5) m) (fun _ _=>rfl) (fun i0=>tr (seqQ (f:=fun r m=>Qzm G (Q7y G i0) (r 0) (r 6) (r 7) (r 4) (r 5) m) (tr (seqQ (f:=fun r m=>Qli G (Q7y G i0) (r 7) (r 6) (r 0) (r 4) (r 5) m))))))))))))))))))) m
def Q1ry:En:=⟨Q16a,Tryz.f57,Tryz.func57,by kernel_rfl,arg1 Qoo,Xl Q1rx⟩
def Q13e (G:Gt)(m:M):R:=some ((.slice none 0 0),m)
def Qne (G:Gt)(k0:J4)(p32 p3 p7 p1 p2:V)(m:M):R:=brb p32 (bp (pur (X0 0 p3) m) fun x0 m=>bp (pur (X4 false 1 x0 m) m) fun x1 m=>bp (pur (X3 3 x1 p7) m) fun x2 m=>bp (pur (X0 2 x2) m) fun x3 m=>bp (pur (X4 false 1 x3 m) m) fun x4 m=>some (x4,m)) (bp (pur (bin .add true true .int p7 (.int .i64 1)) m) fun x5 m=>k0 x5 p3 p1 p2 m)
def Q13f (G:Gt)(k0:J4)(p3 p7 p1 p2:V)(m:M):R:=bp (pur (X0 0 p3) m) fun x6 m=>bp (pur (X4 false 1 x6 m) m) fun x7 m=>bp (pur (X3 3 x7 p7) m) fun x8 m=>bp (pur (X0 0 x8) m) fun x9 m=>bp (pur (X4 false 1 x9 m) m) fun x10 m=>bp (pur (bin .eql false true .int x10 p1) m) fun x11 m=>brb x11 (bp (pur (X0 0 p3) m) fun x12 m=>bp (pur (X4 false 1 x12 m) m) fun x13 m=>bp (pur (X3 3 x13 p7) m) fun x14 m=>bp (pur (X0 1 x14) m) fun x15 m=>bp (pur (X4 false 1 x15 m) m) fun x16 m=>bp (pur (bin .eql false true .str x16 p2) m) fun x17 m=>Qne G k0 x17 p3 p7 p1 p2 m) (Qne G k0 (.bool false) p3 p7 p1 p2 m)
def Q93 (G:Gt):Nat→V→V→V→V→M→R
 | 0,_,_,_,_,_=>none
 | i + 1,p7,p3,p1,p2,m=>bp (pur (X0 0 p3) m) fun x18 m=>bp (pur (X4 false 1 x18 m) m) fun x19 m=>bp (pur (lenK 1 x19 m) m) fun x20 m=>bp (pur (bin .lss false true .int p7 x20) m) fun x21 m=>brb x21 (Q13f G (Q93 G i) p3 p7 p1 p2 m) (Q13e G m)
def Q13g (G:Gt)(p7 p3 p1 p2:V)(m:M):R:=Q93 G G.rds p7 p3 p1 p2 m
def Q13h (G:Gt)(p3 p1 p2:V)(m:M):R:=Q13g G (.int .i64 0) p3 p1 p2 m
def Qqm (G:Gt)(p0 p1 p2:V)(m:M):R:=bp (some (aNew Q2db (Value.cells p0).toList m)) fun x22 m=>Q13h G x22 p1 p2 m
theorem Q1th (G:Gt)(a0 a1 a2:V)(m:M):ef G Tryz.f58 [a0,a1,a2] m = Qqm G a0 a1 a2 m:=X6 (r:=fun r m=>Qqm G (r 0) (r 1) (r 2) m) rfl rfl (tr (seqQ (f:=fun r m=>Q13h G (r 3) (r 1) (r 2) m) (tr (tr (seqQ (f:=fun r m=>Q13e G m)) (seqQ (f:=fun r m=>Q13g G (r 7) (r 3) (r 1) (r 2) m) (tr (X9 (Xb (fun i r m=>Q93 G i (r 7) (r 3) (r 1) (r 2) m) (fun _ _=>rfl) (fun i0=>tr (seqQ (f:=fun r m=>Q13f G (Q93 G i0) (r 3) (r 7) (r 1) (r 2) m) (tr (tr seqD (X9 (seqQ (f:=fun r m=>Qne G (Q93 G i0) (r 32) (r 3) (r 7) (r 1) (r 2) m))))))))))))))) m
def Q1ti:En:=⟨Q1b4,Tryz.f58,Tryz.func58,by kernel_rfl,arg3 Qqm,Xr Q1th⟩
end
end Go.Ab.Sh

set_option linter.unusedVariables false
set_option maxRecDepth 100000
namespace Go.Ab.Sh
open Go Go.Ab Go.Proofs
noncomputable section
def Qti (G:Gt)(p29 p6 p5 p3 p1:V)(m:M):R:=brb p29 (bp (pur (Xe Q3b [(0,1),(1,1)] []) m) fun x0 m=>bp (unt (X8 2 p6 x0 m)) fun _ m=>ob (ob (X4 true 2 p6 m) fun v=>ob (some [(.int .i64 1)]) fun l=>some (v :: l)) fun l=>some (Xy l,m)) (bp (some (aNew Q26v [.nilFunc] m)) fun x1 m=>bp (unt (X8 1 x1 (.func (.func Q1eh) ⟨[]⟩ ⟨[p5,p3]⟩) m)) fun _ m=>bp (some (Xo m)) fun x2 m=>bp (pur (Xe Q3b [(0,1),(1,1)] []) m) fun x3 m=>bp (unt (Xd .int x2 (.int .i32 0) x3 m)) fun _ m=>bp (pur (Xe Q3b [(0,1),(1,1)] [(1,(.int .u64 1))]) m) fun x4 m=>bp (unt (Xd .int x2 (.int .i32 1) x4 m)) fun _ m=>bp (some (aNew Q1tj [(.map none)] m)) fun x5 m=>bp (unt (X8 1 x5 x2 m)) fun _ m=>bp (some (aNew Q1tk [.nilFunc] m)) fun x6 m=>let x7:V:=(.func (.func Q1ei) ⟨[]⟩ ⟨[x5,p3,x6,x1]⟩);bp (unt (X8 1 x6 x7 m)) fun _ m=>bp (pur (X4 false 1 x6 m) m) fun x8 m=>bp (conv (.int .i32) p1 m) fun x9 m=>bp (pur (X4 false 1 x1 m) m) fun x10 m=>bp (conv (.int .i32) p1 m) fun x11 m=>bp (Xj G.tab x8 [x9] m) fun x12 m=>ckB (again (pur (X4 false 1 x1 m) m) x10 && true) (bp (Xj G.tab x10 [x11] m) fun x13 m=>bp (G.tab Q1rz [x12,x13] m) fun x14 m=>bp (unt (X8 2 p6 x14 m)) fun _ m=>ob (ob (X4 true 2 p6 m) fun v=>ob (some [(.int .i64 0)]) fun l=>some (v :: l)) fun l=>some (Xy l,m)))
def Q1ej (G:Gt)(p3 p1 p5 p6:V)(m:M):R:=bp (pur (X4 false 1 p3 m) m) fun x15 m=>bp (pur (X4 false 1 p5 m) m) fun x16 m=>bp (G.tab Q1kf [x15,p1,x16] m) fun x17 m=>bp (pur (un .not x17) m) fun x18 m=>brb x18 (Qti G (.bool true) p6 p5 p3 p1 m) (bp (pur (X4 false 1 p5 m) m) fun x19 m=>bp (pur (lenK 1 x19 m) m) fun x20 m=>bp (pur (bin .gtr true true .int x20 (.int .i64 127)) m) fun x21 m=>Qti G x21 p6 p5 p3 p1 m)
def Q1ek (G:Gt)(p3 p1 p6 p5:V)(m:M):R:=bp (pur (X4 false 1 p3 m) m) fun x22 m=>bp (Xa Q60 [(.int .i64 0)] 1 1 [(0,p1)] m) fun x23 m=>bp (G.tab Q32 [x22,x23] m) fun x24 m=>bp (pur (bin .neq true true .int x24 (.int .i64 0)) m) fun x25 m=>brb x25 (bp (pur (Xe Q3b [(0,1),(1,1)] []) m) fun x26 m=>bp (unt (X8 2 p6 x26 m)) fun _ m=>ob (ob (X4 true 2 p6 m) fun v=>ob (some [x24]) fun l=>some (v :: l)) fun l=>some (Xy l,m)) (Q1ej G p3 p1 p5 p6 m)
def Qzs (G:Gt)(p0 p2 p1:V)(m:M):R:=bp (some (aNew Q39 (Value.cells p0).toList m)) fun x27 m=>bp (some (aNew Q28q (Value.cells p2).toList m)) fun x28 m=>bp (some (aNew Qgd Q3b m)) fun x29 m=>Q1ek G x27 p1 x29 x28 m
theorem Q20p (G:Gt)(a0 a1 a2:V)(m:M):ef G Tryz.f59 [a0,a1,a2] m = Qzs G a0 a2 a1 m:=X6 (r:=fun r m=>Qzs G (r 0) (r 2) (r 1) m) rfl rfl (tr (seqQ (f:=fun r m=>Q1ek G (r 3) (r 1) (r 6) (r 5) m) (tr (seqQ (f:=fun r m=>Q1ej G (r 3) (r 1) (r 5) (r 6) m) (tr (tr seqD (seqQ (f:=fun r m=>Qti G (r 29) (r 6) (r 5) (r 3) (r 1) m)))))))) m
def Q20q:En:=⟨Q1kg,Tryz.f59,Tryz.func59,by kernel_rfl,arg3 (fun G a0 a1 a2 m=>Qzs G a0 a2 a1 m),Xr Q20p⟩
def Q24t (G:Gt)(p3:V)(m:M):R:=some (p3,m)
def Q1s0 (G:Gt):Nat→V→V→V→M→R
 | 0,_,_,_,_=>none
 | i + 1,p5,p3,p0,m=>bp (pur (bin .lss true true .int p5 (.int .i64 104)) m) fun x0 m=>brb x0 (bp (Xj G.tab p0 [p5] m) fun x1 m=>bp (Xa Q60 [(.int .i64 0)] 1 1 [(0,x1)] m) fun x2 m=>bp (apS Q60 1 8 p3 x2 m) fun x3 m=>bp (pur (bin .add true true .int p5 (.int .i64 1)) m) fun x4 m=>(Q1s0 G i) x4 x3 p0 m) (Q24t G p3 m)
def Q24u (G:Gt)(p5 p3 p0:V)(m:M):R:=Q1s0 G G.rds p5 p3 p0 m
def Q24v (G:Gt)(p3 p0:V)(m:M):R:=Q24u G (.int .i64 0) p3 p0 m
def Q24w (G:Gt)(p0:V)(m:M):R:=Q24v G (.slice none 0 0) p0 m
def Q20r (G:Gt)(p0:V)(m:M):R:=Q24w G p0 m
theorem Q2fz (G:Gt)(a0:V)(m:M):ef G Tryz.f60 [a0] m = Q20r G a0 m:=X6 (r:=fun r m=>Q20r G (r 0) m) rfl rfl (tr (seqQ (f:=fun r m=>Q24w G (r 0) m) (tr (seqQ (f:=fun r m=>Q24v G (r 3) (r 0) m) (tr (tr (seqQ (f:=fun r m=>Q24t G (r 3) m)) (seqQ (f:=fun r m=>Q24u G (r 5) (r 3) (r 0) m) (tr (X9 (Xb (fun i r m=>Q1s0 G i (r 5) (r 3) (r 0) m) (fun _ _=>rfl) (fun i0=>fun r m=>by kernel_rfl))))))))))) m
def Q2g0:En:=⟨Q29c,Tryz.f60,Tryz.func60,by kernel_rfl,arg1 Q20r,Xl Q2fz⟩
def Qjs (G:Gt)(m:M):R:=some ((.int .i64 0),m)
def Q1b (G:Gt):Nat→V→V→V→V→M→R
 | 0,_,_,_,_,_=>none
 | i + 1,p11,p10,p9,p0,m=>bp (pur (bin .lss false true .int p11 p10) m) fun x0 m=>brb x0 (bp (pur (X3 1 p9 p11) m) fun x1 m=>bp (pur (X4 false 1 x1 m) m) fun x2 m=>bp (pur (X7 p0) m) fun x3 m=>bp (pur (X0 5 x3) m) fun x4 m=>bp (pur (X4 false 1 x4 m) m) fun x5 m=>bp (pur (Xh .int (.bool false) false x5 x2 m) m) fun x6 m=>bp (pur (un .not x6) m) fun x7 m=>brb x7 (some ((.int .i64 1),m)) (bp (pur (bin .add true true .int p11 (.int .i64 1)) m) fun x8 m=>(Q1b G i) x8 p10 p9 p0 m)) (Qjs G m)
def Qjt (G:Gt)(p11 p10 p9 p0:V)(m:M):R:=Q1b G G.rds p11 p10 p9 p0 m
def Qju (G:Gt)(p1 p0:V)(m:M):R:=bp (pur (lenK 1 p1 m) m) fun x9 m=>Qjt G (.int .i64 0) x9 p1 p0 m
def Qjv (G:Gt)(p0 p1:V)(m:M):R:=bp (pur (binP m .eql true true .ptr p0 (.pointer none)) m) fun x10 m=>brb x10 (some ((.int .i64 2),m)) (Qju G p1 p0 m)
def Q3c (G:Gt)(p0 p1:V)(m:M):R:=Qjv G p0 p1 m
theorem Q20s (G:Gt)(a0 a1:V)(m:M):ef G Tryz.f61 [a0,a1] m = Q3c G a0 a1 m:=X6 (r:=fun r m=>Q3c G (r 0) (r 1) m) rfl rfl (tr (seqQ (f:=fun r m=>Qjv G (r 0) (r 1) m) (tr (seqQ (f:=fun r m=>Qju G (r 1) (r 0) m) (tr (tr (seqQ (f:=fun r m=>Qjs G m)) (seqQ (f:=fun r m=>Qjt G (r 11) (r 10) (r 9) (r 0) m) (tr (X9 (Xb (fun i r m=>Q1b G i (r 11) (r 10) (r 9) (r 0) m) (fun _ _=>rfl) (fun i0=>fun r m=>by kernel_rfl))))))))))) m
def Qzt:En:=⟨Q32,Tryz.f61,Tryz.func61,by kernel_rfl,arg2 Q3c,Xg Q20s⟩
def Qw2 (G:Gt)(p2 p1:V)(m:M):R:=bp (pur (X4 false 1 p2 m) m) fun x0 m=>bp (pur (X7 x0) m) fun x1 m=>bp (pur (X0 5 x1) m) fun x2 m=>bp (pur (X4 false 1 x2 m) m) fun x3 m=>bp (conv (.int .i64) p1 m) fun x4 m=>bp (unt (Xd .int x3 x4 (.bool true) m)) fun _ m=>bp (conv (.int .i64) p1 m) fun x5 m=>some (.tuple ⟨[x5,(.int .i64 0)]⟩,m)
def Q9p (G:Gt):Nat→V→V→V→V→V→M→R
 | 0,_,_,_,_,_,_=>none
 | i + 1,p32,p31,p30,p2,p1,m=>bp (pur (bin .lss false true .int p32 p31) m) fun x6 m=>brb x6 (bp (pur (X3 1 p30 p32) m) fun x7 m=>bp (pur (X4 false 1 x7 m) m) fun x8 m=>bp (pur (X4 false 1 p2 m) m) fun x9 m=>bp (pur (X7 x9) m) fun x10 m=>bp (pur (X0 6 x10) m) fun x11 m=>bp (pur (X4 false 1 x11 m) m) fun x12 m=>bp (unt (Xd .int x12 x8 (.bool true) m)) fun _ m=>bp (pur (bin .add true true .int p32 (.int .i64 1)) m) fun x13 m=>(Q9p G i) x13 p31 p30 p2 p1 m) (Qw2 G p2 p1 m)
def Qw3 (G:Gt)(p32 p31 p30 p2 p1:V)(m:M):R:=Q9p G G.rds p32 p31 p30 p2 p1 m
def Qw4 (G:Gt)(p6 p2 p1:V)(m:M):R:=bp (pur (X4 false 1 p6 m) m) fun x14 m=>bp (pur (lenK 1 x14 m) m) fun x15 m=>Qw3 G (.int .i64 0) x15 x14 p2 p1 m
def Qw5 (G:Gt)(p2 p6 p1:V)(m:M):R:=bp (pur (X4 false 1 p2 m) m) fun x16 m=>bp (pur (X7 x16) m) fun x17 m=>bp (pur (X0 6 x17) m) fun x18 m=>bp (pur (X4 false 1 x18 m) m) fun x19 m=>bp (pur (lenK 2 x19 m) m) fun x20 m=>bp (pur (X4 false 1 p6 m) m) fun x21 m=>bp (pur (lenK 1 x21 m) m) fun x22 m=>bp (pur (bin .add false true .int x20 x22) m) fun x23 m=>bp (pur (X4 false 1 p2 m) m) fun x24 m=>bp (pur (X7 x24) m) fun x25 m=>bp (pur (X0 1 x25) m) fun x26 m=>bp (pur (X4 false 1 x26 m) m) fun x27 m=>bp (pur (bin .gtr false true .int x23 x27) m) fun x28 m=>brb x28 (some (.tuple ⟨[(.int .i64 0),(.int .i64 3)]⟩,m)) (Qw4 G p6 p2 p1 m)
def Qw6 (G:Gt)(p8 p1 p2 p6:V)(m:M):R:=bp (pur (X4 false 1 p8 m) m) fun x29 m=>bp (Xj G.tab x29 [p1] m) fun x30 m=>Qw5 G p2 p6 p1 m
def Qw7 (G:Gt)(p7 p2 p6 p8 p1:V)(m:M):R:=bp (unt (X8 1 p8 (.func (.func Q2k) ⟨[]⟩ ⟨[p7,p2,p6,p8]⟩) m)) fun _ m=>Qw6 G p8 p1 p2 p6 m
def Qw8 (G:Gt)(p7 p2 p6 p1:V)(m:M):R:=bp (some (aNew Q1ju [.nilFunc] m)) fun x31 m=>Qw7 G p7 p2 p6 x31 p1 m
def Qml (G:Gt)(p2 p6 p1:V)(m:M):R:=bp (some (Xo m)) fun x32 m=>bp (unt (Xd .int x32 (.int .i32 0) (.bool true) m)) fun _ m=>bp (unt (Xd .int x32 (.int .i32 1) (.bool true) m)) fun _ m=>bp (some (aNew Qtj [(.map none)] m)) fun x33 m=>bp (unt (X8 1 x33 x32 m)) fun _ m=>Qw8 G x33 p2 p6 p1 m
def Qfh (G:Gt)(p2 p1:V)(m:M):R:=bp (some (aNew Q1b5 [(.slice none 0 0)] m)) fun x34 m=>Qml G p2 x34 p1 m
def Q4x (G:Gt)(p0 p1:V)(m:M):R:=bp (some (aNew Q39 (Value.cells p0).toList m)) fun x35 m=>Qfh G x35 p1 m
theorem Q23s (G:Gt)(a0 a1:V)(m:M):ef G Tryz.f62 [a0,a1] m = Q4x G a0 a1 m:=X6 (r:=fun r m=>Q4x G (r 0) (r 1) m) rfl rfl (tr (seqQ (f:=fun r m=>Qfh G (r 2) (r 1) m) (tr (seqQ (f:=fun r m=>Qml G (r 2) (r 6) (r 1) m) (tr (seqQ (f:=fun r m=>Qw8 G (r 7) (r 2) (r 6) (r 1) m) (tr (seqQ (f:=fun r m=>Qw7 G (r 7) (r 2) (r 6) (r 8) (r 1) m) (tr (seqQ (f:=fun r m=>Qw6 G (r 8) (r 1) (r 2) (r 6) m) (tr (seqQ (f:=fun r m=>Qw5 G (r 2) (r 6) (r 1) m) (tr (seqQ (f:=fun r m=>Qw4 G (r 6) (r 2) (r 1) m) (tr (tr (seqQ (f:=fun r m=>Qw2 G (r 2) (r 1) m)) (seqQ (f:=fun r m=>Qw3 G (r 32) (r 31) (r 30) (r 2) (r 1) m) (tr (X9 (Xb (fun i r m=>Q9p G i (r 32) (r 31) (r 30) (r 2) (r 1) m) (fun _ _=>rfl) (fun i0=>fun r m=>by kernel_rfl))))))))))))))))))))) m
def Q152:En:=⟨Q6p,Tryz.f62,Tryz.func62,by kernel_rfl,arg2 Q4x,Xg Q23s⟩
def Q44 (G:Gt)(p29 p5 p6 p7 p4:V)(m:M):R:=brb p29 (bp (pur (X4 false 1 p5 m) m) fun x2 m=>some (x2,m)) (bp (pur (X4 false 1 p5 m) m) fun x3 m=>bp (pur (X4 false 1 p6 m) m) fun x4 m=>bp (pur (X4 false 1 p7 m) m) fun x5 m=>bp (pur (X41 Q1el 1 [(0,x3),(1,x4),(2,x5)]) m) fun x6 m=>bp (some (aNew Qtk Q1el m)) fun x7 m=>bp (unt (X8 3 x7 x6 m)) fun _ m=>bp (pur (X4 false 1 p4 m) m) fun x8 m=>bp (pur (X7 x8) m) fun x9 m=>bp (pur (X0 4 x9) m) fun x10 m=>bp (pur (X4 false 1 x10 m) m) fun x11 m=>bp (pur (X4 true 3 x7 m) m) fun x12 m=>bp (pur (Xh (.struct [(0,1,false,.int),(1,1,false,.int),(2,1,false,.int)]) (.int .i32 0) true x11 x12 m) m) fun x13 m=>bp (pur (X5 x13 0) m) fun x14 m=>bp (pur (X5 x13 1) m) fun x15 m=>brb x15 (some (x14,m)) (bp (pur (X4 false 1 p4 m) m) fun x16 m=>bp (pur (X7 x16) m) fun x17 m=>bp (pur (X0 2 x17) m) fun x18 m=>bp (pur (X4 false 1 x18 m) m) fun x19 m=>bp (pur (X4 false 1 p5 m) m) fun x20 m=>bp (pur (X3 3 x19 x20) m) fun x21 m=>bp (pur (X0 0 x21) m) fun x22 m=>bp (pur (X4 false 1 x22 m) m) fun x23 m=>bp (pur (X4 false 1 p4 m) m) fun x24 m=>bp (pur (X7 x24) m) fun x25 m=>bp (pur (X0 2 x25) m) fun x26 m=>bp (pur (X4 false 1 x26 m) m) fun x27 m=>bp (pur (X4 false 1 p6 m) m) fun x28 m=>bp (pur (X3 3 x27 x28) m) fun x29 m=>bp (pur (X0 0 x29) m) fun x30 m=>bp (pur (X4 false 1 x30 m) m) fun x31 m=>bp (pur (X4 false 1 p4 m) m) fun x32 m=>bp (pur (X7 x32) m) fun x33 m=>bp (pur (X0 2 x33) m) fun x34 m=>bp (pur (X4 false 1 x34 m) m) fun x35 m=>bp (pur (X4 false 1 p7 m) m) fun x36 m=>bp (pur (X3 3 x35 x36) m) fun x37 m=>bp (pur (X0 0 x37) m) fun x38 m=>bp (pur (X4 false 1 x38 m) m) fun x39 m=>bp (pur (Xhh x23 x31 x39) m) fun x40 m=>bp (some (aNew Q3u [(.int .i32 0)] m)) fun x41 m=>bp (unt (X8 1 x41 x40 m)) fun _ m=>let x42:V:=(.func (.func Q7z) ⟨[]⟩ ⟨[p4,p5,x41,p6,p7]⟩);bp (Xj G.tab x42 [(.bool false)] m) fun x43 m=>bp (pur (X4 false 1 p4 m) m) fun x44 m=>bp (pur (X4 false 1 x41 m) m) fun x45 m=>bp (Xj G.tab x42 [(.bool true)] m) fun x46 m=>ckB (again (pur (X4 false 1 p4 m) m) x44 && (again (pur (X4 false 1 x41 m) m) x45 && true)) (bp (G.tab Q9m [x44,x45,x43,x46] m) fun x47 m=>bp (pur (X4 false 1 p4 m) m) fun x48 m=>bp (pur (X7 x48) m) fun x49 m=>bp (pur (X0 4 x49) m) fun x50 m=>bp (pur (X4 false 1 x50 m) m) fun x51 m=>bp (pur (X4 true 3 x7 m) m) fun x52 m=>bp (unt (Xd (.struct [(0,1,false,.int),(1,1,false,.int),(2,1,false,.int)]) x51 x52 x47 m)) fun _ m=>some (x47,m))))
def Qh0 (G:Gt)(p25 p7 p6 p5 p4:V)(m:M):R:=brb p25 (bp (pur (X4 false 1 p7 m) m) fun x1 m=>some (x1,m)) (bp (pur (X4 false 1 p6 m) m) fun x53 m=>bp (pur (bin .eql true true .int x53 (.int .i32 1)) m) fun x54 m=>brb x54 (bp (pur (X4 false 1 p7 m) m) fun x55 m=>bp (pur (bin .eql true true .int x55 (.int .i32 0)) m) fun x56 m=>Q44 G x56 p5 p6 p7 p4 m) (Q44 G (.bool false) p5 p6 p7 p4 m))
def Q80 (G:Gt)(p16 p6 p5 p7 p4:V)(m:M):R:=brb p16 (bp (pur (X4 false 1 p6 m) m) fun x0 m=>some (x0,m)) (bp (pur (X4 false 1 p5 m) m) fun x57 m=>bp (pur (bin .eql true true .int x57 (.int .i32 0)) m) fun x58 m=>Qh0 G x58 p7 p6 p5 p4 m)
def Q5v (G:Gt)(p5 p6 p7 p4:V)(m:M):R:=bp (pur (X4 false 1 p5 m) m) fun x59 m=>bp (pur (bin .eql true true .int x59 (.int .i32 1)) m) fun x60 m=>brb x60 (Q80 G (.bool true) p6 p5 p7 p4 m) (bp (pur (X4 false 1 p6 m) m) fun x61 m=>bp (pur (X4 false 1 p7 m) m) fun x62 m=>bp (pur (bin .eql false true .int x61 x62) m) fun x63 m=>Q80 G x63 p6 p5 p7 p4 m)
def Q2q (G:Gt)(p0 p1 p2 p3:V)(m:M):R:=bp (some (aNew Q39 (Value.cells p0).toList m)) fun x64 m=>bp (some (aNew Q3u (Value.cells p1).toList m)) fun x65 m=>bp (some (aNew Q3u (Value.cells p2).toList m)) fun x66 m=>bp (some (aNew Q3u (Value.cells p3).toList m)) fun x67 m=>Q5v G x65 x66 x67 x64 m
theorem Q25i (G:Gt)(a0 a1 a2 a3:V)(m:M):ef G Tryz.f63 [a0,a1,a2,a3] m = Q2q G a0 a1 a2 a3 m:=X6 (r:=fun r m=>Q2q G (r 0) (r 1) (r 2) (r 3) m) rfl rfl (tr (seqQ (f:=fun r m=>Q5v G (r 5) (r 6) (r 7) (r 4) m) (tr (tr seqD (X9 (seqQ (f:=fun r m=>Q80 G (r 16) (r 6) (r 5) (r 7) (r 4) m) (tr (X1s (refQ) (seqQ (f:=fun r m=>Qh0 G (r 25) (r 7) (r 6) (r 5) (r 4) m) (tr (X1s (refQ) (seqQ (f:=fun r m=>Q44 G (r 29) (r 5) (r 6) (r 7) (r 4) m))))))))))))) m
def Q19q:En:=⟨Q2r,Tryz.f63,Tryz.func63,by kernel_rfl,arg4 Q2q,X1c Q25i⟩
def Qtl (G:Gt)(p0 p1:V)(m:M):R:=bp (some (aNew Q39 (Value.cells p0).toList m)) fun x0 m=>bp (pur (X4 false 1 x0 m) m) fun x1 m=>bp (Xa Q60 [(.int .i64 0)] 1 1 [(0,p1)] m) fun x2 m=>bp (G.tab Q32 [x1,x2] m) fun x3 m=>bp (pur (bin .neq true true .int x3 (.int .i64 0)) m) fun x4 m=>brb x4 (some (.tuple ⟨[(.slice none 0 0),x3]⟩,m)) (bp (some (aNew Q28q [(.slice none 0 0)] m)) fun x5 m=>bp (pur (X4 false 1 x0 m) m) fun x6 m=>bp (conv (.int .i32) p1 m) fun x7 m=>bp (G.tab Q1kh [x6,x7,(.func (.func Q16b) ⟨[]⟩ ⟨[x5,x0]⟩)] m) fun x8 m=>bp (pur (X4 false 1 x5 m) m) fun x9 m=>bp (G.tab Qzu [x9] m) fun x10 m=>bp (pur (X4 false 1 x5 m) m) fun x11 m=>bp (G.tab Qsu [x11] m) fun x12 m=>some (.tuple ⟨[x12,(.int .i64 0)]⟩,m))
theorem Q1vi (G:Gt)(a0 a1:V)(m:M):ef G Tryz.f65 [a0,a1] m = Qtl G a0 a1 m:=X6 (r:=fun r m=>Qtl G (r 0) (r 1) m) rfl rfl (fun r m=>by kernel_rfl) m
def Q1vj:En:=⟨Qtm,Tryz.f65,Tryz.func65,by kernel_rfl,arg2 Qtl,Xg Q1vi⟩
def Q1j6 (G:Gt)(p12 p2 p1:V)(m:M):R:=brb p12 (some (.tuple ⟨[(.bool false),(.int .i64 1)]⟩,m)) (bp (pur (X4 true 5 p2 m) m) fun x0 m=>bp (G.tab Q1tl [x0] m) fun x1 m=>bp (some (aNew Q1s1 Q1s2 m)) fun x2 m=>bp (unt (X8 13 x2 x1 m)) fun _ m=>bp (pur (bin .quo true true .int p1 (.int .i64 8)) m) fun x3 m=>bp (pur (Xm 13 1 x2 x3) m) fun x4 m=>bp (pur (X4 false 1 x4 m) m) fun x5 m=>bp (pur (bin .rem true true .int p1 (.int .i64 8)) m) fun x6 m=>bp (pur (bin .sub true true .int (.int .i64 7) x6) m) fun x7 m=>bp (pur (bin .shr false true .int x5 x7) m) fun x8 m=>bp (pur (bin .and true true .int x8 (.int .u8 1)) m) fun x9 m=>bp (pur (bin .eql true true .int x9 (.int .u8 1)) m) fun x10 m=>some (.tuple ⟨[x10,(.int .i64 0)]⟩,m))
def Q1tm (G:Gt)(p1 p2:V)(m:M):R:=bp (pur (bin .lss true true .int p1 (.int .i64 0)) m) fun x11 m=>brb x11 (Q1j6 G (.bool true) p2 p1 m) (bp (pur (bin .geq true true .int p1 (.int .i64 104)) m) fun x12 m=>Q1j6 G x12 p2 p1 m)
def Q1p0 (G:Gt)(p0 p1:V)(m:M):R:=bp (some (aNew Qzv (Value.cells p0).toList m)) fun x13 m=>Q1tm G p1 x13 m
theorem Q2by (G:Gt)(a0 a1:V)(m:M):ef G Tryz.f66 [a0,a1] m = Q1p0 G a0 a1 m:=X6 (r:=fun r m=>Q1p0 G (r 0) (r 1) m) rfl rfl (tr (seqQ (f:=fun r m=>Q1tm G (r 1) (r 2) m) (tr (tr seqD (seqQ (f:=fun r m=>Q1j6 G (r 12) (r 2) (r 1) m)))))) m
def Q2bz:En:=⟨Q20t,Tryz.f66,Tryz.func66,by kernel_rfl,arg2 Q1p0,Xg Q2by⟩
def Q81 (G:Gt)(p0 p1 p2 p3:V)(m:M):R:=bp (pur (X7 p0) m) fun x0 m=>bp (pur (X0 2 x0) m) fun x1 m=>bp (pur (X4 false 1 x1 m) m) fun x2 m=>bp (pur (X3 3 x2 p1) m) fun x3 m=>bp (pur (X4 true 3 x3 m) m) fun x4 m=>bp (some (aNew Q14 Qar m)) fun x5 m=>bp (unt (X8 3 x5 x4 m)) fun _ m=>bp (pur (X0 0 x5) m) fun x6 m=>bp (pur (X4 false 1 x6 m) m) fun x7 m=>bp (pur (bin .neq false true .int x7 p2) m) fun x8 m=>brb x8 (some (p1,m)) (brb p3 (bp (pur (X0 2 x5) m) fun x9 m=>bp (pur (X4 false 1 x9 m) m) fun x10 m=>some (x10,m)) (bp (pur (X0 1 x5) m) fun x11 m=>bp (pur (X4 false 1 x11 m) m) fun x12 m=>some (x12,m)))
theorem Q25j (G:Gt)(a0 a1 a2 a3:V)(m:M):ef G Tryz.f67 [a0,a1,a2,a3] m = Q81 G a0 a1 a2 a3 m:=X6 (r:=fun r m=>Q81 G (r 0) (r 1) (r 2) (r 3) m) rfl rfl (fun r m=>by kernel_rfl) m
def Q19r:En:=⟨Q82,Tryz.f67,Tryz.func67,by kernel_rfl,arg4 Q81,X1c Q25j⟩
def Qlj (G:Gt)(p1:V)(m:M):R:=some (p1,m)
def Qzw (G:Gt)(p0 p2 p1:V)(m:M):R:=bp (pur (X7 p0) m) fun x0 m=>bp (pur (X0 4 x0) m) fun x1 m=>bp (pur (X4 false 1 x1 m) m) fun x2 m=>bp (pur (bin .eql true true .int x2 (.int .i64 0)) m) fun x3 m=>brb x3 (bp (pur (X7 p0) m) fun x4 m=>bp (pur (X0 4 x4) m) fun x5 m=>bp (unt (X8 1 x5 p2 m)) fun _ m=>Qlj G p1 m) (Qlj G p1 m)
def Qop (G:Gt)(p0 p2 p1:V)(m:M):R:=Qzw G p0 p2 p1 m
theorem Q1s3 (G:Gt)(a0 a1 a2:V)(m:M):ef G Tryz.f68 [a0,a1,a2] m = Qop G a0 a2 a1 m:=X6 (r:=fun r m=>Qop G (r 0) (r 2) (r 1) m) rfl rfl (tr (seqQ (f:=fun r m=>Qzw G (r 0) (r 2) (r 1) m) (tr (seqQ (f:=fun r m=>Qlj G (r 1) m))))) m
def Q1s4:En:=⟨Qe,Tryz.f68,Tryz.func68,by kernel_rfl,arg3 (fun G a0 a1 a2 m=>Qop G a0 a2 a1 m),Xr Q1s3⟩
def Q153 (G:Gt)(p0:V)(m:M):R:=bp (pur (binP m .eql true true .ptr p0 (.pointer none)) m) fun x0 m=>brb x0 (some (.tuple ⟨[(.int .i64 0),(.int .i64 2)]⟩,m)) (bp (pur (Xe Qt8 [(0,1),(1,1)] []) m) fun x1 m=>bp (G.tab Q1n0 [p0,x1] m) fun x2 m=>bp (pur (X5 x2 0) m) fun x3 m=>bp (pur (X5 x2 1) m) fun x4 m=>some (.tuple ⟨[x3,x4]⟩,m))
theorem Q23t (G:Gt)(a0:V)(m:M):ef G Tryz.f69 [a0] m = Q153 G a0 m:=X6 (r:=fun r m=>Q153 G (r 0) m) rfl rfl (fun r m=>by kernel_rfl) m
def Q23u:En:=⟨Q1n1,Tryz.f69,Tryz.func69,by kernel_rfl,arg1 Q153,Xl Q23t⟩
end
end Go.Ab.Sh
