/-
  Functions of the program as plain definitions. No conditions.
-/
import Derived.Test.YtoahkkdbdiamcaaGreatDoorAb5
import Derived.Test.YtoahkkdbdiamcaaGreatDoorZ
import Derived.KernelRfl
import Derived.Test.YtoahkkdbdiamcaaGreatDoorProg
set_option linter.unusedVariables false
set_option maxRecDepth 100000
namespace Go.Ab.Sh
open Go Go.Ab Go.Proofs
noncomputable section
def Q2i (G:Gt)(p0 p1:V)(m:M):R:=
  bp (pur (lenK 1 p0 m) m) fun x0 m=>
  bp (G.tab Qew [p0,x0,p1] m) fun x1 m=>
  some (.tuple ⟨[]⟩,m)
theorem Qf8 (G:Gt)(a0 a1:V)(m:M):ef G Tryz.f277 [a0,a1] m = Q2i G a0 a1 m:=
  evFn_of (r:=fun r m=>Q2i G (r 0) (r 1) m) rfl rfl (fun r m=>by kernel_rfl) m
def Qf7:En:=⟨Q4z,Tryz.f277,Tryz.func277,by kernel_rfl,arg2 Q2i,okarg2 Qf8⟩
def Q21 (G:Gt)(p0 p1:V)(m:M):R:=
  bp (pur (lenK 1 p0 m) m) fun x0 m=>
  bp (G.tab Qd5 [p0,x0,p1] m) fun x1 m=>
  some (.tuple ⟨[]⟩,m)
theorem Qcx (G:Gt)(a0 a1:V)(m:M):ef G Tryz.f279 [a0,a1] m = Q21 G a0 a1 m:=
  evFn_of (r:=fun r m=>Q21 G (r 0) (r 1) m) rfl rfl (fun r m=>by kernel_rfl) m
def Qcw:En:=⟨Q3h,Tryz.f279,Tryz.func279,by kernel_rfl,arg2 Q21,okarg2 Qcx⟩
def Q34 (G:Gt)(p0 p1:V)(m:M):R:=
  bp (pur (lenK 1 p0 m) m) fun x0 m=>
  bp (G.tab Qir [p0,x0,p1] m) fun x1 m=>
  some (.tuple ⟨[]⟩,m)
theorem Qle (G:Gt)(a0 a1:V)(m:M):ef G Tryz.f281 [a0,a1] m = Q34 G a0 a1 m:=
  evFn_of (r:=fun r m=>Q34 G (r 0) (r 1) m) rfl rfl (fun r m=>by kernel_rfl) m
def Qkr:En:=⟨Q7x,Tryz.f281,Tryz.func281,by kernel_rfl,arg2 Q34,okarg2 Qle⟩
def Q7y (G:Gt)(k0:V → V → V → V → M → R)(p6 p1 p0 p2:V)(m:M):R:=
  bp (pur (bin .mul true true .int p6 (.int .i64 2)) m) fun x0 m=>
  k0 x0 p1 p0 p2 m
def Qgw (G:Gt)(k0:V → V → V → V → M → R)(p7 p6 p1 p0 p2:V)(m:M):R:=
  bp (pur (bin .add false true .int p7 p6) m) fun x1 m=>
  bp (pur (bin .lss false true .int x1 p1) m) fun x2 m=>
  brb x2
  (bp (G.tab Qgx [p0,p7,x1,p1,p2] m) fun x3 m=>
  Q7y G k0 p6 p1 p0 p2 m)
  (Q7y G k0 p6 p1 p0 p2 m)
def Q7z (G:Gt)(k0:V → V → V → V → M → R):Nat → V → V → V → V → V → V → M → R
 | 0,_,_,_,_,_,_,_=>none
 | i + 1,p8,p1,p0,p7,p6,p2,m=>
  bp (pur (bin .leq false true .int p8 p1) m) fun x4 m=>
  brb x4
  (bp (pur (bin .add false true .int p7 p6) m) fun x5 m=>
  bp (G.tab Qgx [p0,p7,x5,p8,p2] m) fun x6 m=>
  bp (pur (bin .mul true true .int (.int .i64 2) p6) m) fun x7 m=>
  bp (pur (bin .add false true .int p8 x7) m) fun x8 m=>
  (Q7z G k0 i) x8 p1 p0 p8 p6 p2 m)
  (Qgw G k0 p7 p6 p1 p0 p2 m)
def Qgy (G:Gt)(k0:V → V → V → V → M → R)(p8 p1 p0 p7 p6 p2:V)(m:M):R:=
  Q7z G k0 G.rds p8 p1 p0 p7 p6 p2 m
def Qgz (G:Gt)(k0:V → V → V → V → M → R)(p6 p1 p0 p2:V)(m:M):R:=
  bp (pur (bin .mul true true .int (.int .i64 2) p6) m) fun x9 m=>
  Qgy G k0 x9 p1 p0 (.int .i64 0) p6 p2 m
def Q14 (G:Gt):Nat → V → V → V → V → M → R
 | 0,_,_,_,_,_=>none
 | i + 1,p6,p1,p0,p2,m=>
  bp (pur (bin .lss false true .int p6 p1) m) fun x10 m=>
  brb x10
  (Qgz G (Q14 G i) p6 p1 p0 p2 m)
  (some (.tuple ⟨[]⟩,m))
def Qh0 (G:Gt)(p6 p1 p0 p2:V)(m:M):R:=
  Q14 G G.rds p6 p1 p0 p2 m
def Qh1 (G:Gt)(p0 p7 p1 p2 p6:V)(m:M):R:=
  bp (G.tab Q5g [p0,p7,p1,p2] m) fun x11 m=>
  Qh0 G p6 p1 p0 p2 m
def Q73 (G:Gt):Nat → V → V → V → V → V → V → M → R
 | 0,_,_,_,_,_,_,_=>none
 | i + 1,p8,p1,p0,p7,p2,p6,m=>
  bp (pur (bin .leq false true .int p8 p1) m) fun x12 m=>
  brb x12
  (bp (G.tab Q5g [p0,p7,p8,p2] m) fun x13 m=>
  bp (pur (bin .add false true .int p8 p6) m) fun x14 m=>
  (Q73 G i) x14 p1 p0 p8 p2 p6 m)
  (Qh1 G p0 p7 p1 p2 p6 m)
def Qh2 (G:Gt)(p8 p1 p0 p7 p2 p6:V)(m:M):R:=
  Q73 G G.rds p8 p1 p0 p7 p2 p6 m
def Qh3 (G:Gt)(p6 p1 p0 p2:V)(m:M):R:=
  Qh2 G p6 p1 p0 (.int .i64 0) p2 p6 m
def Q9f (G:Gt)(p1 p0 p2:V)(m:M):R:=
  Qh3 G (.int .i64 20) p1 p0 p2 m
theorem Q11l (G:Gt)(a0 a1 a2:V)(m:M):ef G Tryz.f283 [a0,a1,a2] m = Q9f G a1 a0 a2 m:=
  evFn_of (r:=fun r m=>Q9f G (r 1) (r 0) (r 2) m) rfl rfl (tr (seqQ (f:=fun r m=>Qh3 G (r 6) (r 1) (r 0) (r 2) m) (tr (seqQ (f:=fun r m=>Qh2 G (r 8) (r 1) (r 0) (r 7) (r 2) (r 6) m) (tr (tr (seqQ (f:=fun r m=>Qh1 G (r 0) (r 7) (r 1) (r 2) (r 6) m) (tr (seqQ (f:=fun r m=>Qh0 G (r 6) (r 1) (r 0) (r 2) m) (tr (blockQ (loopQ (fun i r m=>Q14 G i (r 6) (r 1) (r 0) (r 2) m) (fun _ _=>rfl) (fun i0=>tr (seqQ (f:=fun r m=>Qgz G (Q14 G i0) (r 6) (r 1) (r 0) (r 2) m) (tr (blockQ (seqQ (f:=fun r m=>Qgy G (Q14 G i0) (r 8) (r 1) (r 0) (r 7) (r 6) (r 2) m) (tr (tr (seqQ (f:=fun r m=>Qgw G (Q14 G i0) (r 7) (r 6) (r 1) (r 0) (r 2) m) (tr (seqQ (f:=fun r m=>Q7y G (Q14 G i0) (r 6) (r 1) (r 0) (r 2) m) (fun r m=>by kernel_rfl)) (fun r m=>by kernel_rfl))) (blockQ (loopQ (fun i r m=>Q7z G (Q14 G i0) i (r 8) (r 1) (r 0) (r 7) (r 6) (r 2) m) (fun _ _=>rfl) (fun i1=>fun r m=>by kernel_rfl)))) (fun r m=>by kernel_rfl)))) (fun r m=>by kernel_rfl))) (fun r m=>by kernel_rfl)))) (fun r m=>by kernel_rfl))) (fun r m=>by kernel_rfl))) (blockQ (loopQ (fun i r m=>Q73 G i (r 8) (r 1) (r 0) (r 7) (r 2) (r 6) m) (fun _ _=>rfl) (fun i0=>fun r m=>by kernel_rfl)))) (fun r m=>by kernel_rfl))) (fun r m=>by kernel_rfl))) (fun r m=>by kernel_rfl)) m
def Q117:En:=⟨Qj9,Tryz.f283,Tryz.func283,by kernel_rfl,arg3 (fun G a0 a1 a2 m=>Q9f G a1 a0 a2 m),okarg3 Q11l⟩
def Qmn (G:Gt)(p0 p1:V)(m:M):R:=
  bp (G.tab Qpt [p0] m) fun x0 m=>
  bp (G.tab Qpt [p1] m) fun x1 m=>
  brb x0
  (brb x1
  (some ((.int .i64 0),m))
  (some ((.int .i64 (-1)),m)))
  (brb x1
  (some ((.int .i64 1),m))
  (bp (pur (bin .lss false true .int p0 p1) m) fun x2 m=>
  brb x2
  (some ((.int .i64 (-1)),m))
  (bp (pur (bin .gtr false true .int p0 p1) m) fun x3 m=>
  brb x3
  (some ((.int .i64 1),m))
  (some ((.int .i64 0),m)))))
theorem Q1j6 (G:Gt)(a0 a1:V)(m:M):ef G Tryz.f284 [a0,a1] m = Qmn G a0 a1 m:=
  evFn_of (r:=fun r m=>Qmn G (r 0) (r 1) m) rfl rfl (fun r m=>by kernel_rfl) m
def Q1j1:En:=⟨Q106,Tryz.f284,Tryz.func284,by kernel_rfl,arg2 Qmn,okarg2 Q1j6⟩
def Q80 (G:Gt)(k0:V → V → V → V → M → R)(p6 p1 p0 p2:V)(m:M):R:=
  bp (pur (bin .mul true true .int p6 (.int .i64 2)) m) fun x0 m=>
  k0 x0 p1 p0 p2 m
def Qh4 (G:Gt)(k0:V → V → V → V → M → R)(p7 p6 p1 p0 p2:V)(m:M):R:=
  bp (pur (bin .add false true .int p7 p6) m) fun x1 m=>
  bp (pur (bin .lss false true .int x1 p1) m) fun x2 m=>
  brb x2
  (bp (G.tab Qh5 [p0,p7,x1,p1,p2] m) fun x3 m=>
  Q80 G k0 p6 p1 p0 p2 m)
  (Q80 G k0 p6 p1 p0 p2 m)
def Q81 (G:Gt)(k0:V → V → V → V → M → R):Nat → V → V → V → V → V → V → M → R
 | 0,_,_,_,_,_,_,_=>none
 | i + 1,p8,p1,p0,p7,p6,p2,m=>
  bp (pur (bin .leq false true .int p8 p1) m) fun x4 m=>
  brb x4
  (bp (pur (bin .add false true .int p7 p6) m) fun x5 m=>
  bp (G.tab Qh5 [p0,p7,x5,p8,p2] m) fun x6 m=>
  bp (pur (bin .mul true true .int (.int .i64 2) p6) m) fun x7 m=>
  bp (pur (bin .add false true .int p8 x7) m) fun x8 m=>
  (Q81 G k0 i) x8 p1 p0 p8 p6 p2 m)
  (Qh4 G k0 p7 p6 p1 p0 p2 m)
def Qh6 (G:Gt)(k0:V → V → V → V → M → R)(p8 p1 p0 p7 p6 p2:V)(m:M):R:=
  Q81 G k0 G.rds p8 p1 p0 p7 p6 p2 m
def Qh7 (G:Gt)(k0:V → V → V → V → M → R)(p6 p1 p0 p2:V)(m:M):R:=
  bp (pur (bin .mul true true .int (.int .i64 2) p6) m) fun x9 m=>
  Qh6 G k0 x9 p1 p0 (.int .i64 0) p6 p2 m
def Q15 (G:Gt):Nat → V → V → V → V → M → R
 | 0,_,_,_,_,_=>none
 | i + 1,p6,p1,p0,p2,m=>
  bp (pur (bin .lss false true .int p6 p1) m) fun x10 m=>
  brb x10
  (Qh7 G (Q15 G i) p6 p1 p0 p2 m)
  (some (.tuple ⟨[]⟩,m))
def Qh8 (G:Gt)(p6 p1 p0 p2:V)(m:M):R:=
  Q15 G G.rds p6 p1 p0 p2 m
def Qh9 (G:Gt)(p0 p7 p1 p2 p6:V)(m:M):R:=
  bp (G.tab Q5i [p0,p7,p1,p2] m) fun x11 m=>
  Qh8 G p6 p1 p0 p2 m
def Q74 (G:Gt):Nat → V → V → V → V → V → V → M → R
 | 0,_,_,_,_,_,_,_=>none
 | i + 1,p8,p1,p0,p7,p2,p6,m=>
  bp (pur (bin .leq false true .int p8 p1) m) fun x12 m=>
  brb x12
  (bp (G.tab Q5i [p0,p7,p8,p2] m) fun x13 m=>
  bp (pur (bin .add false true .int p8 p6) m) fun x14 m=>
  (Q74 G i) x14 p1 p0 p8 p2 p6 m)
  (Qh9 G p0 p7 p1 p2 p6 m)
def Qha (G:Gt)(p8 p1 p0 p7 p2 p6:V)(m:M):R:=
  Q74 G G.rds p8 p1 p0 p7 p2 p6 m
def Qhb (G:Gt)(p6 p1 p0 p2:V)(m:M):R:=
  Qha G p6 p1 p0 (.int .i64 0) p2 p6 m
def Q9g (G:Gt)(p1 p0 p2:V)(m:M):R:=
  Qhb G (.int .i64 20) p1 p0 p2 m
theorem Q11m (G:Gt)(a0 a1 a2:V)(m:M):ef G Tryz.f285 [a0,a1,a2] m = Q9g G a1 a0 a2 m:=
  evFn_of (r:=fun r m=>Q9g G (r 1) (r 0) (r 2) m) rfl rfl (tr (seqQ (f:=fun r m=>Qhb G (r 6) (r 1) (r 0) (r 2) m) (tr (seqQ (f:=fun r m=>Qha G (r 8) (r 1) (r 0) (r 7) (r 2) (r 6) m) (tr (tr (seqQ (f:=fun r m=>Qh9 G (r 0) (r 7) (r 1) (r 2) (r 6) m) (tr (seqQ (f:=fun r m=>Qh8 G (r 6) (r 1) (r 0) (r 2) m) (tr (blockQ (loopQ (fun i r m=>Q15 G i (r 6) (r 1) (r 0) (r 2) m) (fun _ _=>rfl) (fun i0=>tr (seqQ (f:=fun r m=>Qh7 G (Q15 G i0) (r 6) (r 1) (r 0) (r 2) m) (tr (blockQ (seqQ (f:=fun r m=>Qh6 G (Q15 G i0) (r 8) (r 1) (r 0) (r 7) (r 6) (r 2) m) (tr (tr (seqQ (f:=fun r m=>Qh4 G (Q15 G i0) (r 7) (r 6) (r 1) (r 0) (r 2) m) (tr (seqQ (f:=fun r m=>Q80 G (Q15 G i0) (r 6) (r 1) (r 0) (r 2) m) (fun r m=>by kernel_rfl)) (fun r m=>by kernel_rfl))) (blockQ (loopQ (fun i r m=>Q81 G (Q15 G i0) i (r 8) (r 1) (r 0) (r 7) (r 6) (r 2) m) (fun _ _=>rfl) (fun i1=>fun r m=>by kernel_rfl)))) (fun r m=>by kernel_rfl)))) (fun r m=>by kernel_rfl))) (fun r m=>by kernel_rfl)))) (fun r m=>by kernel_rfl))) (fun r m=>by kernel_rfl))) (blockQ (loopQ (fun i r m=>Q74 G i (r 8) (r 1) (r 0) (r 7) (r 2) (r 6) m) (fun _ _=>rfl) (fun i0=>fun r m=>by kernel_rfl)))) (fun r m=>by kernel_rfl))) (fun r m=>by kernel_rfl))) (fun r m=>by kernel_rfl)) m
def Q11a:En:=⟨Qja,Tryz.f285,Tryz.func285,by kernel_rfl,arg3 (fun G a0 a1 a2 m=>Q9g G a1 a0 a2 m),okarg3 Q11m⟩
def Qc9 (G:Gt)(p0 p1:V)(m:M):R:=
  bp (G.tab Qbk [p0,p1] m) fun x0 m=>
  some (x0,m)
theorem Q159 (G:Gt)(a0 a1:V)(m:M):ef G Tryz.f286 [a0,a1] m = Qc9 G a0 a1 m:=
  evFn_of (r:=fun r m=>Qc9 G (r 0) (r 1) m) rfl rfl (fun r m=>by kernel_rfl) m
def Q150:En:=⟨Qlf,Tryz.f286,Tryz.func286,by kernel_rfl,arg2 Qc9,okarg2 Q159⟩
def Q6n (G:Gt)(k0:V → V → V → V → V → V → V → M → R)(p97 p0 p1 p2 p13 p4 p3 p10 p11 p12:V)(m:M):R:=
  brb p97
  (bp (G.tab Qpu [p0,p1,p2,p13,p4] m) fun x0 m=>
  k0 p2 x0 p0 p4 p3 p10 p11 m)
  (bp (G.tab Qx2 [p0,p1,p2,p13,p4] m) fun x1 m=>
  bp (pur (aExtract x1 0) m) fun x2 m=>
  bp (pur (aExtract x1 1) m) fun x3 m=>
  bp (pur (bin .sub false true .int x2 p1) m) fun x4 m=>
  bp (pur (bin .sub false true .int p2 x2) m) fun x5 m=>
  bp (pur (bin .quo true true .int p12 (.int .i64 8)) m) fun x6 m=>
  bp (pur (bin .lss false true .int x4 x5) m) fun x7 m=>
  brb x7
  (bp (pur (bin .geq false true .int x4 x6) m) fun x8 m=>
  bp (G.tab Q4c [p0,p1,x2,p3,p4] m) fun x9 m=>
  bp (pur (bin .add true true .int x2 (.int .i64 1)) m) fun x10 m=>
  k0 p2 x10 p0 p4 p3 x8 x3 m)
  (bp (pur (bin .geq false true .int x5 x6) m) fun x11 m=>
  bp (pur (bin .add true true .int x2 (.int .i64 1)) m) fun x12 m=>
  bp (G.tab Q4c [p0,x12,p2,p3,p4] m) fun x13 m=>
  k0 x2 p1 p0 p4 p3 x11 x3 m))
def Q75 (G:Gt)(k0:V → V → V → V → V → V → V → M → R)(p1 p4 p0 p13 p2 p3 p10 p11 p12:V)(m:M):R:=
  bp (pur (bin .gtr true true .int p1 (.int .i64 0)) m) fun x14 m=>
  brt x14
  (bp (pur (bin .sub true true .int p1 (.int .i64 1)) m) fun x15 m=>
  bp (pur (aIndexAddrSl 2 p0 x15) m) fun x16 m=>
  bp (pur (aLoad true 2 x16 m) m) fun x17 m=>
  bp (pur (aIndexAddrSl 2 p0 p13) m) fun x18 m=>
  bp (pur (aLoad true 2 x18 m) m) fun x19 m=>
  bp (evCall G.tab p4 [x17,x19] m) fun x20 m=>
  bp (pur (bin .lss true true .int x20 (.int .i64 0)) m) fun x21 m=>
  bp (pur (un .not x21) m) fun x22 m=>
  Q6n G k0 x22 p0 p1 p2 p13 p4 p3 p10 p11 p12 m)
  (Q6n G k0 (.bool false) p0 p1 p2 p13 p4 p3 p10 p11 p12 m)
  (none)
def Q3a (G:Gt)(k0:V → V → V → V → V → V → V → M → R)(p75 p0 p1 p2 p4 p13 p3 p10 p11 p12:V)(m:M):R:=
  brb p75
  (bp (G.tab Qlg [p0,p1,p2,p4] m) fun x23 m=>
  brb x23
  (some (.tuple ⟨[]⟩,m))
  (Q75 G k0 p1 p4 p0 p13 p2 p3 p10 p11 p12 m))
  (Q75 G k0 p1 p4 p0 p13 p2 p3 p10 p11 p12 m)
def Q76 (G:Gt)(k0:V → V → V → V → V → V → V → M → R)(p10 p11 p14 p0 p1 p2 p4 p13 p3 p12:V)(m:M):R:=
  brb p10
  (brb p11
  (bp (pur (bin .eql true true .int p14 (.int .i64 1)) m) fun x24 m=>
  Q3a G k0 x24 p0 p1 p2 p4 p13 p3 p10 p11 p12 m)
  (Q3a G k0 (.bool false) p0 p1 p2 p4 p13 p3 p10 p11 p12 m))
  (Q3a G k0 (.bool false) p0 p1 p2 p4 p13 p3 p10 p11 p12 m)
def Qfk (G:Gt)(k0:V → V → V → V → V → V → V → M → R)(p14 p0 p1 p2 p4 p13 p10 p11 p3 p12:V)(m:M):R:=
  bp (pur (bin .eql true true .int p14 (.int .i64 2)) m) fun x25 m=>
  brb x25
  (bp (G.tab Qsj [p0,p1,p2,p4] m) fun x26 m=>
  bp (pur (bin .sub true true .int p2 (.int .i64 1)) m) fun x27 m=>
  bp (pur (bin .sub false true .int p13 p1) m) fun x28 m=>
  bp (pur (bin .sub false true .int x27 x28) m) fun x29 m=>
  Q76 G k0 p10 p11 (.int .i64 1) p0 p1 p2 p4 x29 p3 p12 m)
  (Q76 G k0 p10 p11 p14 p0 p1 p2 p4 p13 p3 p12 m)
def Q77 (G:Gt)(k0:V → V → V → V → V → V → V → M → R)(p0 p1 p2 p4 p10 p11 p3 p12:V)(m:M):R:=
  bp (G.tab Qtq [p0,p1,p2,p4] m) fun x30 m=>
  bp (pur (aExtract x30 0) m) fun x31 m=>
  bp (pur (aExtract x30 1) m) fun x32 m=>
  Qfk G k0 x32 p0 p1 p2 p4 x31 p10 p11 p3 p12 m
def Qfl (G:Gt)(k0:V → V → V → V → V → V → V → M → R)(p10 p0 p1 p2 p4 p3 p11 p12:V)(m:M):R:=
  bp (pur (un .not p10) m) fun x33 m=>
  brb x33
  (bp (G.tab Qqx [p0,p1,p2,p4] m) fun x34 m=>
  bp (pur (bin .sub true true .int p3 (.int .i64 1)) m) fun x35 m=>
  Q77 G k0 p0 p1 p2 p4 p10 p11 x35 p12 m)
  (Q77 G k0 p0 p1 p2 p4 p10 p11 p3 p12 m)
def Qfm (G:Gt)(k0:V → V → V → V → V → V → V → M → R)(p3 p0 p1 p2 p4 p10 p11 p12:V)(m:M):R:=
  bp (pur (bin .eql true true .int p3 (.int .i64 0)) m) fun x36 m=>
  brb x36
  (bp (G.tab Qyc [p0,p1,p2,p4] m) fun x37 m=>
  some (.tuple ⟨[]⟩,m))
  (Qfl G k0 p10 p0 p1 p2 p4 p3 p11 p12 m)
def Qfn (G:Gt)(k0:V → V → V → V → V → V → V → M → R)(p12 p0 p1 p2 p4 p3 p10 p11:V)(m:M):R:=
  bp (pur (bin .leq true true .int p12 (.int .i64 12)) m) fun x38 m=>
  brb x38
  (bp (G.tab Qd8 [p0,p1,p2,p4] m) fun x39 m=>
  some (.tuple ⟨[]⟩,m))
  (Qfm G k0 p3 p0 p1 p2 p4 p10 p11 p12 m)
def Q6 (G:Gt):Nat → V → V → V → V → V → V → V → M → R
 | 0,_,_,_,_,_,_,_,_=>none
 | i + 1,p2,p1,p0,p4,p3,p10,p11,m=>
  bp (pur (bin .sub false true .int p2 p1) m) fun x40 m=>
  Qfn G (Q6 G i) x40 p0 p1 p2 p4 p3 p10 p11 m
def Qfo (G:Gt)(p2 p1 p0 p4 p3 p10 p11:V)(m:M):R:=
  Q6 G G.rds p2 p1 p0 p4 p3 p10 p11 m
def Qfp (G:Gt)(p2 p1 p0 p4 p3 p10:V)(m:M):R:=
  Qfo G p2 p1 p0 p4 p3 p10 (.bool true) m
def Q8w (G:Gt)(p2 p1 p0 p4 p3:V)(m:M):R:=
  Qfp G p2 p1 p0 p4 p3 (.bool true) m
theorem Qzj (G:Gt)(a0 a1 a2 a3 a4:V)(m:M):ef G Tryz.f287 [a0,a1,a2,a3,a4] m = Q8w G a2 a1 a0 a4 a3 m:=
  evFn_of (r:=fun r m=>Q8w G (r 2) (r 1) (r 0) (r 4) (r 3) m) rfl rfl (tr (seqQ (f:=fun r m=>Qfp G (r 2) (r 1) (r 0) (r 4) (r 3) (r 10) m) (tr (seqQ (f:=fun r m=>Qfo G (r 2) (r 1) (r 0) (r 4) (r 3) (r 10) (r 11) m) (tr (blockQ (loopQ (fun i r m=>Q6 G i (r 2) (r 1) (r 0) (r 4) (r 3) (r 10) (r 11) m) (fun _ _=>rfl) (fun i0=>tr (blockQ (seqQ (f:=fun r m=>Qfn G (Q6 G i0) (r 12) (r 0) (r 1) (r 2) (r 4) (r 3) (r 10) (r 11) m) (tr (seqQ (f:=fun r m=>Qfm G (Q6 G i0) (r 3) (r 0) (r 1) (r 2) (r 4) (r 10) (r 11) (r 12) m) (tr (seqQ (f:=fun r m=>Qfl G (Q6 G i0) (r 10) (r 0) (r 1) (r 2) (r 4) (r 3) (r 11) (r 12) m) (tr (seqQ (f:=fun r m=>Q77 G (Q6 G i0) (r 0) (r 1) (r 2) (r 4) (r 10) (r 11) (r 3) (r 12) m) (tr (seqQ (f:=fun r m=>Qfk G (Q6 G i0) (r 14) (r 0) (r 1) (r 2) (r 4) (r 13) (r 10) (r 11) (r 3) (r 12) m) (tr (seqQ (f:=fun r m=>Q76 G (Q6 G i0) (r 10) (r 11) (r 14) (r 0) (r 1) (r 2) (r 4) (r 13) (r 3) (r 12) m) (tr (tr (seqQ (f:=fun r m=>Q75 G (Q6 G i0) (r 1) (r 4) (r 0) (r 13) (r 2) (r 3) (r 10) (r 11) (r 12) m) (tr (tr seqD (seqQ (f:=fun r m=>Q6n G (Q6 G i0) (r 97) (r 0) (r 1) (r 2) (r 13) (r 4) (r 3) (r 10) (r 11) (r 12) m) (fun r m=>by kernel_rfl))) (fun r m=>by kernel_rfl))) (seqQ (f:=fun r m=>Q3a G (Q6 G i0) (r 75) (r 0) (r 1) (r 2) (r 4) (r 13) (r 3) (r 10) (r 11) (r 12) m) (fun r m=>by kernel_rfl))) (fun r m=>by kernel_rfl))) (fun r m=>by kernel_rfl))) (fun r m=>by kernel_rfl))) (fun r m=>by kernel_rfl))) (fun r m=>by kernel_rfl))) (fun r m=>by kernel_rfl)))) (fun r m=>by kernel_rfl)))) (fun r m=>by kernel_rfl))) (fun r m=>by kernel_rfl))) (fun r m=>by kernel_rfl)) m
def Qzh:En:=⟨Q4c,Tryz.f287,Tryz.func287,by kernel_rfl,arg5 (fun G a0 a1 a2 a3 a4 m=>Q8w G a2 a1 a0 a4 a3 m),okarg5 Qzj⟩
end
end Go.Ab.Sh

set_option linter.unusedVariables false
set_option maxRecDepth 100000
namespace Go.Ab.Sh
open Go Go.Ab Go.Proofs
noncomputable section
def Qtr (G:Gt)(k0:V → V → V → V → V → V → V → M → R)(p19 p18 p17 p1 p3 p4 p5:V)(m:M):R:=
  bp (pur (bin .add true true .int p19 (.int .i64 1)) m) fun x0 m=>
  k0 x0 p18 p17 p1 p3 p4 p5 m
def Q1es (G:Gt)(k0:V → V → V → V → V → V → V → M → R)(p31 p19 p18 p17 p1 p3 p4 p5 p7:V)(m:M):R:=
  brb p31
  (Qtr G k0 p19 p18 p17 p1 p3 p4 p5 m)
  (bp (pur (aFieldAddr 6 p7) m) fun x1 m=>
  bp (pur (aLoad false 1 x1 m) m) fun x2 m=>
  bp (pur (bin .eql true true .str x2 (.string ⟨#[]⟩)) m) fun x3 m=>
  brb x3
  (bp (pur (aLoad false 1 p3 m) m) fun x4 m=>
  bp (pur (aLoad true 9 p7 m) m) fun x5 m=>
  bp (evCall G.tab x4 [x5] m) fun x6 m=>
  Qtr G k0 p19 p18 p17 p1 p3 p4 p5 m)
  (bp (pur (aFieldAddr 7 p7) m) fun x7 m=>
  bp (pur (aLoad false 1 x7 m) m) fun x8 m=>
  bp (pur (bin .eql true true .int x8 (.int .u32 0)) m) fun x9 m=>
  brb x9
  (bp (pur (aLoad false 1 p4 m) m) fun x10 m=>
  bp (pur (aFieldAddr 6 p7) m) fun x11 m=>
  bp (pur (aLoad false 1 x11 m) m) fun x12 m=>
  bp (pur (aFieldAddr 7 p5) m) fun x13 m=>
  bp (pur (aLoad false 1 x13 m) m) fun x14 m=>
  bp (pur (aBuild Qk0 [(0,1),(1,1)] [(0,x12),(1,x14)]) m) fun x15 m=>
  bp (aBuildSlice Qeh Qk0 2 1 [(0,x15)] m) fun x16 m=>
  bp (apS Qeh 2 24 x10 x16 m) fun x17 m=>
  bp (unt (aStore 1 p4 x17 m)) fun _ m=>
  Qtr G k0 p19 p18 p17 p1 p3 p4 p5 m)
  (bp (pur (aLoad false 1 p4 m) m) fun x18 m=>
  bp (pur (aFieldAddr 6 p7) m) fun x19 m=>
  bp (pur (aLoad false 1 x19 m) m) fun x20 m=>
  bp (pur (aFieldAddr 7 p7) m) fun x21 m=>
  bp (pur (aLoad false 1 x21 m) m) fun x22 m=>
  bp (pur (aBuild Qk0 [(0,1),(1,1)] [(0,x20),(1,x22)]) m) fun x23 m=>
  bp (aBuildSlice Qeh Qk0 2 1 [(0,x23)] m) fun x24 m=>
  bp (apS Qeh 2 24 x18 x24 m) fun x25 m=>
  bp (unt (aStore 1 p4 x25 m)) fun _ m=>
  Qtr G k0 p19 p18 p17 p1 p3 p4 p5 m)))
def Q1p5 (G:Gt)(k0:V → V → V → V → V → V → V → M → R)(p7 p1 p19 p18 p17 p3 p4 p5:V)(m:M):R:=
  bp (pur (aFieldAddr 8 p7) m) fun x26 m=>
  bp (pur (aLoad false 1 x26 m) m) fun x27 m=>
  brb x27
  (Q1es G k0 (.bool true) p19 p18 p17 p1 p3 p4 p5 p7 m)
  (bp (pur (aLoad false 1 p1 m) m) fun x28 m=>
  bp (pur (aLoad true 9 p7 m) m) fun x29 m=>
  bp (pur (aLookup (.struct [(0,2,true,(.struct [(0,1,false,.int),(1,1,false,.int)])),(2,1,false,.int),(3,1,false,.int),(4,1,false,.int),(5,1,false,.int),(6,1,false,.str),(7,1,false,.int),(8,1,false,.bool)]) (.int .i64 0) false x28 x29 m) m) fun x30 m=>
  bp (pur (bin .gtr true true .int x30 (.int .i64 0)) m) fun x31 m=>
  Q1es G k0 x31 p19 p18 p17 p1 p3 p4 p5 p7 m)
def Q1p6 (G:Gt)(k0:V → V → V → V → V → V → V → M → R)(p17 p19 p1 p18 p3 p4 p5:V)(m:M):R:=
  bp (pur (aIndexAddrSl 9 p17 p19) m) fun x32 m=>
  bp (pur (aLoad true 9 x32 m) m) fun x33 m=>
  bp (some (aNew Q45 Q55 m)) fun x34 m=>
  bp (unt (aStore 9 x34 x33 m)) fun _ m=>
  Q1p5 G k0 x34 p1 p19 p18 p17 p3 p4 p5 m
def Q1p7 (G:Gt)(k0:V → V → V → V → V → V → V → M → R)(p20 p17 p19 p1 p18 p3 p4 p5:V)(m:M):R:=
  brb p20
  (Q1p6 G k0 p17 p19 p1 p18 p3 p4 p5 m)
  (some (.tuple ⟨[]⟩,m))
def Qek (G:Gt):Nat → V → V → V → V → V → V → V → M → R
 | 0,_,_,_,_,_,_,_,_=>none
 | i + 1,p19,p18,p17,p1,p3,p4,p5,m=>
  bp (pur (bin .lss false true .int p19 p18) m) fun x35 m=>
  Q1p7 G (Qek G i) x35 p17 p19 p1 p18 p3 p4 p5 m
def Q1p8 (G:Gt)(p19 p18 p17 p1 p3 p4 p5:V)(m:M):R:=
  Qek G G.rds p19 p18 p17 p1 p3 p4 p5 m
def Q1p9 (G:Gt)(p2 p5 p1 p3 p4:V)(m:M):R:=
  bp (pur (aLoad false 1 p2 m) m) fun x36 m=>
  bp (pur (aFieldAddr 7 p5) m) fun x37 m=>
  bp (pur (aLoad false 1 x37 m) m) fun x38 m=>
  bp (G.tab Q1pa [x36,x38] m) fun x39 m=>
  bp (pur (lenK 1 x39 m) m) fun x40 m=>
  Q1p8 G (.int .i64 0) x40 x39 p1 p3 p4 p5 m
def Q1pb (G:Gt)(p1 p5 p2 p3 p4:V)(m:M):R:=
  bp (pur (aLoad false 1 p1 m) m) fun x41 m=>
  bp (pur (aLoad true 9 p5 m) m) fun x42 m=>
  bp (pur (aLookup (.struct [(0,2,true,(.struct [(0,1,false,.int),(1,1,false,.int)])),(2,1,false,.int),(3,1,false,.int),(4,1,false,.int),(5,1,false,.int),(6,1,false,.str),(7,1,false,.int),(8,1,false,.bool)]) (.int .i64 0) false x41 x42 m) m) fun x43 m=>
  bp (pur (bin .add true true .int x43 (.int .i64 1)) m) fun x44 m=>
  bp (aMapEntry (.struct [(0,2,true,(.struct [(0,1,false,.int),(1,1,false,.int)])),(2,1,false,.int),(3,1,false,.int),(4,1,false,.int),(5,1,false,.int),(6,1,false,.str),(7,1,false,.int),(8,1,false,.bool)]) (.int .i64 0) x41 x42 m) fun x45 m=>
  ckB (again (pur (aLookup (.struct [(0,2,true,(.struct [(0,1,false,.int),(1,1,false,.int)])),(2,1,false,.int),(3,1,false,.int),(4,1,false,.int),(5,1,false,.int),(6,1,false,.str),(7,1,false,.int),(8,1,false,.bool)]) (.int .i64 0) false x41 x42 m) m) x43 && true)
  (bp (pur (aExtract x45 1) m) fun x46 m=>
  bp (unt (aEntryStore x41 x46 x44 m)) fun _ m=>
  Q1p9 G p2 p5 p1 p3 p4 m)
def Q1ko (G:Gt)(p0 p1 p2 p3 p4:V)(m:M):R:=
  bp (some (aNew Q45 (Value.cells p0).toList m)) fun x47 m=>
  Q1pb G p1 x47 p2 p3 p4 m
theorem Q23r (G:Gt)(a0 a1 a2 a3 a4:V)(m:M):ef G Tryz.f288 [a0,a1,a2,a3,a4] m = Q1ko G a0 a1 a2 a3 a4 m:=
  evFn_of (r:=fun r m=>Q1ko G (r 0) (r 1) (r 2) (r 3) (r 4) m) rfl rfl (tr (seqQ (f:=fun r m=>Q1pb G (r 1) (r 5) (r 2) (r 3) (r 4) m) (tr (seqQ (f:=fun r m=>Q1p9 G (r 2) (r 5) (r 1) (r 3) (r 4) m) (tr (seqQ (f:=fun r m=>Q1p8 G (r 19) (r 18) (r 17) (r 1) (r 3) (r 4) (r 5) m) (tr (blockQ (loopQ (fun i r m=>Qek G i (r 19) (r 18) (r 17) (r 1) (r 3) (r 4) (r 5) m) (fun _ _=>rfl) (fun i0=>tr (seqQ (f:=fun r m=>Q1p7 G (Qek G i0) (r 20) (r 17) (r 19) (r 1) (r 18) (r 3) (r 4) (r 5) m) (tr (seqQ (f:=fun r m=>Q1p6 G (Qek G i0) (r 17) (r 19) (r 1) (r 18) (r 3) (r 4) (r 5) m) (tr (tr (seqQ (f:=fun r m=>Qtr G (Qek G i0) (r 19) (r 18) (r 17) (r 1) (r 3) (r 4) (r 5) m) (fun r m=>by kernel_rfl)) (blockQ (seqQ (f:=fun r m=>Q1p5 G (Qek G i0) (r 7) (r 1) (r 19) (r 18) (r 17) (r 3) (r 4) (r 5) m) (tr (blockQ (seqQ (f:=fun r m=>Q1es G (Qek G i0) (r 31) (r 19) (r 18) (r 17) (r 1) (r 3) (r 4) (r 5) (r 7) m) (fun r m=>by kernel_rfl))) (fun r m=>by kernel_rfl))))) (fun r m=>by kernel_rfl))) (fun r m=>by kernel_rfl))) (fun r m=>by kernel_rfl)))) (fun r m=>by kernel_rfl))) (fun r m=>by kernel_rfl))) (fun r m=>by kernel_rfl))) (fun r m=>by kernel_rfl)) m
def Q23l:En:=⟨Q1vb,Tryz.f288,Tryz.func288,by kernel_rfl,arg5 Q1ko,okarg5 Q23r⟩
def Q1jw (G:Gt)(p5 p1:V)(m:M):R:=
  bp (G.tab Qis [p5,p1] m) fun x0 m=>
  bp (pur (aExtract x0 0) m) fun x1 m=>
  bp (pur (aExtract x0 1) m) fun x2 m=>
  bp (pur (aExtract x0 2) m) fun x3 m=>
  bp (some (aNew Q1x Q2d m)) fun x4 m=>
  bp (unt (aStore 2 x4 x1 m)) fun _ m=>
  bp (G.tab Q1p4 [x2] m) fun x5 m=>
  some (x5,m)
def Q18p (G:Gt):Nat → V → V → V → V → V → M → R
 | 0,_,_,_,_,_,_=>none
 | i + 1,p16,p15,p14,p5,p1,m=>
  bp (pur (bin .lss false true .int p16 p15) m) fun x6 m=>
  brb x6
  (bp (pur (aIndexAddrSl 9 p14 p16) m) fun x7 m=>
  bp (pur (aLoad true 9 x7 m) m) fun x8 m=>
  bp (some (aNew Q45 Q55 m)) fun x9 m=>
  bp (unt (aStore 9 x9 x8 m)) fun _ m=>
  bp (pur (aFieldAddr 0 x9) m) fun x10 m=>
  bp (pur (aLoad true 2 x10 m) m) fun x11 m=>
  bp (G.tab Qop [p5,x11] m) fun x12 m=>
  bp (pur (aExtract x12 0) m) fun x13 m=>
  bp (pur (aExtract x12 1) m) fun x14 m=>
  bp (pur (aFieldAddr 0 x9) m) fun x15 m=>
  bp (pur (aLoad true 2 x15 m) m) fun x16 m=>
  bp (pur (aLoad true 9 x9 m) m) fun x17 m=>
  bp (aBuildSlice Q45 Q55 9 1 [(0,x17)] m) fun x18 m=>
  bp (G.tab Qgq [x13] m) fun x19 m=>
  ckB (again (pur (aLoad true 2 x15 m) m) x16 && (again (pur (aLoad true 9 x9 m) m) x17 && true))
  (bp (apS Q45 9 72 x19 x18 m) fun x20 m=>
  ckB (again (pur (aLoad true 2 x15 m) m) x16 && true)
  (bp (G.tab Qnk [p5,x16,x20] m) fun x21 m=>
  bp (pur (bin .add true true .int p16 (.int .i64 1)) m) fun x22 m=>
  (Q18p G i) x22 p15 p14 p5 p1 m)))
  (Q1jw G p5 p1 m)
def Q1jx (G:Gt)(p16 p15 p14 p5 p1:V)(m:M):R:=
  Q18p G G.rds p16 p15 p14 p5 p1 m
def Q1jy (G:Gt)(p0 p5 p1:V)(m:M):R:=
  bp (pur (lenK 1 p0 m) m) fun x23 m=>
  Q1jx G (.int .i64 0) x23 p0 p5 p1 m
def Q1jz (G:Gt)(p0 p1:V)(m:M):R:=
  bp (G.tab Q105 [] m) fun x24 m=>
  Q1jy G p0 x24 p1 m
def Q1et (G:Gt)(p0 p1:V)(m:M):R:=
  Q1jz G p0 p1 m
theorem Q20u (G:Gt)(a0 a1:V)(m:M):ef G Tryz.f289 [a0,a1] m = Q1et G a0 a1 m:=
  evFn_of (r:=fun r m=>Q1et G (r 0) (r 1) m) rfl rfl (tr (seqQ (f:=fun r m=>Q1jz G (r 0) (r 1) m) (tr (seqQ (f:=fun r m=>Q1jy G (r 0) (r 5) (r 1) m) (tr (tr (seqQ (f:=fun r m=>Q1jw G (r 5) (r 1) m) (fun r m=>by kernel_rfl)) (seqQ (f:=fun r m=>Q1jx G (r 16) (r 15) (r 14) (r 5) (r 1) m) (tr (blockQ (loopQ (fun i r m=>Q18p G i (r 16) (r 15) (r 14) (r 5) (r 1) m) (fun _ _=>rfl) (fun i0=>fun r m=>by kernel_rfl))) (fun r m=>by kernel_rfl)))) (fun r m=>by kernel_rfl))) (fun r m=>by kernel_rfl))) (fun r m=>by kernel_rfl)) m
def Q20g:En:=⟨Q1pa,Tryz.f289,Tryz.func289,by kernel_rfl,arg2 Q1et,okarg2 Q20u⟩
def Q82 (G:Gt)(p0 p1:V)(m:M):R:=
  bp (pur (lenK 1 p0 m) m) fun x0 m=>
  bp (conv (.int .u64) x0 m) fun x1 m=>
  bp (G.tab Q6u [x1] m) fun x2 m=>
  bp (G.tab Q5y [p0,(.int .i64 0),x0,x2,p1] m) fun x3 m=>
  some (.tuple ⟨[]⟩,m)
theorem Qyd (G:Gt)(a0 a1:V)(m:M):ef G Tryz.f290 [a0,a1] m = Q82 G a0 a1 m:=
  evFn_of (r:=fun r m=>Q82 G (r 0) (r 1) m) rfl rfl (fun r m=>by kernel_rfl) m
def Qxf:En:=⟨Qhc,Tryz.f290,Tryz.func290,by kernel_rfl,arg2 Q82,okarg2 Qyd⟩
def Qfq (G:Gt)(p0:V)(m:M):R:=
  some (p0,m)
def Qfr (G:Gt)(p0 p3:V)(m:M):R:=
  bp (pur (aSliceSl 2 p0 (some p3) none) m) fun x0 m=>
  bp (unt (aClear Qk0 2 x0 m)) fun _ m=>
  bp (pur (aSliceSl 2 p0 none (some p3)) m) fun x1 m=>
  some (x1,m)
def Q6o (G:Gt)(k1:V → V → V → V → M → R)(p5 p4 p0 p3:V)(m:M):R:=
  bp (pur (bin .add true true .int p5 (.int .i64 1)) m) fun x2 m=>
  k1 x2 p4 p0 p3 m
def Qez (G:Gt)(k1:V → V → V → V → M → R)(p4 p5 p0 p3:V)(m:M):R:=
  bp (pur (aIndexAddrSl 2 p4 p5) m) fun x3 m=>
  bp (pur (aLoad true 2 x3 m) m) fun x4 m=>
  bp (pur (bin .sub true true .int p5 (.int .i64 1)) m) fun x5 m=>
  bp (pur (aIndexAddrSl 2 p4 x5) m) fun x6 m=>
  bp (pur (aLoad true 2 x6 m) m) fun x7 m=>
  bp (pur (bin .neq false true (.struct [(0,1,false,.str),(1,1,false,.int)]) x4 x7) m) fun x8 m=>
  brb x8
  (bp (pur (aIndexAddrSl 2 p4 p5) m) fun x9 m=>
  bp (pur (aLoad true 2 x9 m) m) fun x10 m=>
  bp (pur (aIndexAddrSl 2 p0 p3) m) fun x11 m=>
  bp (unt (aStore 2 x11 x10 m)) fun _ m=>
  bp (pur (bin .add true true .int p3 (.int .i64 1)) m) fun x12 m=>
  Q6o G k1 p5 p4 p0 x12 m)
  (Q6o G k1 p5 p4 p0 p3 m)
def Q2e (G:Gt):Nat → V → V → V → V → M → R
 | 0,_,_,_,_,_=>none
 | i + 1,p5,p4,p0,p3,m=>
  bp (pur (lenK 1 p4 m) m) fun x13 m=>
  bp (pur (bin .lss false true .int p5 x13) m) fun x14 m=>
  brb x14
  (Qez G (Q2e G i) p4 p5 p0 p3 m)
  (Qfr G p0 p3 m)
def Qfs (G:Gt)(p5 p4 p0 p3:V)(m:M):R:=
  Q2e G G.rds p5 p4 p0 p3 m
def Qft (G:Gt)(p4 p0 p3:V)(m:M):R:=
  Qfs G (.int .i64 1) p4 p0 p3 m
def Qfu (G:Gt)(k0:V → V → M → R)(p25 p0 p3:V)(m:M):R:=
  brb p25
  (bp (pur (aSliceSl 2 p0 (some p3) none) m) fun x15 m=>
  Qft G x15 p0 p3 m)
  (bp (pur (bin .add true true .int p3 (.int .i64 1)) m) fun x16 m=>
  k0 x16 p0 m)
def Qfv (G:Gt)(k0:V → V → M → R)(p0 p3:V)(m:M):R:=
  bp (pur (aIndexAddrSl 2 p0 p3) m) fun x17 m=>
  bp (pur (aLoad true 2 x17 m) m) fun x18 m=>
  bp (pur (bin .sub true true .int p3 (.int .i64 1)) m) fun x19 m=>
  bp (pur (aIndexAddrSl 2 p0 x19) m) fun x20 m=>
  bp (pur (aLoad true 2 x20 m) m) fun x21 m=>
  bp (pur (bin .eql false true (.struct [(0,1,false,.str),(1,1,false,.int)]) x18 x21) m) fun x22 m=>
  Qfu G k0 x22 p0 p3 m
def Q2j (G:Gt):Nat → V → V → M → R
 | 0,_,_,_=>none
 | i + 1,p3,p0,m=>
  bp (pur (lenK 1 p0 m) m) fun x23 m=>
  bp (pur (bin .lss false true .int p3 x23) m) fun x24 m=>
  brb x24
  (Qfv G (Q2j G i) p0 p3 m)
  (Qfq G p0 m)
def Qfw (G:Gt)(p3 p0:V)(m:M):R:=
  Q2j G G.rds p3 p0 m
def Qfx (G:Gt)(p0:V)(m:M):R:=
  Qfw G (.int .i64 1) p0 m
def Qfy (G:Gt)(p0:V)(m:M):R:=
  bp (pur (lenK 1 p0 m) m) fun x25 m=>
  bp (pur (bin .lss true true .int x25 (.int .i64 2)) m) fun x26 m=>
  brb x26
  (some (p0,m))
  (Qfx G p0 m)
def Q8x (G:Gt)(p0:V)(m:M):R:=
  Qfy G p0 m
theorem Qzk (G:Gt)(a0:V)(m:M):ef G Tryz.f292 [a0] m = Q8x G a0 m:=
  evFn_of (r:=fun r m=>Q8x G (r 0) m) rfl rfl (tr (seqQ (f:=fun r m=>Qfy G (r 0) m) (tr (seqQ (f:=fun r m=>Qfx G (r 0) m) (tr (tr (seqQ (f:=fun r m=>Qfq G (r 0) m) (fun r m=>by kernel_rfl)) (seqQ (f:=fun r m=>Qfw G (r 3) (r 0) m) (tr (blockQ (loopQ (fun i r m=>Q2j G i (r 3) (r 0) m) (fun _ _=>rfl) (fun i0=>tr (seqQ (f:=fun r m=>Qfv G (Q2j G i0) (r 0) (r 3) m) (tr (tr seqD (blockQ (seqQ (f:=fun r m=>Qfu G (Q2j G i0) (r 25) (r 0) (r 3) m) (tr (condQ (seqQ (f:=fun r m=>Qft G (r 4) (r 0) (r 3) m) (tr (tr (seqQ (f:=fun r m=>Qfr G (r 0) (r 3) m) (fun r m=>by kernel_rfl)) (seqQ (f:=fun r m=>Qfs G (r 5) (r 4) (r 0) (r 3) m) (tr (blockQ (loopQ (fun i r m=>Q2e G i (r 5) (r 4) (r 0) (r 3) m) (fun _ _=>rfl) (fun i1=>tr (seqQ (f:=fun r m=>Qez G (Q2e G i1) (r 4) (r 5) (r 0) (r 3) m) (tr (seqQ (f:=fun r m=>Q6o G (Q2e G i1) (r 5) (r 4) (r 0) (r 3) m) (fun r m=>by kernel_rfl)) (fun r m=>by kernel_rfl))) (fun r m=>by kernel_rfl)))) (fun r m=>by kernel_rfl)))) (fun r m=>by kernel_rfl))) (refQ)) (fun r m=>by kernel_rfl))))) (fun r m=>by kernel_rfl))) (fun r m=>by kernel_rfl)))) (fun r m=>by kernel_rfl)))) (fun r m=>by kernel_rfl))) (fun r m=>by kernel_rfl))) (fun r m=>by kernel_rfl)) m
def Qzi:En:=⟨Qib,Tryz.f292,Tryz.func292,by kernel_rfl,arg1 Q8x,okarg1 Qzk⟩
def Qsk (G:Gt)(p1 p0 p2 p3 p4:V)(m:M):R:=
  bp (pur (aLoad false 1 p1 m) m) fun x0 m=>
  bp (pur (aLookup .int (.bool false) false x0 p0 m) m) fun x1 m=>
  brb x1
  (some (.tuple ⟨[]⟩,m))
  (bp (pur (aLoad false 1 p1 m) m) fun x2 m=>
  bp (unt (aMapUpdate .int x2 p0 (.bool true) m)) fun _ m=>
  bp (pur (aLoad false 1 p2 m) m) fun x3 m=>
  bp (evCall G.tab x3 [p0] m) fun x4 m=>
  bp (pur (aLoad false 1 p3 m) m) fun x5 m=>
  bp (pur (aLoad false 1 p4 m) m) fun x6 m=>
  bp (pur (aNilCheck x6) m) fun x7 m=>
  bp (pur (aFieldAddr 2 x7) m) fun x8 m=>
  bp (pur (aLoad false 1 x8 m) m) fun x9 m=>
  bp (pur (aIndexAddrSl 3 x9 p0) m) fun x10 m=>
  bp (pur (aFieldAddr 1 x10) m) fun x11 m=>
  bp (pur (aLoad false 1 x11 m) m) fun x12 m=>
  bp (evCall G.tab x5 [x12] m) fun x13 m=>
  bp (pur (aLoad false 1 p3 m) m) fun x14 m=>
  bp (pur (aLoad false 1 p4 m) m) fun x15 m=>
  bp (pur (aNilCheck x15) m) fun x16 m=>
  bp (pur (aFieldAddr 2 x16) m) fun x17 m=>
  bp (pur (aLoad false 1 x17 m) m) fun x18 m=>
  bp (pur (aIndexAddrSl 3 x18 p0) m) fun x19 m=>
  bp (pur (aFieldAddr 2 x19) m) fun x20 m=>
  bp (pur (aLoad false 1 x20 m) m) fun x21 m=>
  bp (evCall G.tab x14 [x21] m) fun x22 m=>
  some (.tuple ⟨[]⟩,m))
theorem Q1no (G:Gt)(a0 a1 a2 a3 a4:V)(m:M):ef G Tryz.f293 [a0,a1,a2,a3,a4] m = Qsk G a1 a0 a2 a3 a4 m:=
  evFn_of (r:=fun r m=>Qsk G (r 1) (r 0) (r 2) (r 3) (r 4) m) rfl rfl (fun r m=>by kernel_rfl) m
def Q1n9:En:=⟨Q18q,Tryz.f293,Tryz.func293,by kernel_rfl,arg5 (fun G a0 a1 a2 a3 a4 m=>Qsk G a1 a0 a2 a3 a4 m),okarg5 Q1no⟩
end
end Go.Ab.Sh
