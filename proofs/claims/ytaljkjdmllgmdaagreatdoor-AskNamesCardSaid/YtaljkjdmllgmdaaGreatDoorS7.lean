/-
  Functions of the program as plain definitions. No conditions.
-/
import Derived.Test.YtaljkjdmllgmdaaGreatDoorAb5
import Derived.Test.YtaljkjdmllgmdaaGreatDoorZ
import Derived.KernelRfl
import Derived.Test.YtaljkjdmllgmdaaGreatDoorProg
set_option linter.unusedSimpArgs false
set_option linter.unusedVariables false
set_option maxRecDepth 100000
namespace Go.Ab.Sh
open Go Go.Ab Go.Proofs
noncomputable section
def Qbq (G:Gt)(k0:J4)(p6 p2 p1 p0:V)(m:M):R:=bp (pur (bin .add true true .int p6 (.int .i64 1)) m) fun x0 m=>k0 x0 p2 p1 p0 m
def Q5s (G:Gt)(k1:J5)(k0:J4)(p30 p0 p7 p1 p6 p2:V)(m:M):R:=brb p30 (bp (pur (bin .sub true true .int p7 (.int .i64 1)) m) fun x1 m=>bp (pur (bin .sub true true .int p7 (.int .i64 1)) m) fun x2 m=>bp (pur (X4 1 p0 x2) m) fun x3 m=>bp (pur (X3 false 1 x3 m) m) fun x4 m=>bp (pur (X4 1 p0 p7) m) fun x5 m=>bp (pur (X3 false 1 x5 m) m) fun x6 m=>bp (pur (X4 1 p0 p7) m) fun x7 m=>bp (unt (X8 1 x7 x4 m)) fun _ m=>bp (pur (X4 1 p0 x1) m) fun x8 m=>bp (unt (X8 1 x8 x6 m)) fun _ m=>bp (pur (bin .sub true true .int p7 (.int .i64 1)) m) fun x9 m=>k1 x9 p1 p0 p6 p2 m) (Qbq G k0 p6 p2 p1 p0 m)
def Q26 (G:Gt)(k0:J4):Nat→V→V→V→V→V→M→R
 | 0,_,_,_,_,_,_=>none
 | i + 1,p7,p1,p0,p6,p2,m=>bp (pur (bin .gtr false true .int p7 p1) m) fun x10 m=>brt x10 (bp (pur (X4 1 p0 p7) m) fun x11 m=>bp (pur (X3 false 1 x11 m) m) fun x12 m=>bp (pur (bin .sub true true .int p7 (.int .i64 1)) m) fun x13 m=>bp (pur (X4 1 p0 x13) m) fun x14 m=>bp (pur (X3 false 1 x14 m) m) fun x15 m=>bp (G.tab Q1z [x12,x15] m) fun x16 m=>Q5s G (Q26 G k0 i) k0 x16 p0 p7 p1 p6 p2 m) (Q5s G (Q26 G k0 i) k0 (.bool false) p0 p7 p1 p6 p2 m) (none)
def Qbr (G:Gt)(k0:J4)(p7 p1 p0 p6 p2:V)(m:M):R:=Q26 G k0 G.rds p7 p1 p0 p6 p2 m
def Qbs (G:Gt)(k0:J4)(p6 p1 p0 p2:V)(m:M):R:=Qbr G k0 p6 p1 p0 p6 p2 m
def Qq (G:Gt):Nat→V→V→V→V→M→R
 | 0,_,_,_,_,_=>none
 | i + 1,p6,p2,p1,p0,m=>bp (pur (bin .lss false true .int p6 p2) m) fun x17 m=>brb x17 (Qbs G (Qq G i) p6 p1 p0 p2 m) (some (.tuple ⟨[]⟩,m))
def Qbt (G:Gt)(p6 p2 p1 p0:V)(m:M):R:=Qq G G.rds p6 p2 p1 p0 m
def Q6a (G:Gt)(p1 p2 p0:V)(m:M):R:=bp (pur (bin .add true true .int p1 (.int .i64 1)) m) fun x18 m=>Qbt G x18 p2 p1 p0 m
theorem Quj (G:Gt)(a0 a1 a2:V)(m:M):ef G Tryz.f612 [a0,a1,a2] m = Q6a G a1 a2 a0 m:=X7 (r:=fun r m=>Q6a G (r 1) (r 2) (r 0) m) rfl rfl (tr (seqQ (f:=fun r m=>Qbt G (r 6) (r 2) (r 1) (r 0) m) (tr (Xc (Xj (fun i r m=>Qq G i (r 6) (r 2) (r 1) (r 0) m) (fun _ _=>rfl) (fun i0=>tr (seqQ (f:=fun r m=>Qbs G (Qq G i0) (r 6) (r 1) (r 0) (r 2) m) (tr (tr (seqQ (f:=fun r m=>Qbq G (Qq G i0) (r 6) (r 2) (r 1) (r 0) m)) (Xc (seqQ (f:=fun r m=>Qbr G (Qq G i0) (r 7) (r 1) (r 0) (r 6) (r 2) m) (tr (Xc (Xj (fun i r m=>Q26 G (Qq G i0) i (r 7) (r 1) (r 0) (r 6) (r 2) m) (fun _ _=>rfl) (fun i1=>tr (tr seqD (seqQ (f:=fun r m=>Q5s G (Q26 G (Qq G i0) i1) (Qq G i0) (r 30) (r 0) (r 7) (r 1) (r 6) (r 2) m)))))))))))))))))) m
def Quh:En:=⟨Qd0,Tryz.f612,Tryz.func612,by kernel_rfl,arg3 (fun G a0 a1 a2 m=>Q6a G a1 a2 a0 m),Xx Quj⟩
def Q6b (G:Gt)(p9 p11:V)(m:M):R:=bp (pur (X3 false 1 p9 m) m) fun x0 m=>bp (pur (bin .eql true true .int x0 (.int .i64 0)) m) fun x1 m=>brb x1 (some (.tuple ⟨[p11,(.int .i64 1)]⟩,m)) (bp (pur (bin .eql true true .int x0 (.int .i64 12)) m) fun x2 m=>brb x2 (some (.tuple ⟨[p11,(.int .i64 2)]⟩,m)) (some (.tuple ⟨[p11,(.int .i64 0)]⟩,m)))
def Q6c (G:Gt)(p0 p10 p11 p12 p9:V)(m:M):R:=bp (G.tab Qbu [p0,p10,p11,p12,p9] m) fun x3 m=>Q6b G p9 x3 m
def Qd1 (G:Gt)(p32 p8 p0 p10 p9 p11 p12:V)(m:M):R:=brb p32 (bp (pur (bin .geq true true .int p8 (.int .i64 50)) m) fun x4 m=>brb x4 (bp (G.tab Q39 [p0,p10,p9] m) fun x5 m=>bp (G.tab Q39 [p0,p11,p9] m) fun x6 m=>bp (G.tab Q39 [p0,p12,p9] m) fun x7 m=>Q6c G p0 x5 x6 x7 p9 m) (Q6c G p0 p10 p11 p12 p9 m)) (Q6b G p9 p11 m)
def Qd2 (G:Gt)(p8 p0 p10 p9 p11 p12:V)(m:M):R:=bp (pur (bin .geq true true .int p8 (.int .i64 8)) m) fun x8 m=>Qd1 G x8 p8 p0 p10 p9 p11 p12 m
def Qd3 (G:Gt)(p1 p8 p0 p10 p9 p11:V)(m:M):R:=bp (pur (bin .quo true true .int p8 (.int .i64 4)) m) fun x9 m=>bp (pur (bin .mul true true .int x9 (.int .i64 3)) m) fun x10 m=>bp (pur (bin .add false true .int p1 x10) m) fun x11 m=>Qd2 G p8 p0 p10 p9 p11 x11 m
def Qd4 (G:Gt)(p1 p8 p0 p10 p9:V)(m:M):R:=bp (pur (bin .quo true true .int p8 (.int .i64 4)) m) fun x12 m=>bp (pur (bin .mul true true .int x12 (.int .i64 2)) m) fun x13 m=>bp (pur (bin .add false true .int p1 x13) m) fun x14 m=>Qd3 G p1 p8 p0 p10 p9 x14 m
def Qd5 (G:Gt)(p1 p8 p0 p9:V)(m:M):R:=bp (pur (bin .quo true true .int p8 (.int .i64 4)) m) fun x15 m=>bp (pur (bin .mul true true .int x15 (.int .i64 1)) m) fun x16 m=>bp (pur (bin .add false true .int p1 x16) m) fun x17 m=>Qd4 G p1 p8 p0 x17 p9 m
def Qd6 (G:Gt)(p1 p8 p0:V)(m:M):R:=bp (some (aNew Q4w [(.int .i64 0)] m)) fun x18 m=>Qd5 G p1 p8 p0 x18 m
def Qd7 (G:Gt)(p2 p1 p0:V)(m:M):R:=bp (pur (bin .sub false true .int p2 p1) m) fun x19 m=>Qd6 G p1 x19 p0 m
def Q8a (G:Gt)(p2 p1 p0:V)(m:M):R:=Qd7 G p2 p1 p0 m
theorem Qxl (G:Gt)(a0 a1 a2:V)(m:M):ef G Tryz.f615 [a0,a1,a2] m = Q8a G a2 a1 a0 m:=X7 (r:=fun r m=>Q8a G (r 2) (r 1) (r 0) m) rfl rfl (tr (seqQ (f:=fun r m=>Qd7 G (r 2) (r 1) (r 0) m) (tr (seqQ (f:=fun r m=>Qd6 G (r 1) (r 8) (r 0) m) (tr (seqQ (f:=fun r m=>Qd5 G (r 1) (r 8) (r 0) (r 9) m) (tr (seqQ (f:=fun r m=>Qd4 G (r 1) (r 8) (r 0) (r 10) (r 9) m) (tr (seqQ (f:=fun r m=>Qd3 G (r 1) (r 8) (r 0) (r 10) (r 9) (r 11) m) (tr (seqQ (f:=fun r m=>Qd2 G (r 8) (r 0) (r 10) (r 9) (r 11) (r 12) m) (tr (tr (seqQ (f:=fun r m=>Q6b G (r 9) (r 11) m)) (seqQ (f:=fun r m=>Qd1 G (r 32) (r 8) (r 0) (r 10) (r 9) (r 11) (r 12) m) (tr (X4j (seqQ (f:=fun r m=>Q6c G (r 0) (r 10) (r 11) (r 12) (r 9) m)) (refQ)))))))))))))))))) m
def Qxi:En:=⟨Qf3,Tryz.f615,Tryz.func615,by kernel_rfl,arg3 (fun G a0 a1 a2 m=>Q8a G a2 a1 a0 m),Xx Qxl⟩
def Q7y (G:Gt)(m:M):R:=some ((.bool false),m)
def Q27 (G:Gt)(k0:J5)(p8 p7 p2 p0 p1:V)(m:M):R:=bp (pur (bin .add true true .int p8 (.int .i64 1)) m) fun x0 m=>k0 x0 p7 p2 p0 p1 m
def Q34 (G:Gt)(k0:J5):Nat→V→V→V→V→V→V→M→R
 | 0,_,_,_,_,_,_,_=>none
 | i + 1,p10,p2,p0,p8,p7,p1,m=>bp (pur (bin .lss false true .int p10 p2) m) fun x1 m=>brb x1 (bp (pur (X4 1 p0 p10) m) fun x2 m=>bp (pur (X3 false 1 x2 m) m) fun x3 m=>bp (pur (bin .sub true true .int p10 (.int .i64 1)) m) fun x4 m=>bp (pur (X4 1 p0 x4) m) fun x5 m=>bp (pur (X3 false 1 x5 m) m) fun x6 m=>bp (G.tab Q1z [x3,x6] m) fun x7 m=>bp (pur (un .not x7) m) fun x8 m=>brb x8 (Q27 G k0 p8 p7 p2 p0 p1 m) (bp (pur (bin .sub true true .int p10 (.int .i64 1)) m) fun x9 m=>bp (pur (bin .sub true true .int p10 (.int .i64 1)) m) fun x10 m=>bp (pur (X4 1 p0 x10) m) fun x11 m=>bp (pur (X3 false 1 x11 m) m) fun x12 m=>bp (pur (X4 1 p0 p10) m) fun x13 m=>bp (pur (X3 false 1 x13 m) m) fun x14 m=>bp (pur (X4 1 p0 p10) m) fun x15 m=>bp (unt (X8 1 x15 x12 m)) fun _ m=>bp (pur (X4 1 p0 x9) m) fun x16 m=>bp (unt (X8 1 x16 x14 m)) fun _ m=>bp (pur (bin .add true true .int p10 (.int .i64 1)) m) fun x17 m=>(Q34 G k0 i) x17 p2 p0 p8 p7 p1 m)) (Q27 G k0 p8 p7 p2 p0 p1 m)
def Q6x (G:Gt)(k0:J5)(p10 p2 p0 p8 p7 p1:V)(m:M):R:=Q34 G k0 G.rds p10 p2 p0 p8 p7 p1 m
def Q6y (G:Gt)(k0:J5)(p98 p7 p2 p0 p8 p1:V)(m:M):R:=brb p98 (bp (pur (bin .add true true .int p7 (.int .i64 1)) m) fun x18 m=>Q6x G k0 x18 p2 p0 p8 p7 p1 m) (Q27 G k0 p8 p7 p2 p0 p1 m)
def Q24 (G:Gt)(k0:J5)(p2 p7 p0 p8 p1:V)(m:M):R:=bp (pur (bin .sub false true .int p2 p7) m) fun x19 m=>bp (pur (bin .geq true true .int x19 (.int .i64 2)) m) fun x20 m=>Q6y G k0 x20 p7 p2 p0 p8 p1 m
def Q35 (G:Gt)(k0:J5):Nat→V→V→V→V→V→V→M→R
 | 0,_,_,_,_,_,_,_=>none
 | i + 1,p9,p0,p2,p7,p8,p1,m=>bp (pur (bin .geq true true .int p9 (.int .i64 1)) m) fun x21 m=>brb x21 (bp (pur (X4 1 p0 p9) m) fun x22 m=>bp (pur (X3 false 1 x22 m) m) fun x23 m=>bp (pur (bin .sub true true .int p9 (.int .i64 1)) m) fun x24 m=>bp (pur (X4 1 p0 x24) m) fun x25 m=>bp (pur (X3 false 1 x25 m) m) fun x26 m=>bp (G.tab Q1z [x23,x26] m) fun x27 m=>bp (pur (un .not x27) m) fun x28 m=>brb x28 (Q24 G k0 p2 p7 p0 p8 p1 m) (bp (pur (bin .sub true true .int p9 (.int .i64 1)) m) fun x29 m=>bp (pur (bin .sub true true .int p9 (.int .i64 1)) m) fun x30 m=>bp (pur (X4 1 p0 x30) m) fun x31 m=>bp (pur (X3 false 1 x31 m) m) fun x32 m=>bp (pur (X4 1 p0 p9) m) fun x33 m=>bp (pur (X3 false 1 x33 m) m) fun x34 m=>bp (pur (X4 1 p0 p9) m) fun x35 m=>bp (unt (X8 1 x35 x32 m)) fun _ m=>bp (pur (X4 1 p0 x29) m) fun x36 m=>bp (unt (X8 1 x36 x34 m)) fun _ m=>bp (pur (bin .sub true true .int p9 (.int .i64 1)) m) fun x37 m=>(Q35 G k0 i) x37 p0 p2 p7 p8 p1 m)) (Q24 G k0 p2 p7 p0 p8 p1 m)
def Q6z (G:Gt)(k0:J5)(p9 p0 p2 p7 p8 p1:V)(m:M):R:=Q35 G k0 G.rds p9 p0 p2 p7 p8 p1 m
def Q70 (G:Gt)(k0:J5)(p61 p7 p0 p2 p8 p1:V)(m:M):R:=brb p61 (bp (pur (bin .sub true true .int p7 (.int .i64 1)) m) fun x38 m=>Q6z G k0 x38 p0 p2 p7 p8 p1 m) (Q24 G k0 p2 p7 p0 p8 p1 m)
def Q71 (G:Gt)(k0:J5)(p7 p1 p0 p2 p8:V)(m:M):R:=bp (pur (bin .sub false true .int p7 p1) m) fun x39 m=>bp (pur (bin .geq true true .int x39 (.int .i64 2)) m) fun x40 m=>Q70 G k0 x40 p7 p0 p2 p8 p1 m
def Q7z (G:Gt)(k0:J5)(p0 p7 p1 p2 p8:V)(m:M):R:=bp (pur (bin .sub true true .int p7 (.int .i64 1)) m) fun x41 m=>bp (pur (bin .sub true true .int p7 (.int .i64 1)) m) fun x42 m=>bp (pur (X4 1 p0 x42) m) fun x43 m=>bp (pur (X3 false 1 x43 m) m) fun x44 m=>bp (pur (X4 1 p0 p7) m) fun x45 m=>bp (pur (X3 false 1 x45 m) m) fun x46 m=>bp (pur (X4 1 p0 p7) m) fun x47 m=>bp (unt (X8 1 x47 x44 m)) fun _ m=>bp (pur (X4 1 p0 x41) m) fun x48 m=>bp (unt (X8 1 x48 x46 m)) fun _ m=>Q71 G k0 p7 p1 p0 p2 p8 m
def Q80 (G:Gt)(k0:J5)(p2 p1 p0 p7 p8:V)(m:M):R:=bp (pur (bin .sub false true .int p2 p1) m) fun x49 m=>bp (pur (bin .lss true true .int x49 (.int .i64 50)) m) fun x50 m=>brb x50 (some ((.bool false),m)) (Q7z G k0 p0 p7 p1 p2 p8 m)
def Q81 (G:Gt)(k0:J5)(p7 p2 p1 p0 p8:V)(m:M):R:=bp (pur (bin .eql false true .int p7 p2) m) fun x51 m=>brb x51 (some ((.bool true),m)) (Q80 G k0 p2 p1 p0 p7 p8 m)
def Q36 (G:Gt)(k1:J5)(k0:J5)(p32 p7 p2 p0 p1 p8:V)(m:M):R:=brb p32 (bp (pur (bin .add true true .int p7 (.int .i64 1)) m) fun x52 m=>k1 x52 p2 p0 p1 p8 m) (Q81 G k0 p7 p2 p1 p0 p8 m)
def Q1d (G:Gt)(k0:J5):Nat→V→V→V→V→V→M→R
 | 0,_,_,_,_,_,_=>none
 | i + 1,p7,p2,p0,p1,p8,m=>bp (pur (bin .lss false true .int p7 p2) m) fun x53 m=>brt x53 (bp (pur (X4 1 p0 p7) m) fun x54 m=>bp (pur (X3 false 1 x54 m) m) fun x55 m=>bp (pur (bin .sub true true .int p7 (.int .i64 1)) m) fun x56 m=>bp (pur (X4 1 p0 x56) m) fun x57 m=>bp (pur (X3 false 1 x57 m) m) fun x58 m=>bp (G.tab Q1z [x55,x58] m) fun x59 m=>bp (pur (un .not x59) m) fun x60 m=>Q36 G (Q1d G k0 i) k0 x60 p7 p2 p0 p1 p8 m) (Q36 G (Q1d G k0 i) k0 (.bool false) p7 p2 p0 p1 p8 m) (none)
def Q82 (G:Gt)(k0:J5)(p7 p2 p0 p1 p8:V)(m:M):R:=Q1d G k0 G.rds p7 p2 p0 p1 p8 m
def Q1 (G:Gt):Nat→V→V→V→V→V→M→R
 | 0,_,_,_,_,_,_=>none
 | i + 1,p8,p7,p2,p0,p1,m=>bp (pur (bin .lss true true .int p8 (.int .i64 5)) m) fun x61 m=>brb x61 (Q82 G (Q1 G i) p7 p2 p0 p1 p8 m) (Q7y G m)
def Q83 (G:Gt)(p8 p7 p2 p0 p1:V)(m:M):R:=Q1 G G.rds p8 p7 p2 p0 p1 m
def Q84 (G:Gt)(p7 p2 p0 p1:V)(m:M):R:=Q83 G (.int .i64 0) p7 p2 p0 p1 m
def Q85 (G:Gt)(p1 p2 p0:V)(m:M):R:=bp (pur (bin .add true true .int p1 (.int .i64 1)) m) fun x62 m=>Q84 G x62 p2 p0 p1 m
def Q42 (G:Gt)(p1 p2 p0:V)(m:M):R:=Q85 G p1 p2 p0 m
theorem Qkn (G:Gt)(a0 a1 a2:V)(m:M):ef G Tryz.f617 [a0,a1,a2] m = Q42 G a1 a2 a0 m:=X7 (r:=fun r m=>Q42 G (r 1) (r 2) (r 0) m) rfl rfl (tr (seqQ (f:=fun r m=>Q85 G (r 1) (r 2) (r 0) m) (tr (seqQ (f:=fun r m=>Q84 G (r 7) (r 2) (r 0) (r 1) m) (tr (tr (seqQ (f:=fun r m=>Q7y G m)) (seqQ (f:=fun r m=>Q83 G (r 8) (r 7) (r 2) (r 0) (r 1) m) (tr (Xc (Xj (fun i r m=>Q1 G i (r 8) (r 7) (r 2) (r 0) (r 1) m) (fun _ _=>rfl) (fun i0=>tr (seqQ (f:=fun r m=>Q82 G (Q1 G i0) (r 7) (r 2) (r 0) (r 1) (r 8) m) (tr (tr (seqQ (f:=fun r m=>Q27 G (Q1 G i0) (r 8) (r 7) (r 2) (r 0) (r 1) m)) (Xc (tr (seqQ (f:=fun r m=>Q81 G (Q1 G i0) (r 7) (r 2) (r 1) (r 0) (r 8) m) (tr (seqQ (f:=fun r m=>Q80 G (Q1 G i0) (r 2) (r 1) (r 0) (r 7) (r 8) m) (tr (seqQ (f:=fun r m=>Q7z G (Q1 G i0) (r 0) (r 7) (r 1) (r 2) (r 8) m) (tr (seqQ (f:=fun r m=>Q71 G (Q1 G i0) (r 7) (r 1) (r 0) (r 2) (r 8) m) (tr (tr (seqQ (f:=fun r m=>Q24 G (Q1 G i0) (r 2) (r 7) (r 0) (r 8) (r 1) m) (tr (seqQ (f:=fun r m=>Q6y G (Q1 G i0) (r 98) (r 7) (r 2) (r 0) (r 8) (r 1) m) (tr (X4j (seqQ (f:=fun r m=>Q6x G (Q1 G i0) (r 10) (r 2) (r 0) (r 8) (r 7) (r 1) m) (tr (Xc (Xj (fun i r m=>Q34 G (Q1 G i0) i (r 10) (r 2) (r 0) (r 8) (r 7) (r 1) m) (fun _ _=>rfl) (fun i1=>fun r m=>by kernel_rfl))))) (refQ)))))) (seqQ (f:=fun r m=>Q70 G (Q1 G i0) (r 61) (r 7) (r 0) (r 2) (r 8) (r 1) m) (tr (X4j (seqQ (f:=fun r m=>Q6z G (Q1 G i0) (r 9) (r 0) (r 2) (r 7) (r 8) (r 1) m) (tr (Xc (Xj (fun i r m=>Q35 G (Q1 G i0) i (r 9) (r 0) (r 2) (r 7) (r 8) (r 1) m) (fun _ _=>rfl) (fun i1=>fun r m=>by kernel_rfl))))) (refQ))))))))))))) (Xc (Xj (fun i r m=>Q1d G (Q1 G i0) i (r 7) (r 2) (r 0) (r 1) (r 8) m) (fun _ _=>rfl) (fun i1=>tr (tr seqD (seqQ (f:=fun r m=>Q36 G (Q1d G (Q1 G i0) i1) (Q1 G i0) (r 32) (r 7) (r 2) (r 0) (r 1) (r 8) m)))))))))))))))))))))) m
def Qkl:En:=⟨Q90,Tryz.f617,Tryz.func617,by kernel_rfl,arg3 (fun G a0 a1 a2 m=>Q42 G a1 a2 a0 m),Xx Qkn⟩
def Qcx (G:Gt)(p4:V)(m:M):R:=some (p4,m)
def Qu9 (G:Gt)(p0 p1:V)(m:M):R:=bp (G.tab Q88 [p0] m) fun x0 m=>brb x0 (bp (G.tab Q88 [p1] m) fun x1 m=>bp (pur (un .not x1) m) fun x2 m=>brb x2 (Qcx G (.bool true) m) (bp (pur (bin .lss false true .int p0 p1) m) fun x3 m=>Qcx G x3 m)) (bp (pur (bin .lss false true .int p0 p1) m) fun x4 m=>Qcx G x4 m)
def Q97 (G:Gt)(p0 p1:V)(m:M):R:=Qu9 G p0 p1 m
theorem Q1x1 (G:Gt)(a0 a1:V)(m:M):ef G Tryz.f618 [a0,a1] m = Q97 G a0 a1 m:=X7 (r:=fun r m=>Q97 G (r 0) (r 1) m) rfl rfl (tr (seqQ (f:=fun r m=>Qu9 G (r 0) (r 1) m) (tr (seqQ (f:=fun r m=>Qcx G (r 4) m))))) m
def Q10j:En:=⟨Q1z,Tryz.f618,Tryz.func618,by kernel_rfl,arg2 Q97,Xk Q1x1⟩
end
end Go.Ab.Sh

set_option maxRecDepth 100000
namespace Go.Ab.Sh
open Go Go.Ab Go.Proofs
noncomputable section
def Qf8 (G:Gt)(p0 p11 p1:V)(m:M):R:=bp (pur (X4 1 p0 p1) m) fun x0 m=>bp (pur (X3 false 1 x0 m) m) fun x1 m=>bp (pur (X4 1 p0 p11) m) fun x2 m=>bp (pur (X3 false 1 x2 m) m) fun x3 m=>bp (pur (X4 1 p0 p11) m) fun x4 m=>bp (unt (X8 1 x4 x1 m)) fun _ m=>bp (pur (X4 1 p0 p1) m) fun x5 m=>bp (unt (X8 1 x5 x3 m)) fun _ m=>some (.tuple ⟨[p11,(.bool false)]⟩,m)
def Qeg (G:Gt)(k0:J4)(p10 p11 p0 p1:V)(m:M):R:=bp (pur (bin .gtr false true .int p10 p11) m) fun x6 m=>brb x6 (Qf8 G p0 p11 p1 m) (bp (pur (X4 1 p0 p11) m) fun x7 m=>bp (pur (X3 false 1 x7 m) m) fun x8 m=>bp (pur (X4 1 p0 p10) m) fun x9 m=>bp (pur (X3 false 1 x9 m) m) fun x10 m=>bp (pur (X4 1 p0 p10) m) fun x11 m=>bp (unt (X8 1 x11 x8 m)) fun _ m=>bp (pur (X4 1 p0 p11) m) fun x12 m=>bp (unt (X8 1 x12 x10 m)) fun _ m=>bp (pur (bin .add true true .int p10 (.int .i64 1)) m) fun x13 m=>bp (pur (bin .sub true true .int p11 (.int .i64 1)) m) fun x14 m=>k0 x13 x14 p0 p1 m)
def Q72 (G:Gt)(k1:J4)(k0:J4)(p129 p11 p10 p0 p1:V)(m:M):R:=brb p129 (bp (pur (bin .sub true true .int p11 (.int .i64 1)) m) fun x15 m=>k1 p10 x15 p0 p1 m) (Qeg G k0 p10 p11 p0 p1 m)
def Q2e (G:Gt)(k0:J4):Nat→V→V→V→V→M→R
 | 0,_,_,_,_,_=>none
 | i + 1,p10,p11,p0,p1,m=>bp (pur (bin .leq false true .int p10 p11) m) fun x16 m=>brt x16 (bp (pur (X4 1 p0 p11) m) fun x17 m=>bp (pur (X3 false 1 x17 m) m) fun x18 m=>bp (pur (X4 1 p0 p1) m) fun x19 m=>bp (pur (X3 false 1 x19 m) m) fun x20 m=>bp (G.tab Q1z [x18,x20] m) fun x21 m=>bp (pur (un .not x21) m) fun x22 m=>Q72 G (Q2e G k0 i) k0 x22 p11 p10 p0 p1 m) (Q72 G (Q2e G k0 i) k0 (.bool false) p11 p10 p0 p1 m) (none)
def Qeh (G:Gt)(k0:J4)(p10 p11 p0 p1:V)(m:M):R:=Q2e G k0 G.rds p10 p11 p0 p1 m
def Q73 (G:Gt)(k1:J4)(k0:J4)(p112 p10 p11 p0 p1:V)(m:M):R:=brb p112 (bp (pur (bin .add true true .int p10 (.int .i64 1)) m) fun x23 m=>k1 x23 p11 p0 p1 m) (Qeh G k0 p10 p11 p0 p1 m)
def Q2f (G:Gt)(k0:J4):Nat→V→V→V→V→M→R
 | 0,_,_,_,_,_=>none
 | i + 1,p10,p11,p0,p1,m=>bp (pur (bin .leq false true .int p10 p11) m) fun x24 m=>brt x24 (bp (pur (X4 1 p0 p10) m) fun x25 m=>bp (pur (X3 false 1 x25 m) m) fun x26 m=>bp (pur (X4 1 p0 p1) m) fun x27 m=>bp (pur (X3 false 1 x27 m) m) fun x28 m=>bp (G.tab Q1z [x26,x28] m) fun x29 m=>Q73 G (Q2f G k0 i) k0 x29 p10 p11 p0 p1 m) (Q73 G (Q2f G k0 i) k0 (.bool false) p10 p11 p0 p1 m) (none)
def Qi (G:Gt):Nat→V→V→V→V→M→R
 | 0,_,_,_,_,_=>none
 | i + 1,p10,p11,p0,p1,m=>Q2f G (Qi G i) G.rds p10 p11 p0 p1 m
def Qf9 (G:Gt)(p10 p11 p0 p1:V)(m:M):R:=Qi G G.rds p10 p11 p0 p1 m
def Qfa (G:Gt)(p11 p10 p0 p1:V)(m:M):R:=bp (pur (bin .sub true true .int p11 (.int .i64 1)) m) fun x30 m=>Qf9 G p10 x30 p0 p1 m
def Qfb (G:Gt)(p10 p11 p0 p1:V)(m:M):R:=bp (pur (bin .add true true .int p10 (.int .i64 1)) m) fun x31 m=>Qfa G p11 x31 p0 p1 m
def Qfc (G:Gt)(p0 p10 p11 p1:V)(m:M):R:=bp (pur (X4 1 p0 p11) m) fun x32 m=>bp (pur (X3 false 1 x32 m) m) fun x33 m=>bp (pur (X4 1 p0 p10) m) fun x34 m=>bp (pur (X3 false 1 x34 m) m) fun x35 m=>bp (pur (X4 1 p0 p10) m) fun x36 m=>bp (unt (X8 1 x36 x33 m)) fun _ m=>bp (pur (X4 1 p0 p11) m) fun x37 m=>bp (unt (X8 1 x37 x35 m)) fun _ m=>Qfb G p10 p11 p0 p1 m
def Qfd (G:Gt)(p10 p11 p0 p1:V)(m:M):R:=bp (pur (bin .gtr false true .int p10 p11) m) fun x38 m=>brb x38 (bp (pur (X4 1 p0 p1) m) fun x39 m=>bp (pur (X3 false 1 x39 m) m) fun x40 m=>bp (pur (X4 1 p0 p11) m) fun x41 m=>bp (pur (X3 false 1 x41 m) m) fun x42 m=>bp (pur (X4 1 p0 p11) m) fun x43 m=>bp (unt (X8 1 x43 x40 m)) fun _ m=>bp (pur (X4 1 p0 p1) m) fun x44 m=>bp (unt (X8 1 x44 x42 m)) fun _ m=>some (.tuple ⟨[p11,(.bool true)]⟩,m)) (Qfc G p0 p10 p11 p1 m)
def Q74 (G:Gt)(k0:J4)(p60 p11 p10 p0 p1:V)(m:M):R:=brb p60 (bp (pur (bin .sub true true .int p11 (.int .i64 1)) m) fun x45 m=>k0 p10 x45 p0 p1 m) (Qfd G p10 p11 p0 p1 m)
def Q2g (G:Gt):Nat→V→V→V→V→M→R
 | 0,_,_,_,_,_=>none
 | i + 1,p10,p11,p0,p1,m=>bp (pur (bin .leq false true .int p10 p11) m) fun x46 m=>brt x46 (bp (pur (X4 1 p0 p11) m) fun x47 m=>bp (pur (X3 false 1 x47 m) m) fun x48 m=>bp (pur (X4 1 p0 p1) m) fun x49 m=>bp (pur (X3 false 1 x49 m) m) fun x50 m=>bp (G.tab Q1z [x48,x50] m) fun x51 m=>bp (pur (un .not x51) m) fun x52 m=>Q74 G (Q2g G i) x52 p11 p10 p0 p1 m) (Q74 G (Q2g G i) (.bool false) p11 p10 p0 p1 m) (none)
def Qfe (G:Gt)(p10 p11 p0 p1:V)(m:M):R:=Q2g G G.rds p10 p11 p0 p1 m
def Q75 (G:Gt)(k0:J4)(p43 p10 p11 p0 p1:V)(m:M):R:=brb p43 (bp (pur (bin .add true true .int p10 (.int .i64 1)) m) fun x53 m=>k0 x53 p11 p0 p1 m) (Qfe G p10 p11 p0 p1 m)
def Q2h (G:Gt):Nat→V→V→V→V→M→R
 | 0,_,_,_,_,_=>none
 | i + 1,p10,p11,p0,p1,m=>bp (pur (bin .leq false true .int p10 p11) m) fun x54 m=>brt x54 (bp (pur (X4 1 p0 p10) m) fun x55 m=>bp (pur (X3 false 1 x55 m) m) fun x56 m=>bp (pur (X4 1 p0 p1) m) fun x57 m=>bp (pur (X3 false 1 x57 m) m) fun x58 m=>bp (G.tab Q1z [x56,x58] m) fun x59 m=>Q75 G (Q2h G i) x59 p10 p11 p0 p1 m) (Q75 G (Q2h G i) (.bool false) p10 p11 p0 p1 m) (none)
def Qff (G:Gt)(p10 p11 p0 p1:V)(m:M):R:=Q2h G G.rds p10 p11 p0 p1 m
def Qfg (G:Gt)(p1 p2 p0:V)(m:M):R:=bp (pur (bin .add true true .int p1 (.int .i64 1)) m) fun x60 m=>bp (pur (bin .sub true true .int p2 (.int .i64 1)) m) fun x61 m=>Qff G x60 x61 p0 p1 m
def Qfh (G:Gt)(p0 p1 p3 p2:V)(m:M):R:=bp (pur (X4 1 p0 p3) m) fun x62 m=>bp (pur (X3 false 1 x62 m) m) fun x63 m=>bp (pur (X4 1 p0 p1) m) fun x64 m=>bp (pur (X3 false 1 x64 m) m) fun x65 m=>bp (pur (X4 1 p0 p1) m) fun x66 m=>bp (unt (X8 1 x66 x63 m)) fun _ m=>bp (pur (X4 1 p0 p3) m) fun x67 m=>bp (unt (X8 1 x67 x65 m)) fun _ m=>Qfg G p1 p2 p0 m
def Q9j (G:Gt)(p0 p1 p3 p2:V)(m:M):R:=Qfh G p0 p1 p3 p2 m
theorem Q110 (G:Gt)(a0 a1 a2 a3:V)(m:M):ef G Tryz.f620 [a0,a1,a2,a3] m = Q9j G a0 a1 a3 a2 m:=X7 (r:=fun r m=>Q9j G (r 0) (r 1) (r 3) (r 2) m) rfl rfl (tr (seqQ (f:=fun r m=>Qfh G (r 0) (r 1) (r 3) (r 2) m) (tr (seqQ (f:=fun r m=>Qfg G (r 1) (r 2) (r 0) m) (tr (seqQ (f:=fun r m=>Qff G (r 10) (r 11) (r 0) (r 1) m) (tr (tr (seqQ (f:=fun r m=>Qfe G (r 10) (r 11) (r 0) (r 1) m) (tr (tr (seqQ (f:=fun r m=>Qfd G (r 10) (r 11) (r 0) (r 1) m) (tr (seqQ (f:=fun r m=>Qfc G (r 0) (r 10) (r 11) (r 1) m) (tr (seqQ (f:=fun r m=>Qfb G (r 10) (r 11) (r 0) (r 1) m) (tr (seqQ (f:=fun r m=>Qfa G (r 11) (r 10) (r 0) (r 1) m) (tr (seqQ (f:=fun r m=>Qf9 G (r 10) (r 11) (r 0) (r 1) m) (tr (tr (seqQ (f:=fun r m=>Qf8 G (r 0) (r 11) (r 1) m)) (Xc (Xj (fun i r m=>Qi G i (r 10) (r 11) (r 0) (r 1) m) (fun _ _=>rfl) (fun i0=>tr (Xc (tr (seqQ (f:=fun r m=>Qeh G (Qi G i0) (r 10) (r 11) (r 0) (r 1) m) (tr (tr (seqQ (f:=fun r m=>Qeg G (Qi G i0) (r 10) (r 11) (r 0) (r 1) m)) (Xc (Xj (fun i r m=>Q2e G (Qi G i0) i (r 10) (r 11) (r 0) (r 1) m) (fun _ _=>rfl) (fun i1=>tr (tr seqD (seqQ (f:=fun r m=>Q72 G (Q2e G (Qi G i0) i1) (Qi G i0) (r 129) (r 11) (r 10) (r 0) (r 1) m))))))))) (Xc (Xj (fun i r m=>Q2f G (Qi G i0) i (r 10) (r 11) (r 0) (r 1) m) (fun _ _=>rfl) (fun i1=>tr (tr seqD (seqQ (f:=fun r m=>Q73 G (Q2f G (Qi G i0) i1) (Qi G i0) (r 112) (r 10) (r 11) (r 0) (r 1) m)))))))))))))))))))))) (Xc (Xj (fun i r m=>Q2g G i (r 10) (r 11) (r 0) (r 1) m) (fun _ _=>rfl) (fun i0=>tr (tr seqD (seqQ (f:=fun r m=>Q74 G (Q2g G i0) (r 60) (r 11) (r 10) (r 0) (r 1) m))))))))) (Xc (Xj (fun i r m=>Q2h G i (r 10) (r 11) (r 0) (r 1) m) (fun _ _=>rfl) (fun i0=>tr (tr seqD (seqQ (f:=fun r m=>Q75 G (Q2h G i0) (r 43) (r 10) (r 11) (r 0) (r 1) m)))))))))))))) m
def Q10y:En:=⟨Qh3,Tryz.f620,Tryz.func620,by kernel_rfl,arg4 (fun G a0 a1 a2 a3 m=>Q9j G a0 a1 a3 a2 m),X1h Q110⟩
def Qzd:En:=wE Qzf Tryz.f624 Tryz.func624 ⟨_,by go_invoke; rfl⟩
def Qm0:En:=wE Qm3 Tryz.f625 Tryz.func625 ⟨_,by go_invoke; rfl⟩
def Qne:En:=wE Qng Tryz.f627 Tryz.func627 ⟨_,by go_invoke; rfl⟩
def Qof:En:=wE Qog Tryz.f628 Tryz.func628 ⟨_,by go_invoke; rfl⟩
def Qw8:En:=wE Qwa Tryz.f652 Tryz.func652 ⟨_,by go_invoke; rfl⟩
def Q61 (G:Gt)(p0 p1 p2:V)(m:M):R:=bp (pur (bin .sub true true .int p1 (.int .i64 1)) m) fun x0 m=>bp (pur (bin .add true true .int p1 (.int .i64 1)) m) fun x1 m=>bp (G.tab Qbu [p0,x0,p1,x1,p2] m) fun x2 m=>some (x2,m)
theorem Qsy (G:Gt)(a0 a1 a2:V)(m:M):ef G Tryz.f655 [a0,a1,a2] m = Q61 G a0 a1 a2 m:=X7 (r:=fun r m=>Q61 G (r 0) (r 1) (r 2) m) rfl rfl (fun r m=>by kernel_rfl) m
def Qsw:En:=⟨Q39,Tryz.f655,Tryz.func655,by kernel_rfl,arg3 Q61,Xx Qsy⟩
def Qbv (G:Gt)(p0 p1 p2 p4 p3:V)(m:M):R:=bp (G.tab Q6e [p0,p1,p2,p4] m) fun x0 m=>bp (pur (X5 x0 0) m) fun x1 m=>bp (pur (X5 x0 1) m) fun x2 m=>bp (G.tab Q6e [p0,x2,p3,p4] m) fun x3 m=>bp (pur (X5 x3 0) m) fun x4 m=>bp (pur (X5 x3 1) m) fun x5 m=>bp (G.tab Q6e [p0,x1,x4,p4] m) fun x6 m=>bp (pur (X5 x6 0) m) fun x7 m=>bp (pur (X5 x6 1) m) fun x8 m=>some (x8,m)
theorem Q16w (G:Gt)(a0 a1 a2 a3 a4:V)(m:M):ef G Tryz.f656 [a0,a1,a2,a3,a4] m = Qbv G a0 a1 a2 a4 a3 m:=X7 (r:=fun r m=>Qbv G (r 0) (r 1) (r 2) (r 4) (r 3) m) rfl rfl (fun r m=>by kernel_rfl) m
def Q16u:En:=⟨Qbu,Tryz.f656,Tryz.func656,by kernel_rfl,arg5 (fun G a0 a1 a2 a3 a4 m=>Qbv G a0 a1 a2 a4 a3 m),X71 Q16w⟩
def Qui:En:=wE Quk Tryz.f658 Tryz.func658 ⟨_,by go_invoke; rfl⟩
def Qnf:En:=wE Qnh Tryz.f672 Tryz.func672 ⟨_,by go_invoke; rfl⟩
def Qbw (G:Gt)(p0 p2 p1 p3:V)(m:M):R:=bp (pur (X4 1 p0 p2) m) fun x0 m=>bp (pur (X3 false 1 x0 m) m) fun x1 m=>bp (pur (X4 1 p0 p1) m) fun x2 m=>bp (pur (X3 false 1 x2 m) m) fun x3 m=>bp (G.tab Q1z [x1,x3] m) fun x4 m=>brb x4 (bp (pur (X6 p3) m) fun x5 m=>bp (pur (X3 false 1 x5 m) m) fun x6 m=>bp (pur (bin .add true true .int x6 (.int .i64 1)) m) fun x7 m=>bp (pur (X6 p3) m) fun x8 m=>bp (unt (X8 1 x8 x7 m)) fun _ m=>some (.tuple ⟨[p2,p1]⟩,m)) (some (.tuple ⟨[p1,p2]⟩,m))
theorem Q16x (G:Gt)(a0 a1 a2 a3:V)(m:M):ef G Tryz.f680 [a0,a1,a2,a3] m = Qbw G a0 a2 a1 a3 m:=X7 (r:=fun r m=>Qbw G (r 0) (r 2) (r 1) (r 3) m) rfl rfl (fun r m=>by kernel_rfl) m
def Q16v:En:=⟨Q6e,Tryz.f680,Tryz.func680,by kernel_rfl,arg4 (fun G a0 a1 a2 a3 m=>Qbw G a0 a2 a1 a3 m),X1h Q16x⟩
def Qm1:En:=wE Qm4 Tryz.f681 Tryz.func681 ⟨_,by go_invoke; rfl⟩
end
end Go.Ab.Sh

set_option maxRecDepth 100000
namespace Go.Ab.Sh
open Go Go.Ab Go.Proofs
noncomputable section
end
end Go.Ab.Sh
