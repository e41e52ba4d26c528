/-
  Functions of the program as plain definitions. No conditions.
-/
import Derived.Test.YtbpkpklaegnkiaaGreatDoorAb5
import Derived.Test.YtbpkpklaegnkiaaGreatDoorZ
import Derived.KernelRfl
import Derived.Test.YtbpkpklaegnkiaaGreatDoorProg
set_option linter.unusedSimpArgs false
set_option linter.unusedVariables false
set_option maxRecDepth 100000
namespace Go.Ab.Sh
open Go Go.Ab Go.Proofs
noncomputable section
def Q45 (G:Gt)(m:M):R:=some ((.int .i64 (-1)),m)
def Qt (G:Gt):Nat→V→V→V→V→M→R
 | 0,_,_,_,_,_=>none
 | i + 1,p8,p7,p1,p0,m=>bp (pur (bin .lss false true .int p8 p7) m) fun x0 m=>brb x0 (bp (pur (X5 1 p0 p8) m) fun x1 m=>bp (pur (X4 false 1 x1 m) m) fun x2 m=>bp (pur (bin .eql false true .str p1 x2) m) fun x3 m=>brb x3 (some (p8,m)) (bp (pur (bin .add true true .int p8 (.int .i64 1)) m) fun x4 m=>(Qt G i) x4 p7 p1 p0 m)) (Q45 G m)
def Q46 (G:Gt)(p8 p7 p1 p0:V)(m:M):R:=Qt G G.rds p8 p7 p1 p0 m
def Q47 (G:Gt)(p0 p1:V)(m:M):R:=bp (pur (lenK 1 p0 m) m) fun x5 m=>Q46 G (.int .i64 0) x5 p1 p0 m
def Q14 (G:Gt)(p0 p1:V)(m:M):R:=Q47 G p0 p1 m
theorem Qmz (G:Gt)(a0 a1:V)(m:M):ef G Tryz.f40 [a0,a1] m = Q14 G a0 a1 m:=Xb (r:=fun r m=>Q14 G (r 0) (r 1) m) rfl rfl (tr (seqQ (f:=fun r m=>Q47 G (r 0) (r 1) m) (tr (tr (seqQ (f:=fun r m=>Q45 G m)) (seqQ (f:=fun r m=>Q46 G (r 8) (r 7) (r 1) (r 0) m) (tr (Xm (X1l (fun i r m=>Qt G i (r 8) (r 7) (r 1) (r 0) m) (fun _ _=>rfl) (fun i0=>fun r m=>by kernel_rfl))))))))) m
def Q50:En:=⟨Q2p,Tryz.f40,Tryz.func40,by kernel_rfl,arg2 Q14,X19 Qmz⟩
def Qo9:En:=wE Qn2 Tryz.f44 Tryz.func44 ⟨_,by go_invoke; rfl⟩
def Qtu:En:=wE Qt5 Tryz.f45 Tryz.func45 ⟨_,by go_invoke; rfl⟩
def Q7l (G:Gt)(p0 p1:V)(m:M):R:=bp (G.tab Q6p [p0] m) fun x0 m=>bp (pur (bin .add true true .str x0 (.string ⟨#[58]⟩)) m) fun x1 m=>bp (conv (.int .i64) p1 m) fun x2 m=>bp (G.tab Qb [x2] m) fun x3 m=>bp (pur (bin .add false true .str x1 x3) m) fun x4 m=>some (x4,m)
theorem Q19d (G:Gt)(a0 a1:V)(m:M):ef G Tryz.f49 [a0,a1] m = Q7l G a0 a1 m:=Xb (r:=fun r m=>Q7l G (r 0) (r 1) m) rfl rfl (fun r m=>by kernel_rfl) m
def Qnt:En:=⟨Q54,Tryz.f49,Tryz.func49,by kernel_rfl,arg2 Q7l,X19 Q19d⟩
def Q10b:En:=wE Qz9 Tryz.f50 Tryz.func50 ⟨_,by go_invoke; rfl⟩
def Qmv:En:=wE Qmr Tryz.f51 Tryz.func51 ⟨_,by go_invoke; rfl⟩
def Qrk:En:=wE Qr1 Tryz.f52 Tryz.func52 ⟨_,by go_invoke; rfl⟩
def Qtt:En:=wE Qt6 Tryz.f53 Tryz.func53 ⟨_,by go_invoke; rfl⟩
def Qtw:En:=wE Qt7 Tryz.f54 Tryz.func54 ⟨_,by go_invoke; rfl⟩
def Q17d:En:=wE Q16f Tryz.f57 Tryz.func57 ⟨_,by go_invoke; rfl⟩
def Q1fr:En:=wE Q1ea Tryz.f58 Tryz.func58 ⟨_,by go_invoke; rfl⟩
def Q1dd:En:=wE Q1bu Tryz.f59 Tryz.func59 ⟨_,by go_invoke; rfl⟩
def Q15r:En:=wE Q14p Tryz.f60 Tryz.func60 ⟨_,by go_invoke; rfl⟩
def Q1j0:En:=wE Q1i9 Tryz.f61 Tryz.func61 ⟨_,by go_invoke; rfl⟩
def Q1dp:En:=wE Q1bv Tryz.f62 Tryz.func62 ⟨_,by go_invoke; rfl⟩
def Q109:En:=wE Qza Tryz.f64 Tryz.func64 ⟨_,by go_invoke; rfl⟩
def Q1fk:En:=wE Q1eb Tryz.f65 Tryz.func65 ⟨_,by go_invoke; rfl⟩
def Q82 (G:Gt)(p1 p0:V)(m:M):R:=bp (some (aNew Qy (Value.cells p1).toList m)) fun x0 m=>bp (pur (X4 true 22 x0 m) m) fun x1 m=>bp (G.tab Qw5 [p0,x1] m) fun x2 m=>bp (pur (X6 x2 0) m) fun x3 m=>bp (pur (X6 x2 1) m) fun x4 m=>bp (some (aNew Q11 Qbn m)) fun x5 m=>bp (unt (X8 2 x5 x3 m)) fun _ m=>bp (pur (un .not x4) m) fun x6 m=>brb x6 (some (.tuple ⟨[(.string ⟨#[]⟩),(.int .i64 5)]⟩,m)) (bp (pur (Xa p0) m) fun x7 m=>bp (pur (X0 5 x7) m) fun x8 m=>bp (pur (X4 false 1 x8 m) m) fun x9 m=>bp (G.tab Q1b3 [x9] m) fun x10 m=>bp (pur (X6 x10 0) m) fun x11 m=>bp (pur (X6 x10 1) m) fun x12 m=>bp (pur (bin .neq true true .int x12 (.int .i64 0)) m) fun x13 m=>brb x13 (some (.tuple ⟨[(.string ⟨#[]⟩),(.int .i64 3)]⟩,m)) (bp (pur (X4 true 22 x0 m) m) fun x14 m=>bp (G.tab Qu3 [p0,x11,x14] m) fun x15 m=>bp (pur (X6 x15 0) m) fun x16 m=>bp (pur (X6 x15 1) m) fun x17 m=>bp (pur (bin .neq true true .int x17 (.int .i64 0)) m) fun x18 m=>brb x18 (some (.tuple ⟨[(.string ⟨#[]⟩),(.int .i64 3)]⟩,m)) (bp (G.tab Q184 [x11,x16,(.string ⟨#[]⟩)] m) fun x19 m=>bp (pur (X6 x19 0) m) fun x20 m=>bp (pur (X6 x19 1) m) fun x21 m=>some (.tuple ⟨[x20,x21]⟩,m))))
theorem Q15u (G:Gt)(a0 a1:V)(m:M):ef G Tryz.f66 [a0,a1] m = Q82 G a1 a0 m:=Xb (r:=fun r m=>Q82 G (r 1) (r 0) m) rfl rfl (fun r m=>by kernel_rfl) m
def Qjg:En:=⟨Qsx,Tryz.f66,Tryz.func66,by kernel_rfl,arg2 (fun G a0 a1 m=>Q82 G a1 a0 m),X19 Q15u⟩
def Q13x:En:=wE Q12l Tryz.f67 Tryz.func67 ⟨_,by go_invoke; rfl⟩
def Q145:En:=wE Q12m Tryz.f70 Tryz.func70 ⟨_,by go_invoke; rfl⟩
def Q7m (G:Gt)(p0 p1:V)(m:M):R:=bp (G.tab Qw [p0,p1] m) fun x0 m=>some (x0,m)
theorem Q19e (G:Gt)(a0 a1:V)(m:M):ef G Tryz.f73 [a0,a1] m = Q7m G a0 a1 m:=Xb (r:=fun r m=>Q7m G (r 0) (r 1) m) rfl rfl (fun r m=>by kernel_rfl) m
def Qnx:En:=⟨Qhc,Tryz.f73,Tryz.func73,by kernel_rfl,arg2 Q7m,X19 Q19e⟩
def Q3k (G:Gt)(p0 p1:V)(m:M):R:=bp (G.tab Qx [p0,p1] m) fun x0 m=>some (x0,m)
theorem Q120 (G:Gt)(a0 a1:V)(m:M):ef G Tryz.f74 [a0,a1] m = Q3k G a0 a1 m:=Xb (r:=fun r m=>Q3k G (r 0) (r 1) m) rfl rfl (fun r m=>by kernel_rfl) m
def Qgp:En:=⟨Q61,Tryz.f74,Tryz.func74,by kernel_rfl,arg2 Q3k,X19 Q120⟩
def Q4a (G:Gt)(p10:V)(m:M):R:=brb p10 (some ((.bool true),m)) (some ((.bool false),m))
def Q4b (G:Gt)(p3 p0:V)(m:M):R:=brb p3 (some ((.bool true),m)) (bp (pur (bin .lss true true .int (.int .i32 57343) p0) m) fun x0 m=>brb x0 (bp (pur (bin .leq true true .int p0 (.int .i32 1114111)) m) fun x1 m=>Q4a G x1 m) (Q4a G (.bool false) m))
def Q7y (G:Gt)(p0:V)(m:M):R:=bp (pur (bin .leq true true .int (.int .i32 0) p0) m) fun x2 m=>brb x2 (bp (pur (bin .lss true true .int p0 (.int .i32 55296)) m) fun x3 m=>Q4b G x3 p0 m) (Q4b G (.bool false) p0 m)
def Q2c (G:Gt)(p0:V)(m:M):R:=Q7y G p0 m
theorem Qvh (G:Gt)(a0:V)(m:M):ef G Tryz.f75 [a0] m = Q2c G a0 m:=Xb (r:=fun r m=>Q2c G (r 0) m) rfl rfl (tr (seqQ (f:=fun r m=>Q7y G (r 0) m) (tr (tr seqD (Xm (seqQ (f:=fun r m=>Q4b G (r 3) (r 0) m) (tr (X5g (refQ) (seqQ (f:=fun r m=>Q4a G (r 10) m)))))))))) m
def Q9s:En:=⟨Q55,Tryz.f75,Tryz.func75,by kernel_rfl,arg1 Q2c,X1v Qvh⟩
def Q1n (G:Gt)(p0 p1:V)(m:M):R:=bp (G.tab Qw [p0,p1] m) fun x0 m=>bp (pur (bin .geq true true .int x0 (.int .i64 0)) m) fun x1 m=>brb x1 (bp (pur (X24 p0 none (some x0)) m) fun x2 m=>bp (pur (lenK 0 p1 m) m) fun x3 m=>bp (pur (bin .add false true .int x0 x3) m) fun x4 m=>bp (pur (X24 p0 (some x4) none) m) fun x5 m=>some (.tuple ⟨[x2,x5,(.bool true)]⟩,m)) (some (.tuple ⟨[p0,(.string ⟨#[]⟩),(.bool false)]⟩,m))
theorem Qsv (G:Gt)(a0 a1:V)(m:M):ef G Tryz.f78 [a0,a1] m = Q1n G a0 a1 m:=Xb (r:=fun r m=>Q1n G (r 0) (r 1) m) rfl rfl (fun r m=>by kernel_rfl) m
def Q7w:En:=⟨Q49,Tryz.f78,Tryz.func78,by kernel_rfl,arg2 Q1n,X19 Qsv⟩
def Qat (G:Gt)(p0:V)(m:M):R:=bp (pur (bin .sub true true .int (.int .i64 32) p0) m) fun x0 m=>bp (pur (bin .shl true true .int (.int .u64 1) x0) m) fun x1 m=>bp (pur (bin .sub true true .int x1 (.int .u64 1)) m) fun x2 m=>bp (conv (.int .u32) x2 m) fun x3 m=>some (x3,m)
theorem Q1dq (G:Gt)(a0:V)(m:M):ef G Tryz.f79 [a0] m = Qat G a0 m:=Xb (r:=fun r m=>Qat G (r 0) m) rfl rfl (fun r m=>by kernel_rfl) m
def Qsl:En:=⟨Ql1,Tryz.f79,Tryz.func79,by kernel_rfl,arg1 Qat,X1v Q1dq⟩
def Qql:En:=wE Qpp Tryz.f83 Tryz.func83 ⟨_,by go_invoke; rfl⟩
def Q108:En:=wE Qzb Tryz.f87 Tryz.func87 ⟨_,by go_invoke; rfl⟩
def Q10a:En:=wE Qzc Tryz.f88 Tryz.func88 ⟨_,by go_invoke; rfl⟩
def Qts:En:=wE Qt8 Tryz.f89 Tryz.func89 ⟨_,by go_invoke; rfl⟩
def Qst:En:=wE Qrq Tryz.f90 Tryz.func90 ⟨_,by go_invoke; rfl⟩
def Qri:En:=wE Qr2 Tryz.f91 Tryz.func91 ⟨_,by go_invoke; rfl⟩
def Qrj:En:=wE Qr3 Tryz.f97 Tryz.func97 ⟨_,by go_invoke; rfl⟩
def Qqn:En:=wE Qpq Tryz.f100 Tryz.func100 ⟨_,by go_invoke; rfl⟩
def Qqm:En:=wE Qpr Tryz.f101 Tryz.func101 ⟨_,by go_invoke; rfl⟩
def Q1dj:En:=wE Q1by Tryz.f104 Tryz.func104 ⟨_,by go_invoke; rfl⟩
def Q1dg:En:=wE Q1bz Tryz.f105 Tryz.func105 ⟨_,by go_invoke; rfl⟩
def Q1fq:En:=wE Q1ee Tryz.f106 Tryz.func106 ⟨_,by go_invoke; rfl⟩
def Qsr:En:=wE Qrr Tryz.f107 Tryz.func107 ⟨_,by go_invoke; rfl⟩
def Q144:En:=wE Q12n Tryz.f108 Tryz.func108 ⟨_,by go_invoke; rfl⟩
def Q1di:En:=wE Q1c0 Tryz.f109 Tryz.func109 ⟨_,by go_invoke; rfl⟩
def Q11z:En:=wE Q110 Tryz.f110 Tryz.func110 ⟨_,by go_invoke; rfl⟩
def Q199:En:=wE Q183 Tryz.f115 Tryz.func115 ⟨_,by go_invoke; rfl⟩
def Q1dm:En:=wE Q1c1 Tryz.f116 Tryz.func116 ⟨_,by go_invoke; rfl⟩
def Q1aw:En:=wE Q1a4 Tryz.f117 Tryz.func117 ⟨_,by go_invoke; rfl⟩
def Q1dn:En:=wE Q1c2 Tryz.f118 Tryz.func118 ⟨_,by go_invoke; rfl⟩
def Q1db:En:=wE Q1c3 Tryz.f119 Tryz.func119 ⟨_,by go_invoke; rfl⟩
def Q1dl:En:=wE Q1c4 Tryz.f120 Tryz.func120 ⟨_,by go_invoke; rfl⟩
def Qhm:En:=wE Qhf Tryz.f123 Tryz.func123 ⟨_,by go_invoke; rfl⟩
def Q197:En:=wE Qw5 Tryz.f127 Tryz.func127 ⟨_,by go_invoke; rfl⟩
def Q1kt:En:=wE Q1b3 Tryz.f128 Tryz.func128 ⟨_,by go_invoke; rfl⟩
def Q17c:En:=wE Qu3 Tryz.f129 Tryz.func129 ⟨_,by go_invoke; rfl⟩
def Q1j1:En:=wE Q184 Tryz.f130 Tryz.func130 ⟨_,by go_invoke; rfl⟩
def Q1fj:En:=wE Q1ef Tryz.f131 Tryz.func131 ⟨_,by go_invoke; rfl⟩
def Q1fo:En:=wE Q1eg Tryz.f132 Tryz.func132 ⟨_,by go_invoke; rfl⟩
def Q11x:En:=wE Q111 Tryz.f133 Tryz.func133 ⟨_,by go_invoke; rfl⟩
def Q142:En:=wE Q12o Tryz.f141 Tryz.func141 ⟨_,by go_invoke; rfl⟩
def Q11v:En:=wE Q112 Tryz.f163 Tryz.func163 ⟨_,by go_invoke; rfl⟩
def Qyn:En:=wE Qxx Tryz.f169 Tryz.func169 ⟨_,by go_invoke; rfl⟩
def Qtv:En:=wE Qt9 Tryz.f170 Tryz.func170 ⟨_,by go_invoke; rfl⟩
def Q10c:En:=wE Qzd Tryz.f174 Tryz.func174 ⟨_,by go_invoke; rfl⟩
def Q1fl:En:=wE Q1eh Tryz.f177 Tryz.func177 ⟨_,by go_invoke; rfl⟩
def Q19c:En:=wE Q185 Tryz.f178 Tryz.func178 ⟨_,by go_invoke; rfl⟩
def Q15m:En:=wE Q14s Tryz.f179 Tryz.func179 ⟨_,by go_invoke; rfl⟩
def Q1fp:En:=wE Q1ei Tryz.f180 Tryz.func180 ⟨_,by go_invoke; rfl⟩
def Qo8:En:=wE Qn4 Tryz.f181 Tryz.func181 ⟨_,by go_invoke; rfl⟩
def Qtx:En:=wE Qta Tryz.f182 Tryz.func182 ⟨_,by go_invoke; rfl⟩
def Qba (G:Gt)(p0:V)(m:M):R:=bp (some (aNew Q1gk (Value.cells p0).toList m)) fun x0 m=>bp (pur (X0 0 x0) m) fun x1 m=>bp (pur (X4 false 1 x1 m) m) fun x2 m=>some (x2,m)
theorem Q19f (G:Gt)(a0:V)(m:M):ef G Tryz.f183 [a0] m = Qba G a0 m:=Xb (r:=fun r m=>Qba G (r 0) m) rfl rfl (fun r m=>by kernel_rfl) m
def Qnv:En:=⟨Qw6,Tryz.f183,Tryz.func183,by kernel_rfl,arg1 Qba,X1v Q19f⟩
def Qss:En:=wE Qrs Tryz.f184 Tryz.func184 ⟨_,by go_invoke; rfl⟩
def Qoa:En:=wE Qn5 Tryz.f186 Tryz.func186 ⟨_,by go_invoke; rfl⟩
def Qkl:En:=wE Qjs Tryz.f188 Tryz.func188 ⟨_,by go_invoke; rfl⟩
def Qsu:En:=wE Qrt Tryz.f190 Tryz.func190 ⟨_,by go_invoke; rfl⟩
def Qa7:En:=wE Q93 Tryz.f192 Tryz.func192 ⟨_,by go_invoke; rfl⟩
def Qa8:En:=wE Q94 Tryz.f194 Tryz.func194 ⟨_,by go_invoke; rfl⟩
def Qqk:En:=wE Qps Tryz.f195 Tryz.func195 ⟨_,by go_invoke; rfl⟩
def Q15q:En:=wE Q14t Tryz.f196 Tryz.func196 ⟨_,by go_invoke; rfl⟩
def Q1j2:En:=wE Q1ia Tryz.f198 Tryz.func198 ⟨_,by go_invoke; rfl⟩
def Q198:En:=wE Q186 Tryz.f199 Tryz.func199 ⟨_,by go_invoke; rfl⟩
def Qlv:En:=wE Ql9 Tryz.f200 Tryz.func200 ⟨_,by go_invoke; rfl⟩
def Q19b:En:=wE Q187 Tryz.f201 Tryz.func201 ⟨_,by go_invoke; rfl⟩
def Qec:En:=wE Qdu Tryz.f204 Tryz.func204 ⟨_,by go_invoke; rfl⟩
def Q15o:En:=wE Q14u Tryz.f205 Tryz.func205 ⟨_,by go_invoke; rfl⟩
def Q1ku:En:=wE Q1k1 Tryz.f206 Tryz.func206 ⟨_,by go_invoke; rfl⟩
def Q1h7:En:=wE Q15w Tryz.f207 Tryz.func207 ⟨_,by go_invoke; rfl⟩
def Q1h8:En:=wE Q15x Tryz.f210 Tryz.func210 ⟨_,by go_invoke; rfl⟩
def Q13z:En:=wE Q12p Tryz.f211 Tryz.func211 ⟨_,by go_invoke; rfl⟩
def Q1fm:En:=wE Qu4 Tryz.f213 Tryz.func213 ⟨_,by go_invoke; rfl⟩
def Q9m (G:Gt)(p0 p1 p2:V)(m:M):R:=bp (pur (binP m .eql true true .ptr p0 (.pointer none)) m) fun x0 m=>brb x0 (some (.tuple ⟨[(.int .i64 0),(.int .i64 2)]⟩,m)) (bp (pur (Xa p0) m) fun x1 m=>bp (pur (X0 0 x1) m) fun x2 m=>bp (pur (X4 false 1 x2 m) m) fun x3 m=>bp (G.tab Q97 [p0,p1,p2,(.func (.func Q6e) ⟨[x3]⟩ ⟨[]⟩)] m) fun x4 m=>bp (pur (X6 x4 0) m) fun x5 m=>bp (pur (X6 x4 1) m) fun x6 m=>some (.tuple ⟨[x5,x6]⟩,m))
theorem Q17i (G:Gt)(a0 a1 a2:V)(m:M):ef G Tryz.f214 [a0,a1,a2] m = Q9m G a0 a1 a2 m:=Xb (r:=fun r m=>Q9m G (r 0) (r 1) (r 2) m) rfl rfl (fun r m=>by kernel_rfl) m
def Qlm:En:=⟨Q6c,Tryz.f214,Tryz.func214,by kernel_rfl,arg3 Q9m,X2n Q17i⟩
def Q13w:En:=wE Q12q Tryz.f215 Tryz.func215 ⟨_,by go_invoke; rfl⟩
def Q1dk:En:=wE Q1c5 Tryz.f216 Tryz.func216 ⟨_,by go_invoke; rfl⟩
end
end Go.Ab.Sh

set_option maxRecDepth 100000
namespace Go.Ab.Sh
open Go Go.Ab Go.Proofs
noncomputable section
def Qob (G:Gt)(p9 p4:V)(m:M):R:=bp (pur (X4 true 5 p9 m) m) fun x0 m=>bp (unt (X8 5 p4 x0 m)) fun _ m=>ob (ob (X4 true 5 p4 m) fun v=>ob (some [(.int .i64 0)]) fun l=>some (v :: l)) fun l=>some (X1p l,m)
def Qfj (G:Gt):Nat→V→V→V→V→V→M→R
 | 0,_,_,_,_,_,_=>none
 | i + 1,p36,p35,p34,p9,p4,m=>bp (pur (bin .lss false true .int p36 p35) m) fun x1 m=>brb x1 (bp (pur (X5 1 p34 p36) m) fun x2 m=>bp (pur (X4 false 1 x2 m) m) fun x3 m=>bp (pur (X4 true 5 p9 m) m) fun x4 m=>bp (G.tab Qru [x4,p36,x3] m) fun x5 m=>bp (pur (X6 x5 0) m) fun x6 m=>bp (pur (X6 x5 1) m) fun x7 m=>bp (unt (X8 5 p9 x6 m)) fun _ m=>bp (pur (bin .add true true .int p36 (.int .i64 1)) m) fun x8 m=>(Qfj G i) x8 p35 p34 p9 p4 m) (Qob G p9 p4 m)
def Qoc (G:Gt)(p36 p35 p34 p9 p4:V)(m:M):R:=Qfj G G.rds p36 p35 p34 p9 p4 m
def Qod (G:Gt)(p7 p9 p4:V)(m:M):R:=bp (pur (lenK 1 p7 m) m) fun x9 m=>Qoc G (.int .i64 0) x9 p7 p9 p4 m
def Qoe (G:Gt)(p7 p4:V)(m:M):R:=bp (some (aNew Q1 Qa m)) fun x10 m=>Qod G p7 x10 p4 m
def Qof (G:Gt)(p8 p4 p7:V)(m:M):R:=bp (pur (bin .neq true true .int p8 (.int .i64 0)) m) fun x11 m=>brb x11 (bp (pur (X18 Qa [(0,1),(1,1),(2,1),(3,1),(4,1)] []) m) fun x12 m=>bp (unt (X8 5 p4 x12 m)) fun _ m=>ob (ob (X4 true 5 p4 m) fun v=>ob (some [p8]) fun l=>some (v :: l)) fun l=>some (X1p l,m)) (Qoe G p7 p4 m)
def Qog (G:Gt)(p0 p1 p4:V)(m:M):R:=bp (pur (Xa p0) m) fun x13 m=>bp (pur (X0 0 x13) m) fun x14 m=>bp (pur (X4 false 1 x14 m) m) fun x15 m=>bp (G.tab Q12w [(.func (.func Qaw) #[] #[])] m) fun x16 m=>ckB (again (pur (X4 false 1 x14 m) m) x15 && true) (bp (G.tab Qhq [x15,p1,x16] m) fun x17 m=>bp (pur (X6 x17 0) m) fun x18 m=>bp (pur (X6 x17 1) m) fun x19 m=>Qof G x19 p4 x18 m)
def Qoh (G:Gt)(p0 p1 p4:V)(m:M):R:=bp (Xc Q7j [(.int .i64 0)] 1 1 [(0,p1)] m) fun x20 m=>bp (G.tab Q57 [p0,x20,(.slice none 0 0)] m) fun x21 m=>bp (pur (bin .neq true true .int x21 (.int .i64 0)) m) fun x22 m=>brb x22 (bp (pur (X18 Qa [(0,1),(1,1),(2,1),(3,1),(4,1)] []) m) fun x23 m=>bp (unt (X8 5 p4 x23 m)) fun _ m=>ob (ob (X4 true 5 p4 m) fun v=>ob (some [x21]) fun l=>some (v :: l)) fun l=>some (X1p l,m)) (Qog G p0 p1 p4 m)
def Q75 (G:Gt)(p0 p1:V)(m:M):R:=bp (some (aNew Q1 Qa m)) fun x24 m=>Qoh G p0 p1 x24 m
theorem Q147 (G:Gt)(a0 a1:V)(m:M):ef G Tryz.f217 [a0,a1] m = Q75 G a0 a1 m:=Xb (r:=fun r m=>Q75 G (r 0) (r 1) m) rfl rfl (tr (seqQ (f:=fun r m=>Qoh G (r 0) (r 1) (r 4) m) (tr (seqQ (f:=fun r m=>Qog G (r 0) (r 1) (r 4) m) (tr (seqQ (f:=fun r m=>Qof G (r 8) (r 4) (r 7) m) (tr (seqQ (f:=fun r m=>Qoe G (r 7) (r 4) m) (tr (seqQ (f:=fun r m=>Qod G (r 7) (r 9) (r 4) m) (tr (tr (seqQ (f:=fun r m=>Qob G (r 9) (r 4) m)) (seqQ (f:=fun r m=>Qoc G (r 36) (r 35) (r 34) (r 9) (r 4) m) (tr (Xm (X1l (fun i r m=>Qfj G i (r 36) (r 35) (r 34) (r 9) (r 4) m) (fun _ _=>rfl) (fun i0=>fun r m=>by kernel_rfl))))))))))))))))) m
def Qi0:En:=⟨Qr4,Tryz.f217,Tryz.func217,by kernel_rfl,arg2 Q75,X19 Q147⟩
def Q1ay:En:=wE Q1a5 Tryz.f218 Tryz.func218 ⟨_,by go_invoke; rfl⟩
def Q1au:En:=cE Q1a6 Tryz.f219 Tryz.func219
def Q17h:En:=wE Q16g Tryz.f220 Tryz.func220 ⟨_,by go_invoke; rfl⟩
def Q17f:En:=wE Q16h Tryz.f221 Tryz.func221 ⟨_,by go_invoke; rfl⟩
def Qee:En:=wE Qdv Tryz.f222 Tryz.func222 ⟨_,by go_invoke; rfl⟩
def Q17b:En:=wE Q16i Tryz.f223 Tryz.func223 ⟨_,by go_invoke; rfl⟩
def Q143:En:=wE Q12r Tryz.f224 Tryz.func224 ⟨_,by go_invoke; rfl⟩
def Q1de:En:=wE Q1c6 Tryz.f225 Tryz.func225 ⟨_,by go_invoke; rfl⟩
def Qcp:En:=wE Qcm Tryz.f226 Tryz.func226 ⟨_,by go_invoke; rfl⟩
def Qyl:En:=wE Qxy Tryz.f227 Tryz.func227 ⟨_,by go_invoke; rfl⟩
def Qh6 (G:Gt)(p2 p0:V)(m:M):R:=bp (conv (.int .u8) p0 m) fun x0 m=>bp (pur (X1g (.string ⟨#[0,1,2,2,3,3,3,3,4,4,4,4,4,4,4,4,5,5,5,5,5,5,5,5,5,5,5,5,5,5,5,5,6,6,6,6,6,6,6,6,6,6,6,6,6,6,6,6,6,6,6,6,6,6,6,6,6,6,6,6,6,6,6,6,7,7,7,7,7,7,7,7,7,7,7,7,7,7,7,7,7,7,7,7,7,7,7,7,7,7,7,7,7,7,7,7,7,7,7,7,7,7,7,7,7,7,7,7,7,7,7,7,7,7,7,7,7,7,7,7,7,7,7,7,7,7,7,7,8,8,8,8,8,8,8,8,8,8,8,8,8,8,8,8,8,8,8,8,8,8,8,8,8,8,8,8,8,8,8,8,8,8,8,8,8,8,8,8,8,8,8,8,8,8,8,8,8,8,8,8,8,8,8,8,8,8,8,8,8,8,8,8,8,8,8,8,8,8,8,8,8,8,8,8,8,8,8,8,8,8,8,8,8,8,8,8,8,8,8,8,8,8,8,8,8,8,8,8,8,8,8,8,8,8,8,8,8,8,8,8,8,8,8,8,8,8,8,8,8,8,8,8,8,8,8,8]⟩) x0) m) fun x1 m=>bp (conv (.int .i64) x1 m) fun x2 m=>bp (pur (bin .add false true .int p2 x2) m) fun x3 m=>some (x3,m)
def Qh7 (G:Gt)(p0 p2:V)(m:M):R:=bp (pur (bin .geq true true .int p0 (.int .u64 256)) m) fun x4 m=>brb x4 (bp (pur (bin .shr true true .int p0 (.int .u64 8)) m) fun x5 m=>bp (pur (bin .add true true .int p2 (.int .i64 8)) m) fun x6 m=>Qh6 G x6 x5 m) (Qh6 G p2 p0 m)
def Qh8 (G:Gt)(p0 p2:V)(m:M):R:=bp (pur (bin .geq true true .int p0 (.int .u64 65536)) m) fun x7 m=>brb x7 (bp (pur (bin .shr true true .int p0 (.int .u64 16)) m) fun x8 m=>bp (pur (bin .add true true .int p2 (.int .i64 16)) m) fun x9 m=>Qh7 G x8 x9 m) (Qh7 G p0 p2 m)
def Qpo (G:Gt)(p0 p2:V)(m:M):R:=bp (pur (bin .geq true true .int p0 (.int .u64 4294967296)) m) fun x10 m=>brb x10 (bp (pur (bin .shr true true .int p0 (.int .u64 32)) m) fun x11 m=>Qh8 G x11 (.int .i64 32) m) (Qh8 G p0 p2 m)
def Q86 (G:Gt)(p0:V)(m:M):R:=Qpo G p0 (.int .i64 0) m
theorem Q15v (G:Gt)(a0:V)(m:M):ef G Tryz.f234 [a0] m = Q86 G a0 m:=Xb (r:=fun r m=>Q86 G (r 0) m) rfl rfl (tr (seqQ (f:=fun r m=>Qpo G (r 0) (r 2) m) (tr (seqQ (f:=fun r m=>Qh8 G (r 0) (r 2) m) (tr (seqQ (f:=fun r m=>Qh7 G (r 0) (r 2) m) (tr (seqQ (f:=fun r m=>Qh6 G (r 2) (r 0) m))))))))) m
def Qjk:En:=⟨Qj3,Tryz.f234,Tryz.func234,by kernel_rfl,arg1 Q86,X1v Q15v⟩
def Qym:En:=wE Qxz Tryz.f241 Tryz.func241 ⟨_,by go_invoke; rfl⟩
def Qm1 (G:Gt)(m:M):R:=some (.tuple ⟨[(.int .i64 0),(.int .i64 10)]⟩,m)
def Qdp (G:Gt):Nat→V→V→M→R
 | 0,_,_,_=>none
 | i + 1,p4,p0,m=>bp (pur (bin .leq true true .int p4 (.int .i64 32)) m) fun x0 m=>brb x0 (bp (G.tab Qgf [p4] m) fun x1 m=>bp (pur (X6 x1 0) m) fun x2 m=>bp (pur (X6 x1 1) m) fun x3 m=>bp (pur (bin .eql false true .int x2 p0) m) fun x4 m=>brb x4 (some (.tuple ⟨[p4,(.int .i64 0)]⟩,m)) (bp (pur (bin .add true true .int p4 (.int .i64 1)) m) fun x5 m=>(Qdp G i) x5 p0 m)) (Qm1 G m)
def Qm2 (G:Gt)(p4 p0:V)(m:M):R:=Qdp G G.rds p4 p0 m
def Qm3 (G:Gt)(p0:V)(m:M):R:=Qm2 G (.int .i64 0) p0 m
def Q67 (G:Gt)(p0:V)(m:M):R:=Qm3 G p0 m
theorem Q121 (G:Gt)(a0:V)(m:M):ef G Tryz.f242 [a0] m = Q67 G a0 m:=Xb (r:=fun r m=>Q67 G (r 0) m) rfl rfl (tr (seqQ (f:=fun r m=>Qm3 G (r 0) m) (tr (tr (seqQ (f:=fun r m=>Qm1 G m)) (seqQ (f:=fun r m=>Qm2 G (r 4) (r 0) m) (tr (Xm (X1l (fun i r m=>Qdp G i (r 4) (r 0) m) (fun _ _=>rfl) (fun i0=>fun r m=>by kernel_rfl))))))))) m
def Qgq:En:=⟨Qp6,Tryz.f242,Tryz.func242,by kernel_rfl,arg1 Q67,X1v Q121⟩
def Q11w:En:=wE Q113 Tryz.f243 Tryz.func243 ⟨_,by go_invoke; rfl⟩
def Q1ax:En:=wE Q1a7 Tryz.f245 Tryz.func245 ⟨_,by go_invoke; rfl⟩
def Q1dc:En:=wE Q1c7 Tryz.f247 Tryz.func247 ⟨_,by go_invoke; rfl⟩
def Q15t:En:=wE Q14v Tryz.f250 Tryz.func250 ⟨_,by go_invoke; rfl⟩
def Q140:En:=wE Q12s Tryz.f251 Tryz.func251 ⟨_,by go_invoke; rfl⟩
def Q1b0:En:=wE Q1a8 Tryz.f254 Tryz.func254 ⟨_,by go_invoke; rfl⟩
def Q1fn:En:=wE Q1ej Tryz.f256 Tryz.func256 ⟨_,by go_invoke; rfl⟩
def Qmx:En:=wE Qms Tryz.f272 Tryz.func272 ⟨_,by go_invoke; rfl⟩
def Qhn:En:=wE Qhg Tryz.f273 Tryz.func273 ⟨_,by go_invoke; rfl⟩
def Qed:En:=wE Qdw Tryz.f274 Tryz.func274 ⟨_,by go_invoke; rfl⟩
def Qg6:En:=wE Qfn Tryz.f275 Tryz.func275 ⟨_,by go_invoke; rfl⟩
def Qvf:En:=wE Qu5 Tryz.f276 Tryz.func276 ⟨_,by go_invoke; rfl⟩
def Qqj:En:=wE Qpt Tryz.f279 Tryz.func279 ⟨_,by go_invoke; rfl⟩
def Qmy:En:=wE Qmt Tryz.f282 Tryz.func282 ⟨_,by go_invoke; rfl⟩
def Qvg:En:=wE Qu6 Tryz.f286 Tryz.func286 ⟨_,by go_invoke; rfl⟩
def Qxb:En:=wE Qwg Tryz.f290 Tryz.func290 ⟨_,by go_invoke; rfl⟩
def Qyo:En:=wE Qy0 Tryz.f293 Tryz.func293 ⟨_,by go_invoke; rfl⟩
def Qmw:En:=wE Qmu Tryz.f297 Tryz.func297 ⟨_,by go_invoke; rfl⟩
def Qb9 (G:Gt)(p0:V)(m:M):R:=brb (.bool false) (bp (conv (.int .u32) p0 m) fun x0 m=>bp (G.tab Q14z [x0] m) fun x1 m=>some (x1,m)) (bp (G.tab Qj3 [p0] m) fun x2 m=>some (x2,m))
theorem Q19g (G:Gt)(a0:V)(m:M):ef G Tryz.f298 [a0] m = Qb9 G a0 m:=Xb (r:=fun r m=>Qb9 G (r 0) m) rfl rfl (fun r m=>by kernel_rfl) m
def Qnu:En:=⟨Qn6,Tryz.f298,Tryz.func298,by kernel_rfl,arg1 Qb9,X1v Q19g⟩
def Qaj:En:=wE Qag Tryz.f299 Tryz.func299 ⟨_,by go_invoke; rfl⟩
def Qrl:En:=wE Qr5 Tryz.f300 Tryz.func300 ⟨_,by go_invoke; rfl⟩
def Qa6:En:=wE Q95 Tryz.f301 Tryz.func301 ⟨_,by go_invoke; rfl⟩
def Q6l:En:=wE Q6d Tryz.f303 Tryz.func303 ⟨_,by go_invoke; rfl⟩
def Q52:En:=wE Q4z Tryz.f305 Tryz.func305 ⟨_,by go_invoke; rfl⟩
def Qa5:En:=wE Q96 Tryz.f307 Tryz.func307 ⟨_,by go_invoke; rfl⟩
def Qjp:En:=wE Qj4 Tryz.f309 Tryz.func309 ⟨_,by go_invoke; rfl⟩
def Q1do:En:=wE Q1c8 Tryz.f310 Tryz.func310 ⟨_,by go_invoke; rfl⟩
def Q1iz:En:=wE Q1ib Tryz.f311 Tryz.func311 ⟨_,by go_invoke; rfl⟩
def Qw2:En:=wE Qvu Tryz.f312 Tryz.func312 ⟨_,by go_invoke; rfl⟩
def Q141:En:=wE Q12t Tryz.f313 Tryz.func313 ⟨_,by go_invoke; rfl⟩
def Qjq:En:=wE Qj5 Tryz.f314 Tryz.func314 ⟨_,by go_invoke; rfl⟩
def Qlu:En:=wE Qla Tryz.f315 Tryz.func315 ⟨_,by go_invoke; rfl⟩
def Qdo:En:=wE Qcz Tryz.f316 Tryz.func316 ⟨_,by go_invoke; rfl⟩
def Qeb:En:=wE Qdx Tryz.f317 Tryz.func317 ⟨_,by go_invoke; rfl⟩
def Q1kv:En:=wE Q1k3 Tryz.f318 Tryz.func318 ⟨_,by go_invoke; rfl⟩
def Q1fi:En:=wE Q1ek Tryz.f319 Tryz.func319 ⟨_,by go_invoke; rfl⟩
def Qad (G:Gt)(m:M):R:=some ((.int .i64 (-1)),m)
def Q53 (G:Gt):Nat→V→V→V→V→M→R
 | 0,_,_,_,_,_=>none
 | i + 1,p8,p7,p1,p0,m=>bp (pur (bin .lss false true .int p8 p7) m) fun x0 m=>brb x0 (bp (pur (X5 1 p0 p8) m) fun x1 m=>bp (pur (X4 false 1 x1 m) m) fun x2 m=>bp (Xi G.tab p1 [x2] m) fun x3 m=>brb x3 (some (p8,m)) (bp (pur (bin .add true true .int p8 (.int .i64 1)) m) fun x4 m=>(Q53 G i) x4 p7 p1 p0 m)) (Qad G m)
def Qae (G:Gt)(p8 p7 p1 p0:V)(m:M):R:=Q53 G G.rds p8 p7 p1 p0 m
def Qaf (G:Gt)(p0 p1:V)(m:M):R:=bp (pur (lenK 1 p0 m) m) fun x5 m=>Qae G (.int .i64 0) x5 p1 p0 m
def Q23 (G:Gt)(p0 p1:V)(m:M):R:=Qaf G p0 p1 m
theorem Qp5 (G:Gt)(a0 a1:V)(m:M):ef G Tryz.f320 [a0,a1] m = Q23 G a0 a1 m:=Xb (r:=fun r m=>Q23 G (r 0) (r 1) m) rfl rfl (tr (seqQ (f:=fun r m=>Qaf G (r 0) (r 1) m) (tr (tr (seqQ (f:=fun r m=>Qad G m)) (seqQ (f:=fun r m=>Qae G (r 8) (r 7) (r 1) (r 0) m) (tr (Xm (X1l (fun i r m=>Q53 G i (r 8) (r 7) (r 1) (r 0) m) (fun _ _=>rfl) (fun i0=>fun r m=>by kernel_rfl))))))))) m
def Q5x:En:=⟨Qcb,Tryz.f320,Tryz.func320,by kernel_rfl,arg2 Q23,X19 Qp5⟩
def Qa9 (G:Gt)(p1:V)(m:M):R:=some (p1,m)
def Qic (G:Gt)(p0 p2 p1:V)(m:M):R:=bp (pur (Xa p0) m) fun x0 m=>bp (pur (X0 4 x0) m) fun x1 m=>bp (pur (X4 false 1 x1 m) m) fun x2 m=>bp (pur (bin .eql true true .int x2 (.int .i64 0)) m) fun x3 m=>brb x3 (bp (pur (Xa p0) m) fun x4 m=>bp (pur (X0 4 x4) m) fun x5 m=>bp (unt (X8 1 x5 p2 m)) fun _ m=>Qa9 G p1 m) (Qa9 G p1 m)
def Q3v (G:Gt)(p0 p2 p1:V)(m:M):R:=Qic G p0 p2 p1 m
theorem Qxc (G:Gt)(a0 a1 a2:V)(m:M):ef G Tryz.f321 [a0,a1,a2] m = Q3v G a0 a2 a1 m:=Xb (r:=fun r m=>Q3v G (r 0) (r 2) (r 1) m) rfl rfl (tr (seqQ (f:=fun r m=>Qic G (r 0) (r 2) (r 1) m) (tr (seqQ (f:=fun r m=>Qa9 G (r 1) m))))) m
def Qc2:En:=⟨Q10,Tryz.f321,Tryz.func321,by kernel_rfl,arg3 (fun G a0 a1 a2 m=>Q3v G a0 a2 a1 m),X2n Qxc⟩
def Q15s:En:=wE Q14w Tryz.f322 Tryz.func322 ⟨_,by go_invoke; rfl⟩
def Q13y:En:=wE Q12u Tryz.f323 Tryz.func323 ⟨_,by go_invoke; rfl⟩
def Qxa:En:=wE Qwh Tryz.f324 Tryz.func324 ⟨_,by go_invoke; rfl⟩
def Q3s (G:Gt)(p0:V)(m:M):R:=bp (pur (binP m .eql true true .ptr p0 (.pointer none)) m) fun x0 m=>brb x0 (some ((.pointer none),m)) (bp (pur (Xa p0) m) fun x1 m=>bp (pur (X0 0 x1) m) fun x2 m=>bp (pur (X4 false 1 x2 m) m) fun x3 m=>some (x3,m))
theorem Qxd (G:Gt)(a0:V)(m:M):ef G Tryz.f325 [a0] m = Q3s G a0 m:=Xb (r:=fun r m=>Q3s G (r 0) m) rfl rfl (fun r m=>by kernel_rfl) m
def Qbz:En:=⟨Q6q,Tryz.f325,Tryz.func325,by kernel_rfl,arg1 Q3s,X1v Qxd⟩
def Qw3:En:=wE Qah Tryz.f326 Tryz.func326 ⟨_,by go_invoke; rfl⟩
end
end Go.Ab.Sh

set_option maxRecDepth 100000
namespace Go.Ab.Sh
open Go Go.Ab Go.Proofs
noncomputable section
def Qm4 (G:Gt)(p8:V)(m:M):R:=bp (pur (X4 false 1 p8 m) m) fun x0 m=>some (.tuple ⟨[x0,(.int .i64 0)]⟩,m)
def Qc6 (G:Gt)(k1:J7)(p40 p39 p38 p2 p8 p11 p0:V)(m:M):R:=bp (pur (bin .add true true .int p40 (.int .i64 1)) m) fun x1 m=>k1 x1 p39 p38 p2 p8 p11 p0 m
def Qkm (G:Gt)(k1:J7)(p38 p40 p2 p8 p39 p0 p11:V)(m:M):R:=bp (pur (X5 2 p38 p40) m) fun x2 m=>bp (pur (X4 true 2 x2 m) m) fun x3 m=>bp (some (aNew Q11 Qbn m)) fun x4 m=>bp (unt (X8 2 x4 x3 m)) fun _ m=>bp (pur (X4 true 2 x4 m) m) fun x5 m=>bp (Xi G.tab p2 [x5,(.func (.func Qd1) ⟨[]⟩ ⟨[p8]⟩)] m) fun x6 m=>bp (pur (X6 x6 0) m) fun x7 m=>bp (pur (X6 x6 1) m) fun x8 m=>bp (pur (bin .neq true true .int x8 (.int .i64 0)) m) fun x9 m=>brb x9 (some (.tuple ⟨[(.map none),x8]⟩,m)) (bp (pur (X4 false 1 p8 m) m) fun x10 m=>bp (pur (X4 true 2 x4 m) m) fun x11 m=>bp (pur (X1j (.struct [(0,1,false,.int),(1,1,false,.int)]) (.int .i64 0) false x10 x11 m) m) fun x12 m=>bp (pur (bin .neq false true .int x7 x12) m) fun x13 m=>brb x13 (bp (pur (X4 false 1 p8 m) m) fun x14 m=>bp (pur (X4 true 2 x4 m) m) fun x15 m=>bp (unt (Xn (.struct [(0,1,false,.int),(1,1,false,.int)]) x14 x15 x7 m)) fun _ m=>Qc6 G k1 p40 p39 p38 p2 p8 (.bool true) p0 m) (Qc6 G k1 p40 p39 p38 p2 p8 p11 p0 m))
def Qkn (G:Gt)(k1:J7)(k0:J4)(p41 p38 p40 p2 p8 p39 p0 p11:V)(m:M):R:=brb p41 (Qkm G k1 p38 p40 p2 p8 p39 p0 p11 m) (k0 p11 p0 p2 p8 m)
def Q33 (G:Gt)(k0:J4):Nat→V→V→V→V→V→V→V→M→R
 | 0,_,_,_,_,_,_,_,_=>none
 | i + 1,p40,p39,p38,p2,p8,p11,p0,m=>bp (pur (bin .lss false true .int p40 p39) m) fun x16 m=>Qkn G (Q33 G k0 i) k0 x16 p38 p40 p2 p8 p39 p0 p11 m
def Qm5 (G:Gt)(k0:J4)(p40 p39 p38 p2 p8 p11 p0:V)(m:M):R:=Q33 G k0 G.rds p40 p39 p38 p2 p8 p11 p0 m
def Qm6 (G:Gt)(k0:J4)(p0 p2 p8 p11:V)(m:M):R:=bp (pur (Xa p0) m) fun x17 m=>bp (pur (X0 0 x17) m) fun x18 m=>bp (pur (X4 false 1 x18 m) m) fun x19 m=>bp (G.tab Qah [x19] m) fun x20 m=>bp (pur (lenK 1 x20 m) m) fun x21 m=>Qm5 G k0 (.int .i64 0) x21 x20 p2 p8 p11 p0 m
def Qm7 (G:Gt)(k0:J4)(p0 p2 p8:V)(m:M):R:=Qm6 G k0 p0 p2 p8 (.bool false) m
def Qn (G:Gt):Nat→V→V→V→V→M→R
 | 0,_,_,_,_,_=>none
 | i + 1,p11,p0,p2,p8,m=>brb p11 (Qm7 G (Qn G i) p0 p2 p8 m) (Qm4 G p8 m)
def Qm8 (G:Gt)(p11 p0 p2 p8:V)(m:M):R:=Qn G G.rds p11 p0 p2 p8 m
def Qm9 (G:Gt)(p0 p2 p8:V)(m:M):R:=Qm8 G (.bool true) p0 p2 p8 m
def Qc7 (G:Gt):Nat→V→V→V→V→V→V→V→M→R
 | 0,_,_,_,_,_,_,_,_=>none
 | i + 1,p23,p22,p21,p8,p1,p0,p2,m=>bp (pur (bin .lss false true .int p23 p22) m) fun x22 m=>brb x22 (bp (pur (X5 2 p21 p23) m) fun x23 m=>bp (pur (X4 true 2 x23 m) m) fun x24 m=>bp (some (aNew Q11 Qbn m)) fun x25 m=>bp (unt (X8 2 x25 x24 m)) fun _ m=>bp (pur (X4 false 1 p8 m) m) fun x26 m=>bp (pur (X4 true 2 x25 m) m) fun x27 m=>bp (pur (X4 true 2 x25 m) m) fun x28 m=>bp (Xi G.tab p1 [x28] m) fun x29 m=>ckB (again (pur (X4 false 1 p8 m) m) x26 && (again (pur (X4 true 2 x25 m) m) x27 && true)) (bp (unt (Xn (.struct [(0,1,false,.int),(1,1,false,.int)]) x26 x27 x29 m)) fun _ m=>bp (pur (bin .add true true .int p23 (.int .i64 1)) m) fun x30 m=>(Qc7 G i) x30 p22 p21 p8 p1 p0 p2 m)) (Qm9 G p0 p2 p8 m)
def Qko (G:Gt)(p23 p22 p21 p8 p1 p0 p2:V)(m:M):R:=Qc7 G G.rds p23 p22 p21 p8 p1 p0 p2 m
def Qma (G:Gt)(p0 p8 p1 p2:V)(m:M):R:=bp (pur (Xa p0) m) fun x31 m=>bp (pur (X0 0 x31) m) fun x32 m=>bp (pur (X4 false 1 x32 m) m) fun x33 m=>bp (G.tab Qah [x33] m) fun x34 m=>bp (pur (lenK 1 x34 m) m) fun x35 m=>Qko G (.int .i64 0) x35 x34 p8 p1 p0 p2 m
def Qmb (G:Gt)(p0 p1 p2:V)(m:M):R:=bp (some (X4j m)) fun x36 m=>bp (some (aNew Q11g [(.map none)] m)) fun x37 m=>bp (unt (X8 1 x37 x36 m)) fun _ m=>Qma G p0 x37 p1 p2 m
def Q63 (G:Gt)(p0 p1 p2:V)(m:M):R:=Qmb G p0 p1 p2 m
theorem Q122 (G:Gt)(a0 a1 a2:V)(m:M):ef G Tryz.f328 [a0,a1,a2] m = Q63 G a0 a1 a2 m:=Xb (r:=fun r m=>Q63 G (r 0) (r 1) (r 2) m) rfl rfl (tr (seqQ (f:=fun r m=>Qmb G (r 0) (r 1) (r 2) m) (tr (seqQ (f:=fun r m=>Qma G (r 0) (r 8) (r 1) (r 2) m) (tr (tr (seqQ (f:=fun r m=>Qm9 G (r 0) (r 2) (r 8) m) (tr (tr (seqQ (f:=fun r m=>Qm4 G (r 8) m)) (seqQ (f:=fun r m=>Qm8 G (r 11) (r 0) (r 2) (r 8) m) (tr (Xm (X1l (fun i r m=>Qn G i (r 11) (r 0) (r 2) (r 8) m) (fun _ _=>rfl) (fun i0=>tr (seqQ (f:=fun r m=>Qm7 G (Qn G i0) (r 0) (r 2) (r 8) m) (tr (Xm (seqQ (f:=fun r m=>Qm6 G (Qn G i0) (r 0) (r 2) (r 8) (r 11) m) (tr (seqQ (f:=fun r m=>Qm5 G (Qn G i0) (r 40) (r 39) (r 38) (r 2) (r 8) (r 11) (r 0) m) (tr (Xm (X1l (fun i r m=>Q33 G (Qn G i0) i (r 40) (r 39) (r 38) (r 2) (r 8) (r 11) (r 0) m) (fun _ _=>rfl) (fun i1=>tr (seqQ (f:=fun r m=>Qkn G (Q33 G (Qn G i0) i1) (Qn G i0) (r 41) (r 38) (r 40) (r 2) (r 8) (r 39) (r 0) (r 11) m) (tr (seqQ (f:=fun r m=>Qkm G (Q33 G (Qn G i0) i1) (r 38) (r 40) (r 2) (r 8) (r 39) (r 0) (r 11) m) (tr (seqQ (f:=fun r m=>Qc6 G (Q33 G (Qn G i0) i1) (r 40) (r 39) (r 38) (r 2) (r 8) (r 11) (r 0) m)))))))))))))))))))))))) (seqQ (f:=fun r m=>Qko G (r 23) (r 22) (r 21) (r 8) (r 1) (r 0) (r 2) m) (tr (Xm (X1l (fun i r m=>Qc7 G i (r 23) (r 22) (r 21) (r 8) (r 1) (r 0) (r 2) m) (fun _ _=>rfl) (fun i0=>fun r m=>by kernel_rfl))))))))))) m
def Qgl:En:=⟨Qe,Tryz.f328,Tryz.func328,by kernel_rfl,arg3 Q63,X2n Q122⟩
def Q1df:En:=wE Q1c9 Tryz.f329 Tryz.func329 ⟨_,by go_invoke; rfl⟩
def Qft (G:Gt)(p0 p2 p3 p4 p1:V)(m:M):R:=bp (some (aNew Q11 (Value.cells p0).toList m)) fun x0 m=>bp (pur (X4 false 1 p2 m) m) fun x1 m=>bp (pur (X4 true 2 x0 m) m) fun x2 m=>bp (pur (X4 false 1 p3 m) m) fun x3 m=>bp (G.tab Q8g [x1,x2,x3] m) fun x4 m=>bp (pur (X6 x4 0) m) fun x5 m=>bp (pur (X6 x4 1) m) fun x6 m=>bp (pur (bin .neq true true .int x6 (.int .i64 0)) m) fun x7 m=>brb x7 (some (.tuple ⟨[(.int .i64 0),x6]⟩,m)) (bp (pur (X4 false 1 p4 m) m) fun x8 m=>bp (pur (X4 true 2 x0 m) m) fun x9 m=>bp (G.tab Qhp [x8,x9,x5,p1] m) fun x10 m=>bp (pur (X6 x10 0) m) fun x11 m=>bp (pur (X6 x10 1) m) fun x12 m=>some (.tuple ⟨[x11,x12]⟩,m))
theorem Q1dr (G:Gt)(a0 a1 a2 a3 a4:V)(m:M):ef G Tryz.f330 [a0,a1,a2,a3,a4] m = Qft G a0 a2 a3 a4 a1 m:=Xb (r:=fun r m=>Qft G (r 0) (r 2) (r 3) (r 4) (r 1) m) rfl rfl (fun r m=>by kernel_rfl) m
def Qsn:En:=⟨Q10g,Tryz.f330,Tryz.func330,by kernel_rfl,arg5 (fun G a0 a1 a2 a3 a4 m=>Qft G a0 a2 a3 a4 a1 m),Xdn Q1dr⟩
def Qc8 (G:Gt)(p20 p2 p8:V)(m:M):R:=brb p20 (some (.tuple ⟨[(.int .i64 0),(.int .i64 1)]⟩,m)) (bp (pur (X0 0 p8) m) fun x0 m=>bp (pur (Xr 8 1 x0 p2) m) fun x1 m=>bp (pur (X4 false 1 x1 m) m) fun x2 m=>some (.tuple ⟨[x2,(.int .i64 0)]⟩,m))
def Qkp (G:Gt)(p16 p9 p2 p8:V)(m:M):R:=brb p16 (some (.tuple ⟨[(.int .i64 0),p9]⟩,m)) (bp (pur (bin .lss true true .int p2 (.int .u8 1)) m) fun x3 m=>brb x3 (Qc8 G (.bool true) p2 p8 m) (bp (pur (bin .gtr true true .int p2 (.int .u8 7)) m) fun x4 m=>Qc8 G x4 p2 p8 m))
def Qkq (G:Gt)(p9 p2 p8:V)(m:M):R:=bp (pur (bin .neq true true .int p9 (.int .i64 0)) m) fun x5 m=>Qkp G x5 p9 p2 p8 m
def Qkr (G:Gt)(p0 p4 p2:V)(m:M):R:=bp (pur (X4 true 2 p4 m) m) fun x6 m=>bp (G.tab Q62 [p0,x6] m) fun x7 m=>bp (pur (X6 x7 0) m) fun x8 m=>bp (pur (X6 x7 1) m) fun x9 m=>bp (some (aNew Qfq Q7o m)) fun x10 m=>bp (unt (X8 9 x10 x8 m)) fun _ m=>Qkq G x9 p2 x10 m
def Q5p (G:Gt)(p1 p0 p2:V)(m:M):R:=bp (some (aNew Q11 (Value.cells p1).toList m)) fun x11 m=>Qkr G p0 x11 p2 m
theorem Q10d (G:Gt)(a0 a1 a2:V)(m:M):ef G Tryz.f331 [a0,a1,a2] m = Q5p G a1 a0 a2 m:=Xb (r:=fun r m=>Q5p G (r 1) (r 0) (r 2) m) rfl rfl (tr (seqQ (f:=fun r m=>Qkr G (r 0) (r 4) (r 2) m) (tr (seqQ (f:=fun r m=>Qkq G (r 9) (r 2) (r 8) m) (tr (tr seqD (Xm (seqQ (f:=fun r m=>Qkp G (r 16) (r 9) (r 2) (r 8) m) (tr (X5g (refQ) (seqQ (f:=fun r m=>Qc8 G (r 20) (r 2) (r 8) m)))))))))))) m
def Qff:En:=⟨Q8g,Tryz.f331,Tryz.func331,by kernel_rfl,arg3 (fun G a0 a1 a2 m=>Q5p G a1 a0 a2 m),X2n Q10d⟩
def Qoi (G:Gt)(p2:V)(m:M):R:=some (.tuple ⟨[p2,(.int .i64 0)]⟩,m)
def Qfk (G:Gt):Nat→V→V→V→V→V→V→V→M→R
 | 0,_,_,_,_,_,_,_,_=>none
 | i + 1,p30,p29,p28,p0,p5,p3,p2,m=>bp (pur (bin .lss false true .int p30 p29) m) fun x0 m=>brb x0 (bp (pur (X5 2 p28 p30) m) fun x1 m=>bp (pur (X4 true 2 x1 m) m) fun x2 m=>bp (some (aNew Q11 Qbn m)) fun x3 m=>bp (unt (X8 2 x3 x2 m)) fun _ m=>bp (pur (Xa p0) m) fun x4 m=>bp (pur (X0 0 x4) m) fun x5 m=>bp (pur (X4 false 1 x5 m) m) fun x6 m=>bp (pur (X4 true 2 p5 m) m) fun x7 m=>bp (pur (X4 true 2 x3 m) m) fun x8 m=>bp (Xi G.tab p3 [x8] m) fun x9 m=>ckB (again (pur (X4 false 1 x5 m) m) x6 && (again (pur (X4 true 2 p5 m) m) x7 && true)) (bp (G.tab Q7i [x6,x7,p30,x9] m) fun x10 m=>bp (pur (X6 x10 0) m) fun x11 m=>bp (pur (X6 x10 1) m) fun x12 m=>bp (pur (bin .neq true true .int x12 (.int .i64 0)) m) fun x13 m=>brb x13 (some (.tuple ⟨[(.int .i64 0),x12]⟩,m)) (bp (pur (Xa p0) m) fun x14 m=>bp (pur (X0 0 x14) m) fun x15 m=>bp (pur (X4 false 1 x15 m) m) fun x16 m=>bp (G.tab Q6q [x16] m) fun x17 m=>bp (G.tab Q56 [x17,p2,x11] m) fun x18 m=>bp (pur (X6 x18 0) m) fun x19 m=>bp (pur (X6 x18 1) m) fun x20 m=>bp (pur (bin .neq true true .int x20 (.int .i64 0)) m) fun x21 m=>brb x21 (some (.tuple ⟨[(.int .i64 0),x20]⟩,m)) (bp (pur (bin .add true true .int p30 (.int .i64 1)) m) fun x22 m=>(Qfk G i) x22 p29 p28 p0 p5 p3 x19 m)))) (Qoi G p2 m)
def Qoj (G:Gt)(p30 p29 p28 p0 p5 p3 p2:V)(m:M):R:=Qfk G G.rds p30 p29 p28 p0 p5 p3 p2 m
def Qok (G:Gt)(p10 p0 p5 p3 p2:V)(m:M):R:=bp (pur (lenK 1 p10 m) m) fun x23 m=>Qoj G (.int .i64 0) x23 p10 p0 p5 p3 p2 m
def Qol (G:Gt)(p11 p10 p0 p5 p3 p2:V)(m:M):R:=bp (pur (bin .neq true true .int p11 (.int .i64 0)) m) fun x24 m=>brb x24 (some (.tuple ⟨[(.int .i64 0),p11]⟩,m)) (Qok G p10 p0 p5 p3 p2 m)
def Qom (G:Gt)(p0 p5 p3 p2:V)(m:M):R:=bp (pur (Xa p0) m) fun x25 m=>bp (pur (X0 0 x25) m) fun x26 m=>bp (pur (X4 false 1 x26 m) m) fun x27 m=>bp (pur (X4 true 2 p5 m) m) fun x28 m=>bp (G.tab Q6s [x27,x28] m) fun x29 m=>bp (pur (X6 x29 0) m) fun x30 m=>bp (pur (X6 x29 1) m) fun x31 m=>Qol G x31 x30 p0 p5 p3 p2 m
def Q74 (G:Gt)(p1 p0 p3 p2:V)(m:M):R:=bp (some (aNew Q11 (Value.cells p1).toList m)) fun x32 m=>Qom G p0 x32 p3 p2 m
theorem Q148 (G:Gt)(a0 a1 a2 a3:V)(m:M):ef G Tryz.f332 [a0,a1,a2,a3] m = Q74 G a1 a0 a3 a2 m:=Xb (r:=fun r m=>Q74 G (r 1) (r 0) (r 3) (r 2) m) rfl rfl (tr (seqQ (f:=fun r m=>Qom G (r 0) (r 5) (r 3) (r 2) m) (tr (seqQ (f:=fun r m=>Qol G (r 11) (r 10) (r 0) (r 5) (r 3) (r 2) m) (tr (seqQ (f:=fun r m=>Qok G (r 10) (r 0) (r 5) (r 3) (r 2) m) (tr (tr (seqQ (f:=fun r m=>Qoi G (r 2) m)) (seqQ (f:=fun r m=>Qoj G (r 30) (r 29) (r 28) (r 0) (r 5) (r 3) (r 2) m) (tr (Xm (X1l (fun i r m=>Qfk G i (r 30) (r 29) (r 28) (r 0) (r 5) (r 3) (r 2) m) (fun _ _=>rfl) (fun i0=>fun r m=>by kernel_rfl))))))))))))) m
def Qhz:En:=⟨Qhp,Tryz.f332,Tryz.func332,by kernel_rfl,arg4 (fun G a0 a1 a2 a3 m=>Q74 G a1 a0 a3 a2 m),X3u Q148⟩
def Q1dh:En:=wE Q1ca Tryz.f333 Tryz.func333 ⟨_,by go_invoke; rfl⟩
def Qfu (G:Gt)(p0 p2 p3 p1:V)(m:M):R:=bp (some (aNew Q11 (Value.cells p0).toList m)) fun x0 m=>bp (pur (X4 false 1 p2 m) m) fun x1 m=>bp (pur (X4 true 2 x0 m) m) fun x2 m=>bp (pur (X4 false 1 p3 m) m) fun x3 m=>bp (G.tab Qgd [x1,x2,x3,p1] m) fun x4 m=>bp (pur (X6 x4 0) m) fun x5 m=>bp (pur (X6 x4 1) m) fun x6 m=>some (.tuple ⟨[x5,x6]⟩,m)
theorem Q1ds (G:Gt)(a0 a1 a2 a3:V)(m:M):ef G Tryz.f334 [a0,a1,a2,a3] m = Qfu G a0 a2 a3 a1 m:=Xb (r:=fun r m=>Qfu G (r 0) (r 2) (r 3) (r 1) m) rfl rfl (fun r m=>by kernel_rfl) m
def Qso:En:=⟨Q10h,Tryz.f334,Tryz.func334,by kernel_rfl,arg4 (fun G a0 a1 a2 a3 m=>Qfu G a0 a2 a3 a1 m),X3u Q1ds⟩
def Qmc (G:Gt)(p10 p11:V)(m:M):R:=bp (G.tab Qep [p10,p11] m) fun x0 m=>bp (pur (X6 x0 0) m) fun x1 m=>bp (pur (X6 x0 1) m) fun x2 m=>some (.tuple ⟨[x1,x2]⟩,m)
def Qdq (G:Gt):Nat→V→V→V→V→V→V→V→V→M→R
 | 0,_,_,_,_,_,_,_,_,_=>none
 | i + 1,p71,p70,p69,p10,p3,p0,p5,p11,m=>bp (pur (bin .lss false true .int p71 p70) m) fun x3 m=>brb x3 (bp (pur (X5 2 p69 p71) m) fun x4 m=>bp (pur (X4 true 2 x4 m) m) fun x5 m=>bp (some (aNew Q11 Qbn m)) fun x6 m=>bp (unt (X8 2 x6 x5 m)) fun _ m=>bp (pur (X4 true 2 x6 m) m) fun x7 m=>bp (Xi G.tab p3 [x7] m) fun x8 m=>bp (G.tab Qep [p10,x8] m) fun x9 m=>bp (pur (X6 x9 0) m) fun x10 m=>bp (pur (X6 x9 1) m) fun x11 m=>bp (pur (bin .neq true true .int x11 (.int .i64 0)) m) fun x12 m=>brb x12 (some (.tuple ⟨[(.int .i64 0),x11]⟩,m)) (bp (pur (Xa p0) m) fun x13 m=>bp (pur (X0 0 x13) m) fun x14 m=>bp (pur (X4 false 1 x14 m) m) fun x15 m=>bp (pur (X4 true 2 p5 m) m) fun x16 m=>bp (G.tab Q7i [x15,x16,p71,x10] m) fun x17 m=>bp (pur (X6 x17 0) m) fun x18 m=>bp (pur (X6 x17 1) m) fun x19 m=>bp (pur (bin .neq true true .int x19 (.int .i64 0)) m) fun x20 m=>brb x20 (some (.tuple ⟨[(.int .i64 0),x19]⟩,m)) (bp (G.tab Q56 [p10,p11,x18] m) fun x21 m=>bp (pur (X6 x21 0) m) fun x22 m=>bp (pur (X6 x21 1) m) fun x23 m=>bp (pur (bin .neq true true .int x23 (.int .i64 0)) m) fun x24 m=>brb x24 (some (.tuple ⟨[(.int .i64 0),x23]⟩,m)) (bp (pur (bin .add true true .int p71 (.int .i64 1)) m) fun x25 m=>(Qdq G i) x25 p70 p69 p10 p3 p0 p5 x22 m)))) (Qmc G p10 p11 m)
def Qmd (G:Gt)(p71 p70 p69 p10 p3 p0 p5 p11:V)(m:M):R:=Qdq G G.rds p71 p70 p69 p10 p3 p0 p5 p11 m
def Qme (G:Gt)(p15 p10 p3 p0 p5 p11:V)(m:M):R:=bp (pur (lenK 1 p15 m) m) fun x26 m=>Qmd G (.int .i64 0) x26 p15 p10 p3 p0 p5 p11 m
def Qmf (G:Gt)(p16 p15 p10 p3 p0 p5 p11:V)(m:M):R:=bp (pur (bin .neq true true .int p16 (.int .i64 0)) m) fun x27 m=>brb x27 (some (.tuple ⟨[(.int .i64 0),p16]⟩,m)) (Qme G p15 p10 p3 p0 p5 p11 m)
def Qmg (G:Gt)(p0 p5 p10 p3 p11:V)(m:M):R:=bp (pur (Xa p0) m) fun x28 m=>bp (pur (X0 0 x28) m) fun x29 m=>bp (pur (X4 false 1 x29 m) m) fun x30 m=>bp (pur (X4 true 2 p5 m) m) fun x31 m=>bp (G.tab Q6s [x30,x31] m) fun x32 m=>bp (pur (X6 x32 0) m) fun x33 m=>bp (pur (X6 x32 1) m) fun x34 m=>Qmf G x34 x33 p10 p3 p0 p5 p11 m
def Qc9 (G:Gt)(k0:J7)(p12 p2 p0 p5 p10 p11 p3:V)(m:M):R:=bp (pur (bin .add true true .int p12 (.int .u8 1)) m) fun x35 m=>k0 x35 p2 p0 p5 p10 p11 p3 m
def Qks (G:Gt)(k0:J7)(p12 p2 p0 p5 p10 p11 p3:V)(m:M):R:=bp (pur (bin .eql false true .int p12 p2) m) fun x36 m=>brb x36 (Qc9 G k0 p12 p2 p0 p5 p10 p11 p3 m) (bp (pur (Xa p0) m) fun x37 m=>bp (pur (X0 0 x37) m) fun x38 m=>bp (pur (X4 false 1 x38 m) m) fun x39 m=>bp (pur (X4 true 2 p5 m) m) fun x40 m=>bp (G.tab Q8g [x39,x40,p12] m) fun x41 m=>bp (pur (X6 x41 0) m) fun x42 m=>bp (pur (X6 x41 1) m) fun x43 m=>bp (pur (bin .neq true true .int x43 (.int .i64 0)) m) fun x44 m=>brb x44 (some (.tuple ⟨[(.int .i64 0),x43]⟩,m)) (bp (G.tab Q56 [p10,p11,x42] m) fun x45 m=>bp (pur (X6 x45 0) m) fun x46 m=>bp (pur (X6 x45 1) m) fun x47 m=>bp (pur (bin .neq true true .int x47 (.int .i64 0)) m) fun x48 m=>brb x48 (some (.tuple ⟨[(.int .i64 0),x47]⟩,m)) (Qc9 G k0 p12 p2 p0 p5 p10 x46 p3 m)))
def Q48 (G:Gt):Nat→V→V→V→V→V→V→V→M→R
 | 0,_,_,_,_,_,_,_,_=>none
 | i + 1,p12,p2,p0,p5,p10,p11,p3,m=>bp (pur (bin .lss true true .int p12 (.int .u8 8)) m) fun x49 m=>brb x49 (Qks G (Q48 G i) p12 p2 p0 p5 p10 p11 p3 m) (Qmg G p0 p5 p10 p3 p11 m)
def Qmh (G:Gt)(p12 p2 p0 p5 p10 p11 p3:V)(m:M):R:=Q48 G G.rds p12 p2 p0 p5 p10 p11 p3 m
def Qmi (G:Gt)(p2 p0 p5 p10 p11 p3:V)(m:M):R:=Qmh G (.int .u8 1) p2 p0 p5 p10 p11 p3 m
def Qmj (G:Gt)(p2 p0 p5 p10 p3:V)(m:M):R:=Qmi G p2 p0 p5 p10 (.int .i64 0) p3 m
def Qmk (G:Gt)(p0 p2 p5 p3:V)(m:M):R:=bp (pur (Xa p0) m) fun x50 m=>bp (pur (X0 0 x50) m) fun x51 m=>bp (pur (X4 false 1 x51 m) m) fun x52 m=>bp (G.tab Q6q [x52] m) fun x53 m=>Qmj G p2 p0 p5 x53 p3 m
def Q64 (G:Gt)(p1 p0 p2 p3:V)(m:M):R:=bp (some (aNew Q11 (Value.cells p1).toList m)) fun x54 m=>Qmk G p0 p2 x54 p3 m
theorem Q123 (G:Gt)(a0 a1 a2 a3:V)(m:M):ef G Tryz.f335 [a0,a1,a2,a3] m = Q64 G a1 a0 a2 a3 m:=Xb (r:=fun r m=>Q64 G (r 1) (r 0) (r 2) (r 3) m) rfl rfl (tr (seqQ (f:=fun r m=>Qmk G (r 0) (r 2) (r 5) (r 3) m) (tr (seqQ (f:=fun r m=>Qmj G (r 2) (r 0) (r 5) (r 10) (r 3) m) (tr (seqQ (f:=fun r m=>Qmi G (r 2) (r 0) (r 5) (r 10) (r 11) (r 3) m) (tr (tr (seqQ (f:=fun r m=>Qmg G (r 0) (r 5) (r 10) (r 3) (r 11) m) (tr (seqQ (f:=fun r m=>Qmf G (r 16) (r 15) (r 10) (r 3) (r 0) (r 5) (r 11) m) (tr (seqQ (f:=fun r m=>Qme G (r 15) (r 10) (r 3) (r 0) (r 5) (r 11) m) (tr (tr (seqQ (f:=fun r m=>Qmc G (r 10) (r 11) m)) (seqQ (f:=fun r m=>Qmd G (r 71) (r 70) (r 69) (r 10) (r 3) (r 0) (r 5) (r 11) m) (tr (Xm (X1l (fun i r m=>Qdq G i (r 71) (r 70) (r 69) (r 10) (r 3) (r 0) (r 5) (r 11) m) (fun _ _=>rfl) (fun i0=>fun r m=>by kernel_rfl)))))))))))) (seqQ (f:=fun r m=>Qmh G (r 12) (r 2) (r 0) (r 5) (r 10) (r 11) (r 3) m) (tr (Xm (X1l (fun i r m=>Q48 G i (r 12) (r 2) (r 0) (r 5) (r 10) (r 11) (r 3) m) (fun _ _=>rfl) (fun i0=>tr (seqQ (f:=fun r m=>Qks G (Q48 G i0) (r 12) (r 2) (r 0) (r 5) (r 10) (r 11) (r 3) m) (tr (seqQ (f:=fun r m=>Qc9 G (Q48 G i0) (r 12) (r 2) (r 0) (r 5) (r 10) (r 11) (r 3) m))))))))))))))))) m
def Qgm:En:=⟨Qgd,Tryz.f335,Tryz.func335,by kernel_rfl,arg4 (fun G a0 a1 a2 a3 m=>Q64 G a1 a0 a2 a3 m),X3u Q123⟩
def Q15p:En:=wE Q14x Tryz.f336 Tryz.func336 ⟨_,by go_invoke; rfl⟩
def Q1av:En:=wE Q1ab Tryz.f337 Tryz.func337 ⟨_,by go_invoke; rfl⟩
def Qb8 (G:Gt)(p0 p1 p2:V)(m:M):R:=bp (pur (binP m .eql true true .ptr p0 (.pointer none)) m) fun x0 m=>brb x0 (some (.tuple ⟨[(.int .i64 0),(.int .i64 2)]⟩,m)) (bp (pur (Xa p0) m) fun x1 m=>bp (pur (X0 0 x1) m) fun x2 m=>bp (pur (X4 false 1 x2 m) m) fun x3 m=>bp (G.tab Q97 [p0,p1,p2,(.func (.func Qb2) ⟨[x3]⟩ ⟨[]⟩)] m) fun x4 m=>bp (pur (X6 x4 0) m) fun x5 m=>bp (pur (X6 x4 1) m) fun x6 m=>some (.tuple ⟨[x5,x6]⟩,m))
theorem Q19h (G:Gt)(a0 a1 a2:V)(m:M):ef G Tryz.f338 [a0,a1,a2] m = Qb8 G a0 a1 a2 m:=Xb (r:=fun r m=>Qb8 G (r 0) (r 1) (r 2) m) rfl rfl (fun r m=>by kernel_rfl) m
def Qns:En:=⟨Q56,Tryz.f338,Tryz.func338,by kernel_rfl,arg3 Qb8,X2n Q19h⟩
def Q9o (G:Gt)(p0 p1 p2 p3:V)(m:M):R:=bp (Xc Q7j [(.int .i64 0)] 1 2 [(0,p1),(1,p2)] m) fun x0 m=>bp (G.tab Q57 [p0,x0,(.slice none 0 0)] m) fun x1 m=>bp (pur (bin .neq true true .int x1 (.int .i64 0)) m) fun x2 m=>brb x2 (some (.tuple ⟨[(.int .i64 0),x1]⟩,m)) (bp (Xi G.tab p3 [p1,p2] m) fun x3 m=>bp (pur (X6 x3 0) m) fun x4 m=>bp (pur (X6 x3 1) m) fun x5 m=>some (.tuple ⟨[x4,x5]⟩,m))
theorem Q17j (G:Gt)(a0 a1 a2 a3:V)(m:M):ef G Tryz.f339 [a0,a1,a2,a3] m = Q9o G a0 a1 a2 a3 m:=Xb (r:=fun r m=>Q9o G (r 0) (r 1) (r 2) (r 3) m) rfl rfl (fun r m=>by kernel_rfl) m
def Qlo:En:=⟨Q97,Tryz.f339,Tryz.func339,by kernel_rfl,arg4 Q9o,X3u Q17j⟩
end
end Go.Ab.Sh

set_option maxRecDepth 100000
namespace Go.Ab.Sh
open Go Go.Ab Go.Proofs
noncomputable section
def Q4m (G:Gt)(p0 p1 p2:V)(m:M):R:=bp (G.tab Q19 [p0,p1,p2,(.int .i64 0)] m) fun x0 m=>bp (pur (X6 x0 0) m) fun x1 m=>bp (pur (X6 x0 1) m) fun x2 m=>some (.tuple ⟨[x1,x2]⟩,m)
theorem Q17k (G:Gt)(a0 a1 a2:V)(m:M):ef G Tryz.f340 [a0,a1,a2] m = Q4m G a0 a1 a2 m:=Xb (r:=fun r m=>Q4m G (r 0) (r 1) (r 2) m) rfl rfl (fun r m=>by kernel_rfl) m
def Q9j:En:=⟨Q6e,Tryz.f340,Tryz.func340,by kernel_rfl,arg3 Q4m,X2n Q17k⟩
def Qkt (G:Gt)(m:M):R:=some ((.int .i64 0),m)
def Qca (G:Gt)(k0:J4)(p51 p50 p49 p0:V)(m:M):R:=bp (pur (bin .add true true .int p51 (.int .i64 1)) m) fun x0 m=>k0 x0 p50 p49 p0 m
def Qiu (G:Gt)(k0:J4)(p0 p12 p51 p50 p49:V)(m:M):R:=bp (pur (Xa p0) m) fun x1 m=>bp (pur (X0 1 x1) m) fun x2 m=>bp (pur (X4 false 1 x2 m) m) fun x3 m=>bp (unt (Xn .int x3 p12 (.int .i64 2) m)) fun _ m=>Qca G k0 p51 p50 p49 p0 m
def Qal (G:Gt)(k0:J4):Nat→V→V→V→V→V→V→V→V→M→R
 | 0,_,_,_,_,_,_,_,_,_=>none
 | i + 1,p75,p74,p73,p0,p12,p51,p50,p49,m=>bp (pur (bin .lss false true .int p75 p74) m) fun x4 m=>brb x4 (bp (pur (X5 1 p73 p75) m) fun x5 m=>bp (pur (X4 false 1 x5 m) m) fun x6 m=>bp (pur (bin .rem true true .int x6 (.int .i64 2)) m) fun x7 m=>bp (pur (bin .eql true true .int x7 (.int .i64 1)) m) fun x8 m=>brb x8 (some ((.int .i64 1),m)) (bp (pur (bin .add true true .int p75 (.int .i64 1)) m) fun x9 m=>(Qal G k0 i) x9 p74 p73 p0 p12 p51 p50 p49 m)) (Qiu G k0 p0 p12 p51 p50 p49 m)
def Qiv (G:Gt)(k0:J4)(p75 p74 p73 p0 p12 p51 p50 p49:V)(m:M):R:=Qal G k0 G.rds p75 p74 p73 p0 p12 p51 p50 p49 m
def Qiw (G:Gt)(k0:J4)(p13 p0 p12 p51 p50 p49:V)(m:M):R:=bp (pur (lenK 1 p13 m) m) fun x10 m=>Qiv G k0 (.int .i64 0) x10 p13 p0 p12 p51 p50 p49 m
def Qix (G:Gt)(k0:J4)(p14 p13 p0 p12 p51 p50 p49:V)(m:M):R:=bp (pur (bin .neq true true .int p14 (.int .i64 0)) m) fun x11 m=>brb x11 (some ((.int .i64 1),m)) (Qiw G k0 p13 p0 p12 p51 p50 p49 m)
def Qiy (G:Gt)(k0:J4)(p0 p12 p51 p50 p49:V)(m:M):R:=bp (pur (Xa p0) m) fun x12 m=>bp (pur (X0 0 x12) m) fun x13 m=>bp (pur (X4 false 1 x13 m) m) fun x14 m=>bp (G.tab Qer [x14,p12] m) fun x15 m=>bp (pur (X6 x15 0) m) fun x16 m=>bp (pur (X6 x15 1) m) fun x17 m=>Qix G k0 x17 x16 p0 p12 p51 p50 p49 m
def Qku (G:Gt)(k0:J4)(p0 p12 p51 p50 p49:V)(m:M):R:=bp (pur (Xa p0) m) fun x18 m=>bp (pur (X0 1 x18) m) fun x19 m=>bp (pur (X4 false 1 x19 m) m) fun x20 m=>bp (pur (X1j .int (.int .i64 0) false x20 p12 m) m) fun x21 m=>bp (pur (bin .eql true true .int x21 (.int .i64 2)) m) fun x22 m=>brb x22 (Qca G k0 p51 p50 p49 p0 m) (Qiy G k0 p0 p12 p51 p50 p49 m)
def Qkv (G:Gt)(k0:J4)(p49 p51 p0 p50:V)(m:M):R:=bp (pur (X5 1 p49 p51) m) fun x23 m=>bp (pur (X4 false 1 x23 m) m) fun x24 m=>Qku G k0 p0 x24 p51 p50 p49 m
def Qkw (G:Gt)(k0:J4)(p52 p49 p51 p0 p50:V)(m:M):R:=brb p52 (Qkv G k0 p49 p51 p0 p50 m) (Qkt G m)
def Qg (G:Gt):Nat→V→V→V→V→M→R
 | 0,_,_,_,_,_=>none
 | i + 1,p51,p50,p49,p0,m=>bp (pur (bin .lss false true .int p51 p50) m) fun x25 m=>Qkw G (Qg G i) x25 p49 p51 p0 p50 m
def Qkx (G:Gt)(p51 p50 p49 p0:V)(m:M):R:=Qg G G.rds p51 p50 p49 p0 m
def Qky (G:Gt)(p1 p0:V)(m:M):R:=bp (pur (lenK 1 p1 m) m) fun x26 m=>Qkx G (.int .i64 0) x26 p1 p0 m
def Qam (G:Gt)(k0:J5)(p21 p20 p19 p0 p1:V)(m:M):R:=bp (pur (bin .add true true .int p21 (.int .i64 1)) m) fun x27 m=>k0 x27 p20 p19 p0 p1 m
def Qiz (G:Gt)(k0:J5)(p19 p21 p0 p20 p1:V)(m:M):R:=bp (pur (X5 1 p19 p21) m) fun x28 m=>bp (pur (X4 false 1 x28 m) m) fun x29 m=>bp (pur (Xa p0) m) fun x30 m=>bp (pur (X0 1 x30) m) fun x31 m=>bp (pur (X4 false 1 x31 m) m) fun x32 m=>bp (pur (X1j .int (.int .i64 0) false x32 x29 m) m) fun x33 m=>bp (pur (bin .geq true true .int x33 (.int .i64 1)) m) fun x34 m=>brb x34 (Qam G k0 p21 p20 p19 p0 p1 m) (bp (pur (Xa p0) m) fun x35 m=>bp (pur (X0 0 x35) m) fun x36 m=>bp (pur (X4 false 1 x36 m) m) fun x37 m=>bp (G.tab Q150 [x37,x29] m) fun x38 m=>bp (pur (X6 x38 0) m) fun x39 m=>bp (pur (X6 x38 1) m) fun x40 m=>bp (pur (bin .neq true true .int x40 (.int .i64 0)) m) fun x41 m=>brb x41 (some ((.int .i64 1),m)) (bp (pur (Xa p0) m) fun x42 m=>bp (pur (X0 1 x42) m) fun x43 m=>bp (pur (X4 false 1 x43 m) m) fun x44 m=>bp (unt (Xn .int x44 x29 (.int .i64 1) m)) fun _ m=>Qam G k0 p21 p20 p19 p0 p1 m))
def Qj0 (G:Gt)(k0:J5)(p22 p19 p21 p0 p20 p1:V)(m:M):R:=brb p22 (Qiz G k0 p19 p21 p0 p20 p1 m) (Qky G p1 p0 m)
def Q2l (G:Gt):Nat→V→V→V→V→V→M→R
 | 0,_,_,_,_,_,_=>none
 | i + 1,p21,p20,p19,p0,p1,m=>bp (pur (bin .lss false true .int p21 p20) m) fun x45 m=>Qj0 G (Q2l G i) x45 p19 p21 p0 p20 p1 m
def Qj1 (G:Gt)(p21 p20 p19 p0 p1:V)(m:M):R:=Q2l G G.rds p21 p20 p19 p0 p1 m
def Qkz (G:Gt)(p2 p0 p1:V)(m:M):R:=bp (pur (lenK 1 p2 m) m) fun x46 m=>Qj1 G (.int .i64 0) x46 p2 p0 p1 m
def Ql0 (G:Gt)(p0 p2 p1:V)(m:M):R:=bp (pur (binP m .eql true true .ptr p0 (.pointer none)) m) fun x47 m=>brb x47 (some ((.int .i64 2),m)) (Qkz G p2 p0 p1 m)
def Q5o (G:Gt)(p0 p2 p1:V)(m:M):R:=Ql0 G p0 p2 p1 m
theorem Q10e (G:Gt)(a0 a1 a2:V)(m:M):ef G Tryz.f341 [a0,a1,a2] m = Q5o G a0 a2 a1 m:=Xb (r:=fun r m=>Q5o G (r 0) (r 2) (r 1) m) rfl rfl (tr (seqQ (f:=fun r m=>Ql0 G (r 0) (r 2) (r 1) m) (tr (seqQ (f:=fun r m=>Qkz G (r 2) (r 0) (r 1) m) (tr (tr (seqQ (f:=fun r m=>Qky G (r 1) (r 0) m) (tr (tr (seqQ (f:=fun r m=>Qkt G m)) (seqQ (f:=fun r m=>Qkx G (r 51) (r 50) (r 49) (r 0) m) (tr (Xm (X1l (fun i r m=>Qg G i (r 51) (r 50) (r 49) (r 0) m) (fun _ _=>rfl) (fun i0=>tr (seqQ (f:=fun r m=>Qkw G (Qg G i0) (r 52) (r 49) (r 51) (r 0) (r 50) m) (tr (seqQ (f:=fun r m=>Qkv G (Qg G i0) (r 49) (r 51) (r 0) (r 50) m) (tr (tr (seqQ (f:=fun r m=>Qca G (Qg G i0) (r 51) (r 50) (r 49) (r 0) m)) (Xm (seqQ (f:=fun r m=>Qku G (Qg G i0) (r 0) (r 12) (r 51) (r 50) (r 49) m) (tr (seqQ (f:=fun r m=>Qiy G (Qg G i0) (r 0) (r 12) (r 51) (r 50) (r 49) m) (tr (seqQ (f:=fun r m=>Qix G (Qg G i0) (r 14) (r 13) (r 0) (r 12) (r 51) (r 50) (r 49) m) (tr (seqQ (f:=fun r m=>Qiw G (Qg G i0) (r 13) (r 0) (r 12) (r 51) (r 50) (r 49) m) (tr (tr (seqQ (f:=fun r m=>Qiu G (Qg G i0) (r 0) (r 12) (r 51) (r 50) (r 49) m)) (seqQ (f:=fun r m=>Qiv G (Qg G i0) (r 75) (r 74) (r 73) (r 0) (r 12) (r 51) (r 50) (r 49) m) (tr (Xm (X1l (fun i r m=>Qal G (Qg G i0) i (r 75) (r 74) (r 73) (r 0) (r 12) (r 51) (r 50) (r 49) m) (fun _ _=>rfl) (fun i1=>fun r m=>by kernel_rfl)))))))))))))))))))))))))))) (seqQ (f:=fun r m=>Qj1 G (r 21) (r 20) (r 19) (r 0) (r 1) m) (tr (Xm (X1l (fun i r m=>Q2l G i (r 21) (r 20) (r 19) (r 0) (r 1) m) (fun _ _=>rfl) (fun i0=>tr (seqQ (f:=fun r m=>Qj0 G (Q2l G i0) (r 22) (r 19) (r 21) (r 0) (r 20) (r 1) m) (tr (seqQ (f:=fun r m=>Qiz G (Q2l G i0) (r 19) (r 21) (r 0) (r 20) (r 1) m) (tr (seqQ (f:=fun r m=>Qam G (Q2l G i0) (r 21) (r 20) (r 19) (r 0) (r 1) m))))))))))))))))) m
def Qfe:En:=⟨Q57,Tryz.f341,Tryz.func341,by kernel_rfl,arg3 (fun G a0 a1 a2 m=>Q5o G a0 a2 a1 m),X2n Q10e⟩
def Q146:En:=wE Q12v Tryz.f342 Tryz.func342 ⟨_,by go_invoke; rfl⟩
def Q16b (G:Gt)(p3:V)(m:M):R:=some (p3,m)
def Qxe (G:Gt):Nat→V→V→V→M→R
 | 0,_,_,_,_=>none
 | i + 1,p5,p3,p0,m=>bp (pur (bin .lss true true .int p5 (.int .i64 104)) m) fun x0 m=>brb x0 (bp (Xi G.tab p0 [p5] m) fun x1 m=>bp (Xc Q7j [(.int .i64 0)] 1 1 [(0,x1)] m) fun x2 m=>bp (apS Q7j 1 8 p3 x2 m) fun x3 m=>bp (pur (bin .add true true .int p5 (.int .i64 1)) m) fun x4 m=>(Qxe G i) x4 x3 p0 m) (Q16b G p3 m)
def Q16c (G:Gt)(p5 p3 p0:V)(m:M):R:=Qxe G G.rds p5 p3 p0 m
def Q16d (G:Gt)(p3 p0:V)(m:M):R:=Q16c G (.int .i64 0) p3 p0 m
def Q16e (G:Gt)(p0:V)(m:M):R:=Q16d G (.slice none 0 0) p0 m
def Qrd (G:Gt)(p0:V)(m:M):R:=Q16e G p0 m
theorem Q1kw (G:Gt)(a0:V)(m:M):ef G Tryz.f343 [a0] m = Qrd G a0 m:=Xb (r:=fun r m=>Qrd G (r 0) m) rfl rfl (tr (seqQ (f:=fun r m=>Q16e G (r 0) m) (tr (seqQ (f:=fun r m=>Q16d G (r 3) (r 0) m) (tr (tr (seqQ (f:=fun r m=>Q16b G (r 3) m)) (seqQ (f:=fun r m=>Q16c G (r 5) (r 3) (r 0) m) (tr (Xm (X1l (fun i r m=>Qxe G i (r 5) (r 3) (r 0) m) (fun _ _=>rfl) (fun i0=>fun r m=>by kernel_rfl))))))))))) m
def Q13o:En:=⟨Q12w,Tryz.f343,Tryz.func343,by kernel_rfl,arg1 Qrd,X1v Q1kw⟩
def Qav (G:Gt)(p0:V)(m:M):R:=bp (pur (bin .mul true true .int (.int .i64 2) p0) m) fun x0 m=>some (x0,m)
theorem Q1kx (G:Gt)(a0:V)(m:M):ef G Tryz.f344 [a0] m = Qav G a0 m:=Xb (r:=fun r m=>Qav G (r 0) m) rfl rfl (fun r m=>by kernel_rfl) m
def Qr0:En:=⟨Qaw,Tryz.f344,Tryz.func344,by kernel_rfl,arg1 Qav,X1v Q1kx⟩
def Q15n:En:=wE Q14y Tryz.f345 Tryz.func345 ⟨_,by go_invoke; rfl⟩
def Qp4:En:=wE Qoz Tryz.f346 Tryz.func346 ⟨_,by go_invoke; rfl⟩
def Qon (G:Gt)(p9:V)(m:M):R:=some (.tuple ⟨[p9,(.int .i64 0)]⟩,m)
def Qdr (G:Gt)(k0:J6)(p34 p33 p32 p10 p0 p9:V)(m:M):R:=bp (pur (bin .add true true .int p34 (.int .i64 1)) m) fun x0 m=>k0 x0 p33 p32 p10 p0 p9 m
def Qds (G:Gt)(k0:J6)(p53 p9 p11 p0 p10 p12 p34 p33 p32:V)(m:M):R:=brb p53 (bp (pur (Xa p0) m) fun x1 m=>bp (pur (X0 2 x1) m) fun x2 m=>bp (pur (X4 false 1 x2 m) m) fun x3 m=>bp (pur (X5 3 x3 p10) m) fun x4 m=>bp (pur (X0 1 x4) m) fun x5 m=>bp (pur (X4 false 1 x5 m) m) fun x6 m=>bp (pur (bin .eql true true .int x6 (.int .i32 0)) m) fun x7 m=>bp (pur (X5 1 p9 p11) m) fun x8 m=>bp (unt (X8 1 x8 x7 m)) fun _ m=>bp (conv (.int .i32) p12 m) fun x9 m=>bp (pur (X5 1 p9 p11) m) fun x10 m=>bp (pur (X4 false 1 x10 m) m) fun x11 m=>bp (G.tab Q2n [p0,p10,x9,x11] m) fun x12 m=>Qdr G k0 p34 p33 p32 x12 p0 p9 m) (Qdr G k0 p34 p33 p32 p10 p0 p9 m)
def Qml (G:Gt)(k0:J6)(p10 p0 p12 p9 p11 p34 p33 p32:V)(m:M):R:=bp (pur (bin .gtr true true .int p10 (.int .i32 1)) m) fun x13 m=>brb x13 (bp (pur (Xa p0) m) fun x14 m=>bp (pur (X0 2 x14) m) fun x15 m=>bp (pur (X4 false 1 x15 m) m) fun x16 m=>bp (pur (X5 3 x16 p10) m) fun x17 m=>bp (pur (X0 0 x17) m) fun x18 m=>bp (pur (X4 false 1 x18 m) m) fun x19 m=>bp (conv (.int .i64) x19 m) fun x20 m=>bp (pur (bin .eql false true .int x20 p12) m) fun x21 m=>Qds G k0 x21 p9 p11 p0 p10 p12 p34 p33 p32 m) (Qds G k0 (.bool false) p9 p11 p0 p10 p12 p34 p33 p32 m)
def Qmm (G:Gt)(k0:J6)(p34 p32 p10 p0 p9 p33:V)(m:M):R:=bp (pur (X5 1 p32 p34) m) fun x22 m=>bp (pur (X4 false 1 x22 m) m) fun x23 m=>Qml G k0 p10 p0 x23 p9 p34 p34 p33 p32 m
def Qoo (G:Gt)(k0:J6)(p35 p34 p32 p10 p0 p9 p33:V)(m:M):R:=brb p35 (Qmm G k0 p34 p32 p10 p0 p9 p33 m) (Qon G p9 m)
def Q1u (G:Gt):Nat→V→V→V→V→V→V→M→R
 | 0,_,_,_,_,_,_,_=>none
 | i + 1,p34,p33,p32,p10,p0,p9,m=>bp (pur (bin .lss false true .int p34 p33) m) fun x24 m=>Qoo G (Q1u G i) x24 p34 p32 p10 p0 p9 p33 m
def Qop (G:Gt)(p34 p33 p32 p10 p0 p9:V)(m:M):R:=Q1u G G.rds p34 p33 p32 p10 p0 p9 m
def Qoq (G:Gt)(p2 p10 p0 p9:V)(m:M):R:=bp (pur (lenK 1 p2 m) m) fun x25 m=>Qop G (.int .i64 0) x25 p2 p10 p0 p9 m
def Qor (G:Gt)(p1 p2 p0 p9:V)(m:M):R:=bp (conv (.int .i32) p1 m) fun x26 m=>Qoq G p2 x26 p0 p9 m
def Qos (G:Gt)(p2 p1 p0:V)(m:M):R:=bp (pur (lenK 1 p2 m) m) fun x27 m=>bp (X2w Q1eo [(.bool false)] 1 1 x27 x27 m) fun x28 m=>Qor G p1 p2 p0 x28 m
def Qot (G:Gt)(p1 p2 p0:V)(m:M):R:=bp (pur (bin .eql true true .int p1 (.int .i64 0)) m) fun x29 m=>brb x29 (some (.tuple ⟨[(.slice none 0 0),(.int .i64 5)]⟩,m)) (Qos G p2 p1 p0 m)
def Qou (G:Gt)(p0 p1 p2:V)(m:M):R:=bp (G.tab Qr7 [p0,p1,p2] m) fun x30 m=>bp (pur (un .not x30) m) fun x31 m=>brb x31 (some (.tuple ⟨[(.slice none 0 0),(.int .i64 1)]⟩,m)) (Qot G p1 p2 p0 m)
def Qov (G:Gt)(p0 p1 p2:V)(m:M):R:=bp (Xc Q7j [(.int .i64 0)] 1 1 [(0,p1)] m) fun x32 m=>bp (G.tab Q15 [p0,x32] m) fun x33 m=>bp (pur (bin .neq true true .int x33 (.int .i64 0)) m) fun x34 m=>brb x34 (some (.tuple ⟨[(.slice none 0 0),x33]⟩,m)) (Qou G p0 p1 p2 m)
def Q72 (G:Gt)(p0 p1 p2:V)(m:M):R:=Qov G p0 p1 p2 m
theorem Q149 (G:Gt)(a0 a1 a2:V)(m:M):ef G Tryz.f347 [a0,a1,a2] m = Q72 G a0 a1 a2 m:=Xb (r:=fun r m=>Q72 G (r 0) (r 1) (r 2) m) rfl rfl (tr (seqQ (f:=fun r m=>Qov G (r 0) (r 1) (r 2) m) (tr (seqQ (f:=fun r m=>Qou G (r 0) (r 1) (r 2) m) (tr (seqQ (f:=fun r m=>Qot G (r 1) (r 2) (r 0) m) (tr (seqQ (f:=fun r m=>Qos G (r 2) (r 1) (r 0) m) (tr (seqQ (f:=fun r m=>Qor G (r 1) (r 2) (r 0) (r 9) m) (tr (seqQ (f:=fun r m=>Qoq G (r 2) (r 10) (r 0) (r 9) m) (tr (tr (seqQ (f:=fun r m=>Qon G (r 9) m)) (seqQ (f:=fun r m=>Qop G (r 34) (r 33) (r 32) (r 10) (r 0) (r 9) m) (tr (Xm (X1l (fun i r m=>Q1u G i (r 34) (r 33) (r 32) (r 10) (r 0) (r 9) m) (fun _ _=>rfl) (fun i0=>tr (seqQ (f:=fun r m=>Qoo G (Q1u G i0) (r 35) (r 34) (r 32) (r 10) (r 0) (r 9) (r 33) m) (tr (seqQ (f:=fun r m=>Qmm G (Q1u G i0) (r 34) (r 32) (r 10) (r 0) (r 9) (r 33) m) (tr (tr (seqQ (f:=fun r m=>Qdr G (Q1u G i0) (r 34) (r 33) (r 32) (r 10) (r 0) (r 9) m)) (Xm (seqQ (f:=fun r m=>Qml G (Q1u G i0) (r 10) (r 0) (r 12) (r 9) (r 11) (r 34) (r 33) (r 32) m) (tr (seqQ (f:=fun r m=>Qds G (Q1u G i0) (r 53) (r 9) (r 11) (r 0) (r 10) (r 12) (r 34) (r 33) (r 32) m))))))))))))))))))))))))))))) m
def Qhx:En:=⟨Qhq,Tryz.f347,Tryz.func347,by kernel_rfl,arg3 Q72,X2n Q149⟩
def Qow (G:Gt)(p3 p9 p6:V)(m:M):R:=bp (pur (X4 true 5 p3 m) m) fun x0 m=>bp (unt (X8 5 p6 x0 m)) fun _ m=>ob (ob (X4 true 5 p6 m) fun v=>ob (some [p9]) fun l=>some (v :: l)) fun l=>some (X1p l,m)
def Qox (G:Gt)(p23 p9 p3 p6 p1:V)(m:M):R:=brb p23 (bp (pur (bin .neq true true .int p9 (.int .i64 0)) m) fun x1 m=>brb x1 (bp (pur (X18 Qa [(0,1),(1,1),(2,1),(3,1),(4,1)] []) m) fun x2 m=>bp (unt (X8 5 p3 x2 m)) fun _ m=>Qow G p3 p9 p6 m) (Qow G p3 p9 p6 m)) (bp (pur (X4 true 5 p3 m) m) fun x3 m=>bp (G.tab Qii [x3] m) fun x4 m=>bp (some (aNew Qqv Qqy m)) fun x5 m=>bp (unt (X8 13 x5 x4 m)) fun _ m=>bp (pur (bin .quo true true .int p1 (.int .i64 8)) m) fun x6 m=>bp (pur (Xr 13 1 x5 x6) m) fun x7 m=>bp (pur (X4 false 1 x7 m) m) fun x8 m=>bp (pur (bin .rem true true .int p1 (.int .i64 8)) m) fun x9 m=>bp (pur (bin .shr true true .int (.int .u8 128) x9) m) fun x10 m=>bp (pur (bin .xor false true .int x8 x10) m) fun x11 m=>bp (pur (Xr 13 1 x5 x6) m) fun x12 m=>bp (unt (X8 1 x12 x11 m)) fun _ m=>bp (pur (X4 true 13 x5 m) m) fun x13 m=>bp (G.tab Q15z [x13] m) fun x14 m=>bp (unt (X8 5 p6 x14 m)) fun _ m=>ob (ob (X4 true 5 p6 m) fun v=>ob (some [(.int .i64 0)]) fun l=>some (v :: l)) fun l=>some (X1p l,m))
def Qwe (G:Gt)(p9 p8 p2 p3 p6 p1:V)(m:M):R:=bp (pur (bin .neq true true .int p9 (.int .i64 0)) m) fun x15 m=>brb x15 (Qox G (.bool true) p9 p3 p6 p1 m) (bp (pur (bin .eql false true .bool p8 p2) m) fun x16 m=>Qox G x16 p9 p3 p6 p1 m)
def Qwf (G:Gt)(p3 p1 p2 p6:V)(m:M):R:=bp (pur (X4 true 5 p3 m) m) fun x17 m=>bp (G.tab Qua [x17,p1] m) fun x18 m=>bp (pur (X6 x18 0) m) fun x19 m=>bp (pur (X6 x18 1) m) fun x20 m=>Qwe G x20 x19 p2 p3 p6 p1 m
def Qfs (G:Gt)(p0 p1 p2:V)(m:M):R:=bp (some (aNew Q1 (Value.cells p0).toList m)) fun x21 m=>bp (some (aNew Q1 Qa m)) fun x22 m=>Qwf G x21 p1 p2 x22 m
theorem Q1dt (G:Gt)(a0 a1 a2:V)(m:M):ef G Tryz.f348 [a0,a1,a2] m = Qfs G a0 a1 a2 m:=Xb (r:=fun r m=>Qfs G (r 0) (r 1) (r 2) m) rfl rfl (tr (seqQ (f:=fun r m=>Qwf G (r 3) (r 1) (r 2) (r 6) m) (tr (seqQ (f:=fun r m=>Qwe G (r 9) (r 8) (r 2) (r 3) (r 6) (r 1) m) (tr (tr seqD (seqQ (f:=fun r m=>Qox G (r 23) (r 9) (r 3) (r 6) (r 1) m) (tr (X5g (seqQ (f:=fun r m=>Qow G (r 3) (r 9) (r 6) m)) (refQ)))))))))) m
def Qsm:En:=⟨Qru,Tryz.f348,Tryz.func348,by kernel_rfl,arg3 Qfs,X2n Q1dt⟩
def Q17g:En:=wE Q16k Tryz.f349 Tryz.func349 ⟨_,by go_invoke; rfl⟩
def Q1az:En:=wE Q1ac Tryz.f350 Tryz.func350 ⟨_,by go_invoke; rfl⟩
def Q11y:En:=wE Q114 Tryz.f352 Tryz.func352 ⟨_,by go_invoke; rfl⟩
def Q19a:En:=wE Q188 Tryz.f353 Tryz.func353 ⟨_,by go_invoke; rfl⟩
def Qak:En:=wE Qai Tryz.f354 Tryz.func354 ⟨_,by go_invoke; rfl⟩
def Qbk:En:=wE Qb1 Tryz.f356 Tryz.func356 ⟨_,by go_invoke; rfl⟩
def Q17e:En:=wE Q16l Tryz.f357 Tryz.func357 ⟨_,by go_invoke; rfl⟩
def Qmn (G:Gt)(p3:V)(m:M):R:=some (p3,m)
def Qdt (G:Gt):Nat→V→V→M→R
 | 0,_,_,_=>none
 | i + 1,p4,p3,m=>bp (pur (bin .lss true true .int p4 (.int .i64 32)) m) fun x0 m=>brb x0 (bp (pur (bin .mul true true .int (.int .u64 2) p3) m) fun x1 m=>bp (pur (bin .add true true .int p4 (.int .i64 1)) m) fun x2 m=>(Qdt G i) x2 x1 m) (Qmn G p3 m)
def Qmo (G:Gt)(p4 p3:V)(m:M):R:=Qdt G G.rds p4 p3 m
def Qmp (G:Gt)(p0 p3:V)(m:M):R:=Qmo G p0 p3 m
def Qmq (G:Gt)(p0:V)(m:M):R:=Qmp G p0 (.int .u64 1) m
def Q69 (G:Gt)(p0:V)(m:M):R:=Qmq G p0 m
theorem Q124 (G:Gt)(a0:V)(m:M):ef G Tryz.f361 [a0] m = Q69 G a0 m:=Xb (r:=fun r m=>Q69 G (r 0) m) rfl rfl (tr (seqQ (f:=fun r m=>Qmq G (r 0) m) (tr (seqQ (f:=fun r m=>Qmp G (r 0) (r 3) m) (tr (tr (seqQ (f:=fun r m=>Qmn G (r 3) m)) (seqQ (f:=fun r m=>Qmo G (r 4) (r 3) m) (tr (Xm (X1l (fun i r m=>Qdt G i (r 4) (r 3) m) (fun _ _=>rfl) (fun i0=>fun r m=>by kernel_rfl))))))))))) m
def Qgs:En:=⟨Qge,Tryz.f361,Tryz.func361,by kernel_rfl,arg1 Q69,X1v Q124⟩
end
end Go.Ab.Sh
