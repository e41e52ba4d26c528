/-
  Functions of the program as plain definitions. No conditions.
-/
import Derived.Test.YtodhdplpcelokaaGreatDoorAb5
import Derived.Test.YtodhdplpcelokaaGreatDoorZ
import Derived.KernelRfl
import Derived.Test.YtodhdplpcelokaaGreatDoorProg
set_option linter.all false
set_option maxRecDepth 100000
namespace Go.Ab.Sh
open Go Go.Ab Go.Proofs Go.Proofs.Tryz
noncomputable section
variable (G:Gt)(k0:J3)(a b c d e f g h j l n o p q s t u v w x y z:V)
def CX(G:Gt)(a:V):=H (conv .str a) λb=>K b
def Hf(G:Gt)(k0:J3)(a b c:V):=B (ja a (A 1)) λd=>k0 d b c
def GZ(G:Gt)(k0:J3):Nat→V→V→V→V→V→M→R
 |0,_,_,_,_,_,_=>none
 |i+1,b,c,d,e,f,m=>(F 1 c λk=>N (aM 1 k) λr=>E (ji b r) (F 1 c λD=>jb 15 D b λJ=>jd true 15 J λK=>U nL qW λa=>Y 15 a K (T 0 a λg=>X g λh=>T 1 a λj=>X j λl=>H (conv (.int .i64) l) λL=>T 4 a λn=>X n λo=>T 5 a λp=>X p λq=>T 6 a λs=>X s λt=>T 7 a λu=>X u λv=>T 8 a λw=>X w λx=>T 9 a λy=>X y λz=>F 11 a λP=>T 13 a λI=>X I λQ=>H (conv (.int .i64) Q) λZ=>T 14 a λS=>X S λW=>C G oZ [P] λxj=>jn (O false 1 g h (O false 1 j l (O false 1 n o (O false 1 p q (O false 1 s t (O false 1 u v (O false 1 w x (O false 1 y z (O false 1 I Q (O false 1 S W jo)))))))))) (H (X8 cS [(A 0)] 1 11 [(0,h),(1,L),(2,o),(3,q),(4,t),(5,v),(6,x),(7,z),(8,xj),(9,Z),(10,W)]) λxl=>F 10 a λxn=>C G Df [xn] λxo=>H (dn cS 1 8 xl xo) λxp=>F 12 a λxq=>C G Df [xq] λxs=>H (dn cS 1 8 xp xs) λxt=>F 2 a λxu=>F 3 a λxv=>H (jr xu xv) λxw=>C G Qi [xt,xw] λxx=>H (fP fJ 1 1 d xx) λxy=>B (ja b (A 1)) λxz=>(GZ G k0 i) xz c xy e f))) (Hf G k0 e f d)) m
def OK:=GZ G k0 G.bx a b c d e
def OJ:=OK G k0 (A 0) a b c d
def OI:=T 1 b λf=>X f λg=>N (aM 1 g) λj=>F 2 b λl=>T 0 b λh=>X h λe=>H (js e) λn=>C G oZ [l] λo=>jn (O false 1 f g (O false 1 h e jo)) (H (X8 cS [(A 0)] 1 2 [(0,j),(1,o)]) λp=>C G Qi [p,n] λq=>H (fP fJ 1 1 a q) λs=>OJ G k0 b s c d)
def OH:=F 9 a λe=>jb 3 e b λf=>jd true 3 f λg=>U su sq λd=>Y 3 d g (OI G k0 c d b a)
def Qt(G:Gt):Nat→V→V→V→M→R
 |0,_,_,_,_=>none
 |i+1,a,b,c,m=>(F 9 b λd=>N (aM 1 d) λe=>E (ji a e) (OH G (Qt G i) b a c) (CX G c)) m
def ON:=Qt G G.bx a b c
def OM:=ON G (A 0) a b
def OL:=OM G a (.slice none 0 0)
def GK:=U iH (Value.cells a).toList λb=>OL G b
def Qlh:En:=⟨_,_,func25,by kernel_rfl,_,cg (s:=GK) λG a m=>Xx (r:=v1 (GK G) 0) rfl rfl (ts (v1 (OL G) 1) (ts (v2 (OM G) 1 3) (tr (tr (aJ (f:=v1 (CX G) 3)) (aJ (f:=v3 (ON G) 4 1 3) (tr (Xo (bK (λi r m=>Qt G i (r 4) (r 1) (r 3) m) (λ_ _=>rfl) (λb=>tr (aJ (f:=v3 (OH G (Qt G b)) 1 4 3) (tr (tr (aJ (f:=v3 (Hf G (Qt G b)) 4 1 3)) (Xo (aJ (f:=v4 (OI G (Qt G b)) 3 5 4 1) (ts (v4 (OJ G (Qt G b)) 5 3 4 1) (ts (v5 (OK G (Qt G b)) 6 5 3 4 1) (tr (Xo (bK (λi r m=>GZ G (Qt G b) i (r 6) (r 5) (r 3) (r 4) (r 1) m) (λ_ _=>rfl) (λc=>λr m=>by kernel_rfl)))))))))))))))))))) m⟩
def Dh(G:Gt)(a:V):=K a
def HK(G:Gt):Nat→V→V→V→M→R
 |0,_,_,_,_=>none
 |i+1,a,b,c,m=>(F 10 b λh=>N (aM 1 h) λj=>E (ji a j) (F 10 b λl=>jb 3 l a λn=>F 1 n λo=>H (conv (.int .i64) o) λp=>H (X8 cS [(A 0)] 1 1 [(0,p)]) λq=>F 10 b λs=>jb 3 s a λt=>F 0 t λu=>H (js u) λv=>T 10 b λd=>X d λe=>jb 3 e a λw=>T 2 w λf=>X f λg=>C G Qi [q,v] λx=>jn (O false 1 d e (O false 1 f g jo)) (B (bin .add false true .str c x) λy=>C G CP [g] λz=>B (bin .add false true .str y z) λI=>B (ja a (A 1)) λQ=>(HK G i) Q b I)) (Dh G c)) m
def P8:=HK G G.bx a b c
def P7:=P8 G (A 0) a b
def P6:=P7 G a (D [])
def Hq:=U iH (Value.cells a).toList λb=>P6 G b
def Qoy:En:=⟨_,_,func26,by kernel_rfl,_,cg (s:=Hq) λG a m=>Xx (r:=v1 (Hq G) 0) rfl rfl (ts (v1 (P6 G) 1) (ts (v2 (P7 G) 1 3) (tr (tr (aJ (f:=v1 (Dh G) 3)) (aJ (f:=v3 (P8 G) 4 1 3) (tr (Xo (bK (λi r m=>HK G i (r 4) (r 1) (r 3) m) (λ_ _=>rfl) (λb=>λr m=>by kernel_rfl))))))))) m⟩
def Du(G:Gt)(a:V):=K a
def Ds(G:Gt)(k0:J3)(a b c:V):=B (ja a (A 1)) λd=>k0 d b c
def HI(G:Gt)(k0:J3):Nat→V→V→V→V→V→M→R
 |0,_,_,_,_,_,_=>none
 |i+1,b,c,o,p,q,m=>(F 4 c λu=>N (aM 1 u) λv=>E (ji b v) (F 4 c λw=>jb 6 w b λx=>jd true 6 x λy=>U sC sx λa=>Y 6 a y (T 0 a λd=>X d λe=>H (conv (.int .i64) e) λz=>T 1 a λf=>X f λg=>H (conv (.int .i64) g) λI=>F 4 a λQ=>T 5 a λs=>X s λt=>T 2 a λh=>X h λj=>T 3 a λl=>X l λn=>H (jr j n) λS=>C G oZ [Q] λW=>jn (O false 1 d e (O false 1 f g (O false 1 s t (O false 1 h j (O false 1 l n jo))))) (C G oZ [t] λk=>jn (O false 1 d e (O false 1 f g (O false 1 h j (O false 1 l n jo)))) (H (X8 cS [(A 0)] 1 4 [(0,z),(1,I),(2,W),(3,k)]) λr=>C G Qi [r,S] λD=>B (bin .add false true .str o D) λJ=>B (ja b (A 1)) λK=>(HI G k0 i) K c J p q)))) (Ds G k0 p q o)) m
def P5:=HI G k0 G.bx a b c d e
def Dt:=P5 G k0 (A 0) a b c d
def HJ(G:Gt)(k0:J3):Nat→V→V→V→V→V→M→R
 |0,_,_,_,_,_,_=>none
 |i+1,b,a,c,d,e,m=>(F 3 a λf=>N (aM 1 f) λg=>E (ji b g) (F 3 a λh=>jb 2 h b λj=>F 0 j λl=>H (conv (.int .i64) l) λn=>F 3 a λo=>jb 2 o b λp=>F 1 p λq=>H (X8 cS [(A 0)] 1 2 [(0,n),(1,q)]) λs=>C G Qi [s,(.slice none 0 0)] λt=>B (bin .add false true .str c t) λu=>B (ja b (A 1)) λv=>(HJ G k0 i) v a u d e) (Dt G k0 a c d e)) m
def P0:=HJ G k0 G.bx a b c d e
def QI:=P0 G k0 (A 0) a b c d
def QH:=F 1 b λg=>H (conv (.int .i64) g) λh=>F 2 b λj=>H (conv (.int .i64) j) λl=>F 3 b λn=>N (aM 1 n) λo=>F 4 b λp=>N (aM 1 p) λq=>H (X8 cS [(A 0)] 1 4 [(0,h),(1,l),(2,o),(3,q)]) λs=>F 0 b λt=>H (js t) λu=>T 5 b λe=>X e λf=>C G Qi [s,u] λv=>jn (O false 1 e f jo) (B (bin .add false true .str a v) λw=>C G CP [f] λx=>B (bin .add false true .str w x) λy=>QI G k0 b y c d)
def QG:=F 11 a λe=>jb 6 e b λf=>jd true 6 f λg=>U xN sD λd=>Y 6 d g (QH G k0 c d b a)
def Qn(G:Gt):Nat→V→V→V→M→R
 |0,_,_,_,_=>none
 |i+1,a,b,c,m=>(F 11 b λd=>N (aM 1 d) λe=>E (ji a e) (QG G (Qn G i) b a c) (Du G c)) m
def QL:=Qn G G.bx a b c
def QK:=QL G (A 0) a b
def QJ:=QK G a (D [])
def Hz:=U iH (Value.cells a).toList λb=>QJ G b
def Qpb:En:=⟨_,_,func27,by kernel_rfl,_,cg (s:=Hz) λG a m=>Xx (r:=v1 (Hz G) 0) rfl rfl (ts (v1 (QJ G) 1) (ts (v2 (QK G) 1 3) (tr (tr (aJ (f:=v1 (Du G) 3)) (aJ (f:=v3 (QL G) 4 1 3) (tr (Xo (bK (λi r m=>Qn G i (r 4) (r 1) (r 3) m) (λ_ _=>rfl) (λb=>tr (aJ (f:=v3 (QG G (Qn G b)) 1 4 3) (tr (tr (aJ (f:=v3 (Ds G (Qn G b)) 4 1 3)) (Xo (aJ (f:=v4 (QH G (Qn G b)) 3 5 4 1) (ts (v4 (QI G (Qn G b)) 5 3 4 1) (tr (tr (aJ (f:=v4 (Dt G (Qn G b)) 5 3 4 1) (ts (v5 (P5 G (Qn G b)) 7 5 3 4 1) (tr (Xo (bK (λi r m=>HI G (Qn G b) i (r 7) (r 5) (r 3) (r 4) (r 1) m) (λ_ _=>rfl) (λc=>λr m=>by kernel_rfl)))))) (aJ (f:=v5 (P0 G (Qn G b)) 6 5 3 4 1) (tr (Xo (bK (λi r m=>HJ G (Qn G b) i (r 6) (r 5) (r 3) (r 4) (r 1) m) (λ_ _=>rfl) (λc=>λr m=>by kernel_rfl)))))))))))))))))))))) m⟩
def Ui(G:Gt)(a:V):=B (Xc Q2 [(0,1),(1,1)] []) λb=>jl (Xe 2 a b) λ_=>λm=>ob (ob (X9 true 2 a m) λv=>ob (some [(A 0)]) λl=>some (v::l)) λl=>some (bZ l,m)
def Ke(G:Gt)(k0:J5)(a b c d e:V):=B (ja a (A 1)) λf=>k0 f b c d e
def Eh(k0:J5)(a b c d e f:V):=L a (jd true 2 b λg=>jl (Xe 2 c g) λ_=>λm=>ob (ob (X9 true 2 c m) λv=>ob (some [(A 70)]) λl=>some (v::l)) λl=>some (bZ l,m)) (F 1 b λh=>B (ja h (A 1)) λj=>jf 1 b j (Ke G k0 d e b c f))
def Qym(k0:J5)(a b c d e f g:V):=L a (F 0 b λh=>B (ja h (A 1)) λj=>B (Xc Q2 [(0,1),(1,1)] [(0,j),(1,(A 1))]) λl=>Y 2 b l (Ke G k0 c d b e f)) (B (Xi f g) λn=>E (bin .lss true true .int n (.int .u8 32)) (Eh G k0 jh b e c d f) (B (Xi f g) λo=>B (bin .gtr true true .int o (.int .u8 126)) λp=>Eh G k0 p b e c d f))
def Qyn(k0:J5)(a b c d e f g:V):=L a (jd true 2 b λh=>jl (Xe 2 c h) λ_=>λm=>ob (ob (X9 true 2 c m) λv=>ob (some [(A 3)]) λl=>some (v::l)) λl=>some (bZ l,m)) (B (Xi d e) λj=>B (jk j (.int .u8 10)) λn=>Qym G k0 n b f g c d e)
def Qzm(k0:J5)(a b c d e f:V):=F 0 a λg=>B (bin .gtr true true .int g (A 4096)) λh=>Qyn G k0 h a b c d e f
def Qzn(k0:J5)(a b c d e:V):=Qzm G k0 b c d a a e
def Uj(k0:J5)(a b c d e f:V):=L a (Qzn G k0 b c d e f) (Ui G d)
def xJ(G:Gt):Nat→V→V→V→V→V→M→R
 |0,_,_,_,_,_,_=>none
 |i+1,a,b,c,d,e,m=>(B (ji a b) λf=>Uj G (xJ G i) f a c d e b) m
def Qzo:=xJ G G.bx a b c d e
def Qzp:=N (aM 0 a) λd=>Qzo G (A 0) d b c a
def Uk:=B (Xc Q2 [(0,1),(1,1)] [(0,(A 1)),(1,(A 1))]) λd=>U Q7 Q2 λc=>Y 2 c d (Qzp G a c b)
def Ul:=N (aM 0 a) λc=>E (bin .gtr true true .int c (A 65536)) (B (Xc Q2 [(0,1),(1,1)] []) λd=>jl (Xe 2 b d) λ_=>λm=>ob (ob (X9 true 2 b m) λv=>ob (some [(A 3)]) λl=>some (v::l)) λl=>some (bZ l,m)) (Uk G a b)
def Ej:=U Q7 Q2 λb=>Ul G a b
def ZG:En:=⟨_,_,func28,by kernel_rfl,_,cg (s:=Ej) λG a m=>Xx (r:=v1 (Ej G) 0) rfl rfl (ts (v2 (Ul G) 0 2) (ts (v2 (Uk G) 0 2) (ts (v3 (Qzp G) 0 4 2) (tr (tr (aJ (f:=v1 (Ui G) 2)) (aJ (f:=v5 (Qzo G) 13 12 4 2 0) (tr (Xo (bK (λi r m=>xJ G i (r 13) (r 12) (r 4) (r 2) (r 0) m) (λ_ _=>rfl) (λb=>λr m=>by kernel_rfl)))))))))) m⟩
end
end Go.Ab.Sh

set_option maxRecDepth 100000
namespace Go.Ab.Sh
open Go Go.Ab Go.Proofs Go.Proofs.Tryz
noncomputable section
variable (G:Gt)(k0:J3)(a b c d e f g h j l n o p q s t u v w x y z:V)
def D7:=C G Rv [a,b,(A 0),(A (-1))] λc=>K c
def Qxm:En:=⟨_,_,func29,by kernel_rfl,_,cT (s:=D7) λG a b m=>Xk (r:=v2 (D7 G) 0 1) rfl rfl m⟩
def Tl:=L a (B (Xi c (A 0)) λf=>C G O8 [b,f] λg=>K g) (C G HA [c] λe=>jg e 0 λh=>jg e 1 λj=>U xE xF λd=>Y 256 d h (L j (C G Hs [b,d] λl=>K l) (C G Qo0 [b,c] λn=>K n)))
def Qt4:=N (aM 0 a) λc=>E (jk c (A 1)) (B (Xi a (A 0)) λd=>B (bin .lss true true .int d (.int .u8 128)) λe=>Tl G e b a) (Tl G jj b a)
def Tm:=L a (K b) (Qt4 G c b)
def Qt5:=E (P a (D [])) (Tm G jh a b) (B (P b (D [])) λc=>Tm G c a b)
def Jb:=Qt5 G a b
def Qvd:En:=⟨_,_,func30,by kernel_rfl,_,cT (s:=Jb) λG a b m=>Xk (r:=v2 (Jb G) 0 1) rfl rfl m⟩
def JK:=C G Ob [a,b] λc=>jg c 0 λd=>jg c 1 λe=>jg c 2 λf=>K (.tuple ⟨[d,e,f]⟩)
def Qzg:En:=⟨_,_,func31,by kernel_rfl,_,cT (s:=JK) λG a b m=>Xk (r:=v2 (JK G) 0 1) rfl rfl m⟩
def Iw:=C G xr [a] λc=>E (un .not c) (jc 0 a λd=>jc 0 a λe=>N (aM 1 e) λf=>B (bin .sub true true .int f (A 1)) λg=>jb 3 d g λh=>jd true 3 h λj=>U Kj xM λb=>Y 3 b j (T 1 b λl=>F 0 l λn=>T 1 b λo=>F 1 o λp=>F 0 b λq=>N (aM 0 q) λs=>B (bin .add false true .int p s) λt=>B (Xc Q2 [(0,1),(1,1)] [(0,n),(1,t)]) λu=>C G tX [a,u,(A 130)] λS=>K (D []))) (jc 1 a λv=>B (ja v (A 1)) λw=>Z 1 a w (jc 0 a λx=>jc 1 a λy=>B (bin .sub true true .int y (A 1)) λz=>jb 3 x z λI=>F 0 I λQ=>K Q))
def Qtz:En:=⟨_,_,func32,by kernel_rfl,_,cg (s:=Iw) λG a m=>Xk (r:=v1 (Iw G) 0) rfl rfl m⟩
def SE(G:Gt)(a:V):=K a
def Qrq:=C G Um [a] λc=>E (un .not c) (C G Qd [b,(A 130)] λd=>SE G a) (SE G a)
def Qrr:=C G Qr [a] λb=>Qrq G b a
def It:=Qrr G a
def Qtv:En:=⟨_,_,func33,by kernel_rfl,_,cg (s:=It) λG a m=>Xk (r:=v1 (It G) 0) rfl rfl m⟩
def H5(G:Gt)(a b:V):=jc 14 a λc=>jl (vE .str c b jh) λ_=>jq
def Qp0:=jc 15 a λc=>L c (Z 15 a jh (H5 G a b)) (jc 14 a λd=>N (uu .str jj false d b) λe=>Z 15 a e (H5 G a b))
def Dn:=C G xH [a,(D [32])] λc=>Qp0 G b c
def Qrg:En:=⟨_,_,func34,by kernel_rfl,_,cT (s:=(λG a b=>Dn G b a)) λG a b m=>Xk (r:=v2 (Dn G) 1 0) rfl rfl m⟩
def DF:=C G zW [a,b] λe=>C G xH [b,(D [32])] λd=>Z 12 a c (Z 13 a d (jq))
def Qts:En:=⟨_,_,func35,by kernel_rfl,_,mU (s:=(λG a b c=>DF G a c b)) λG a b c m=>Xk (r:=v3 (DF G) 0 2 1) rfl rfl m⟩
def Qqc:=H (js b) λc=>jp G Qg [a,c]
def Qq4:=jc 3 a λe=>E (jk e (A 0)) (C G Qd [b,(A 10)] λf=>Qqc G c d) (Qqc G c d)
def R6:=C G Aq [b,jj] λe=>Z 3 a e (Qq4 G a b c d)
def DE:=jc 0 c λd=>jc 0 c λe=>N (aM 1 e) λf=>B (bin .rem true true .int (A 1) f) λg=>jb 3 d g λh=>F 0 h λj=>H (jr b j) λl=>jp G Qg [a,l]
def Qp5:=E (jk a (A 0)) (C G Q4 [c,(A 0),(A 16777216)] λf=>Z 8 b f (DE G d e c)) (E (jk a (A 1)) (C G Q4 [c,(A 1),(A 65535)] λg=>Z 9 b g (DE G d e c)) (Z 10 b jh (DE G d e c)))
def Qp4:=L a (H (ju (D mC) (D mD) (D mF)) λg=>C G nK [b,g] λh=>Qp5 G h c b d e) (E (P f (D NC)) (Z 4 c jh (H (js e) λj=>jp G Qg [d,j])) (jp G Qd [b,(A 130)]))
def Qqb:=L a (H (X8 fJ [(.int .u8 0)] 1 2 [(0,(.int .u8 1)),(1,(.int .u8 2))]) λg=>H (jr (D pS) (D pT)) λh=>C G nK [c,h] λj=>jt 1 g j λl=>Z 7 b l (H (js e) λn=>jp G Qg [d,n])) (B (P f (D gZ)) λo=>Qp4 G o c b d e f)
def Qqa:=L a (C G Qo [b] λg=>H (jr (D cQ) (D ed)) λh=>C G nK [b,h] λj=>E (jk j (A 0)) (Z 5 c g (H (jr e (D cQ)) λl=>jp G Qg [d,l])) (Z 6 c g (H (jr e (D ed)) λn=>jp G Qg [d,n]))) (B (P f (D wS)) λo=>Qqb G o c b d e f)
def Qq9:=L a (C G oY [c] λg=>Z 2 b g (R6 G b c d e)) (B (P f (D jC)) λh=>Qqa G h c b d e f)
def Qq8:=L a (C G Qo [c] λg=>Z 1 b g (H (js e) λh=>jp G Qg [d,h])) (B (P f (D NB)) λj=>Qq9 G j b c d e f)
def Qq7:=B (P a (D jB)) λf=>Qq8 G f b c d e a
def Qq6:=Qq7 G a b c d a
def Qq5:=C G Qr [a] λd=>Qq6 G d b a c
def HX:=je 0 a λc=>F 3 c λd=>je 0 a λe=>F 3 e λf=>N (aM 1 f) λg=>B (bin .sub true true .int g (A 1)) λh=>jb 11 d h λj=>Qq5 G b j a
def Qsj:En:=⟨_,_,func36,by kernel_rfl,_,cT (s:=HX) λG a b m=>Xk (r:=v2 (HX G) 0 1) rfl rfl m⟩
end
end Go.Ab.Sh

set_option maxRecDepth 100000
namespace Go.Ab.Sh
open Go Go.Ab Go.Proofs Go.Proofs.Tryz
noncomputable section
variable (G:Gt)(k0:J3)(a b c d e f g h j l n o p q s t u v w x y z:V)
def Jx(G:Gt)(a b:V):=jc 6 a λc=>jd true 7 b λd=>jm AP sr 7 56 c d λe=>Z 6 a e (jq)
def Jy:=C G Qp [a,(D lX)] λd=>L d (C G Q4 [a,(A 0),(A 16777216)] λe=>jf 6 b e (Jx G c b)) (Jx G c b)
def Jz:=C G Qp [a,(D se)] λd=>L d (C G Q4 [a,(A 1),(A 255)] λe=>jf 5 b e (Jy G a b c)) (Jy G a b c)
def Tq:=C G Qp [a,(D Gd)] λd=>jf 4 b d (F 4 b λe=>E (un .not e) (C G I4 [a] λf=>jf 3 b f (Jz G a b c)) (Jz G a b c))
def Qtm:=C G Aq [a,jj] λe=>C G DT [a,b,e] λf=>T 1 c λg=>Y 2 g f (Tq G a c d)
def Qtl:=C G oY [a] λd=>Qtm G a d b c
def Jr(G:Gt)(a b e:V):=je 7 a λc=>X c λd=>jc 7 a λf=>jb 2 f b λg=>F 1 g λh=>jd true 5 e λj=>jm ud mI 5 40 h j λl=>jn (O false 1 c d jo) (jb 2 d b λn=>jf 1 n l (jq))
def Qs7:=E (bin .lss true true .int a (A 0)) (jc 7 b λe=>N (aM 1 e) λf=>jc 7 b λg=>X c λh=>B (Xc vu [(0,1),(1,1)] [(0,h)]) λj=>jm vv vu 2 40 g j λl=>Z 7 b l (Jr G b f d)) (Jr G b a d)
def Qs6:=jc 7 a λd=>C G NL [d,(.func (.func DJ) ⟨[]⟩ ⟨[b]⟩)] λe=>Qs7 G e a b c
def Qs5:=C G PW [a] λe=>U ud mI λd=>Y 5 d e (Qs6 G b c d)
def Js(G:Gt)(a b e:V):=je 8 a λc=>X c λd=>jc 8 a λf=>jb 2 f b λg=>F 1 g λh=>jd true 2 e λj=>jm AO ss 2 32 h j λl=>jn (O false 1 c d jo) (jb 2 d b λn=>jf 1 n l (jq))
def Qsb:=E (bin .lss true true .int a (A 0)) (jc 8 b λe=>N (aM 1 e) λf=>jc 8 b λg=>X c λh=>B (Xc tZ [(0,1),(1,1)] [(0,h)]) λj=>jm vt tZ 2 40 g j λl=>Z 8 b l (Js G b f d)) (Js G b a d)
def Qsa:=jc 8 a λd=>C G NK [d,(.func (.func DK) ⟨[]⟩ ⟨[b]⟩)] λe=>Qsb G e a b c
def Qs9:=H (jr (D dq) (D dP)) λe=>C G nK [a,e] λf=>B (jk f (A 0)) λg=>C G HR [a] λh=>B (Xc ss [(0,1),(1,1)] [(0,g),(1,h)]) λj=>U AO ss λd=>Y 2 d j (Qsa G b c d)
def Qs8:=L a (C G Qo [b] λg=>U Qc [(D [])] λf=>Y 1 f g (Qs9 G b c f)) (E (P d (D wS)) (H (jr (D zz) (D tP)) λh=>C G nK [b,h] λj=>B (jk j (A 1)) λl=>B (Xc vx [(0,1),(1,1),(2,1)] [(0,l)]) λn=>U Kf vx λe=>Y 3 e n (C G Iu [b,(D jC)] λu=>C G Qo [b] λo=>jf 1 e o (C G Iu [b,(D zA)] λv=>C G oY [b] λp=>jf 2 e p (jc 5 c λq=>jd true 3 e λs=>jm Kf vx 3 32 q s λt=>Z 5 c t (jq))))) (jp G Qd [b,(A 130)]))
def Qs4:=L a (C G Qo [b] λf=>U Qc [(D [])] λe=>Y 1 e f (Qs5 G b c e)) (B (P d (D wR)) λg=>Qs8 G g b c d)
def Qtn:=L a (C G Qo [b] λf=>H (jr (D jC) f) λg=>C G vo [c,(.func (.func Ij) ⟨[c]⟩ ⟨[]⟩),g] λo=>jc 4 d λh=>B (Xc vy [(0,1),(1,1)] [(0,f)]) λj=>jm Kh vy 2 40 h j λl=>Z 4 d l (jq)) (B (P e (D wQ)) λn=>Qs4 G n b d e)
def Qtk:=L a (C G DW [b] λg=>B (Xc sr [(0,1),(1,2),(3,1),(4,1),(5,1),(6,1)] [(0,g),(4,(A 1))]) λh=>U AP sr λf=>Y 7 f h (Qtl G b f c)) (B (P d (D jC)) λj=>Qtn G j b e c d)
def Qtj:=B (P a (D NA)) λe=>Qtk G e b c a d
def Qti:=C G Qr [a] λd=>Qtj G d a b c
def Jn:=je 0 a λc=>Qti G b c a
def Qwj:En:=⟨_,_,func37,by kernel_rfl,_,cT (s:=Jn) λG a b m=>Xk (r:=v2 (Jn G) 0 1) rfl rfl m⟩
def To(G:Gt)(a:V):=B (wy a (A 0)) λb=>K b
def Qt6:=E (bin .lss true true .int a (A 0)) (C G Qd [b,(A 130)] λc=>To G a) (To G a)
def Qt7:=C G Qr [b] λc=>C G N0 [a,c] λd=>Qt6 G d b
def DV:=Qt7 G a b
def Qvc:En:=⟨_,_,func38,by kernel_rfl,_,cT (s:=(λG a b=>DV G b a)) λG a b m=>Xk (r:=v2 (DV G) 1 0) rfl rfl m⟩
def H2:=Z 17 a b (je 9 c λj=>X j λg=>jc 9 c λl=>jb 3 l b λn=>F 1 n λo=>B (Xc qW [(0,1),(1,1),(2,1),(3,1),(4,1),(5,1),(6,1),(7,1),(8,1),(9,1),(10,1),(11,1),(12,1),(13,1),(14,1)] [(0,d),(1,e),(4,(A (-1))),(5,(A (-1))),(6,(A (-1))),(7,(A (-1))),(8,(A (-1))),(9,(A (-1)))]) λp=>jm nL qW 15 168 o p λq=>jn (O false 1 j g jo) (jb 3 g b λs=>jf 1 s q (X f λh=>H (conv (.int .u32) d) λt=>C G AM [t] λu=>jn (O false 1 f h jo) (H (ju (D dH) h u) λv=>jp G vo [a,(.func (.func DR) ⟨[a]⟩ ⟨[]⟩),v]))))
def Qou:=E (bin .lss true true .int a (A 0)) (jc 9 b λg=>N (aM 1 g) λh=>jc 9 b λj=>X c λl=>B (Xc sq [(0,1),(1,1),(2,1)] [(0,l)]) λn=>jm su sq 3 48 j n λo=>Z 9 b o (H2 G d h b e f c)) (H2 G d a b e f c)
def Qot:=jc 9 a λf=>C G NP [f,(.func (.func C6) ⟨[]⟩ ⟨[b]⟩)] λg=>Qou G g a b c d e
def Qos:=je 0 a λe=>Qot G e b a c d
def Dk:=U Qc (Value.cells a).toList λe=>Qos G b e c d
def Qrb:En:=⟨_,_,func39,by kernel_rfl,_,E9 (s:=(λG a b c d=>Dk G b a d c)) λG a b c d m=>Xk (r:=v4 (Dk G) 1 0 3 2) rfl rfl m⟩
def Ih(G:Gt)(a:V):=K a
def Ii:=L a (C G Qd [b,(A 131)] λd=>Ih G c) (Ih G c)
def Qp6:=E (un .not a) (Ii G jh d b) (B (ji b c) λe=>Ii G e d b)
def Qp7:=C G JS [a,b] λe=>jg e 0 λf=>jg e 1 λg=>Qp6 G g f c d
def Qp8:=C G TY [a] λe=>E (un .not e) (C G Qd [b,(A 130)] λf=>K (A 0)) (Qp7 G a c d b)
def Qp9:=C G Qr [a] λd=>Qp8 G d a b c
def Dp:=Qp9 G a b c
def Qrf:En:=⟨_,_,func40,by kernel_rfl,_,mU (s:=(λG a b c=>Dp G a c b)) λG a b c m=>Xk (r:=v3 (Dp G) 0 2 1) rfl rfl m⟩
def HG:=je 0 a λc=>H (jr (D gZ) (D dZ)) λf=>C G nK [b,f] λg=>E (jk g (A 0)) (C G DW [b] λd=>H (ju (D lW) (D gZ) d) λh=>C G vo [a,(.func (.func Ik) ⟨[a]⟩ ⟨[]⟩),h] λv=>jc 10 c λj=>B (Xc AQ [(0,1),(1,1),(2,1)] [(0,d)]) λl=>jm Ut AQ 3 48 j l λn=>Z 10 c n (jq)) (C G Q4 [b,(A 1),(A 4294967295)] λo=>C G DW [b] λe=>H (ju (D lW) (D dZ) e) λp=>C G vo [a,(.func (.func I2) ⟨[a]⟩ ⟨[]⟩),p] λw=>jc 11 c λq=>H (conv (.int .u32) o) λs=>B (Xc sD [(0,1),(1,1),(2,1),(3,1),(4,1),(5,1)] [(0,e),(1,s)]) λt=>jm xN sD 6 96 q t λu=>Z 11 c u (jq))
def Qrd:En:=⟨_,_,func41,by kernel_rfl,_,cT (s:=HG) λG a b m=>Xk (r:=v2 (HG G) 0 1) rfl rfl m⟩
def DS:=C G QS [a] λc=>jp G tX [a,c,b]
def Qvb:En:=⟨_,_,func42,by kernel_rfl,_,cT (s:=DS) λG a b m=>Xk (r:=v2 (DS G) 0 1) rfl rfl m⟩
end
end Go.Ab.Sh

set_option maxRecDepth 100000
namespace Go.Ab.Sh
open Go Go.Ab Go.Proofs Go.Proofs.Tryz
noncomputable section
variable (G:Gt)(k0:J3)(a b c d e f g h j l n o p q s t u v w x y z:V)
def RE(G:Gt)(a:V):=B (Xc Q2 [(0,1),(1,1)] []) λb=>jl (Xe 2 a b) λ_=>λm=>ob (ob (X9 true 2 a m) λv=>ob (some [(A 0)]) λl=>some (v::l)) λl=>some (bZ l,m)
def IQ(G:Gt)(k0:J4)(a b c d:V):=B (ja a (A 1)) λe=>k0 e b c d
def DB(k0:J4)(a b c d e:V):=L a (C G D0 [b,c] λf=>jl (Xe 2 d f) λ_=>λm=>ob (ob (X9 true 2 d m) λv=>ob (some [(A 70)]) λl=>some (v::l)) λl=>some (bZ l,m)) (IQ G k0 c b e d)
def Qpp(k0:J4)(a b c d e:V):=L a (B (ja b (A 1)) λf=>IQ G k0 c d f e) (B (Xi d c) λg=>E (bin .lss true true .int g (.int .u8 32)) (DB G k0 jh d c e b) (B (Xi d c) λh=>B (bin .gtr true true .int h (.int .u8 126)) λj=>DB G k0 j d c e b))
def Qpo(k0:J4)(a b c d:V):=B (Xi a b) λe=>B (jk e (.int .u8 10)) λf=>Qpp G k0 f c b a d
def Qpn(k0:J4)(a b c d:V):=E (bin .gtr true true .int a (A 4096)) (C G D0 [b,c] λe=>jl (Xe 2 d e) λ_=>λm=>ob (ob (X9 true 2 d m) λv=>ob (some [(A 3)]) λl=>some (v::l)) λl=>some (bZ l,m)) (Qpo G k0 b c a d)
def xk(G:Gt):Nat→V→V→V→V→M→R
 |0,_,_,_,_,_=>none
 |i+1,a,b,d,c,m=>(N (aM 0 b) λe=>E (ji a e) (Qpn G (xk G i) d b a c) (RE G c)) m
def Qqd:=xk G G.bx a b c d
def Qqe:=Qqd G (A 0) a b c
def Qqf:=Qqe G a (A 1) b
def RF:=N (aM 0 a) λc=>E (bin .gtr true true .int c (A 65536)) (B (Xc Q2 [(0,1),(1,1)] []) λd=>jl (Xe 2 b d) λ_=>λm=>ob (ob (X9 true 2 b m) λv=>ob (some [(A 3)]) λl=>some (v::l)) λl=>some (bZ l,m)) (Qqf G a b)
def Dv:=U Q7 Q2 λb=>RF G a b
def Qsn:En:=⟨_,_,func46,by kernel_rfl,_,cg (s:=Dv) λG a m=>Xx (r:=v1 (Dv G) 0) rfl rfl (ts (v2 (RF G) 0 2) (ts (v2 (Qqf G) 0 2) (ts (v3 (Qqe G) 0 4 2) (tr (tr (aJ (f:=v1 (RE G) 2)) (aJ (f:=v4 (Qqd G) 5 0 4 2) (tr (Xo (bK (λi r m=>xk G i (r 5) (r 0) (r 4) (r 2) m) (λ_ _=>rfl) (λb=>λr m=>by kernel_rfl)))))))))) m⟩
def xm(G:Gt)(b a:V):=jd true 2 b λc=>jl (Xe 2 a c) λ_=>λm=>ob (ob (X9 true 2 a m) λv=>ob (some []) λl=>some (v::l)) λl=>some (bZ l,m)
def DO(G:Gt)(k0:J6)(a b c d e f:V):=B (ja a (A 1)) λg=>k0 g b c d e f
def H6(k0:J6)(a b c d e f:V):=F 1 a λg=>B (gH b (some c) (some d)) λh=>B (ja c (A 1)) λj=>B (Xc Q2 [(0,1),(1,1)] [(0,e),(1,j)]) λl=>B (Xc xD [(0,1),(1,2)] [(0,h),(1,l)]) λn=>jm D5 xD 3 32 g n λo=>jf 1 a o (DO G k0 d b (A (-1)) a e f)
def Qpr(k0:J6)(a b c d e f g:V):=L a (F 1 b λh=>N (aM 1 h) λj=>E (jk j (A 0)) (jf 0 b c (H6 G k0 b d c e f g)) (H6 G k0 b d c e f g)) (DO G k0 e d c b f g)
def Qpq(k0:J6)(a b c d e f:V):=B (bin .geq true true .int a (A 0)) λg=>Qpr G k0 g b a c d e f
def QX(k0:J6)(a b c d e f:V):=DO G k0 a b c d e f
def DC(k0:J6)(a b c d e f g:V):=L a (E (bin .lss true true .int b (A 0)) (QX G k0 c d c e f g) (QX G k0 c d b e f g)) (Qpq G k0 b e d c f g)
def Qps(k0:J6)(a b c d e f:V):=N (aM 0 b) λg=>E (ji a g) (B (Xi b a) λh=>B (bin .neq true true .int h (.int .u8 32)) λj=>DC G k0 j c a b d e f) (DC G k0 jj c a b d e f)
def tW(G:Gt):Nat→V→V→V→V→V→V→M→R
 |0,_,_,_,_,_,_,_=>none
 |i+1,a,b,e,c,f,d,m=>(N (aM 0 b) λg=>E (bin .leq false true .int a g) (Qps G (tW G i) a b e c f d) (xm G c d)) m
def RJ:=tW G G.bx a b c d e f
def RI:=RJ G (A 0) a b c d e
def RH:=RI G a (A (-1)) b c d
def RG:=U ub ua λd=>RH G a d b c
def Dw:=U ub ua λc=>RG G a b c
def Qse:En:=⟨_,_,func47,by kernel_rfl,_,cT (s:=Dw) λG a b m=>Xx (r:=v2 (Dw G) 0 1) rfl rfl (ts (v3 (RG G) 0 1 4) (ts (v4 (RH G) 0 5 1 4) (ts (v5 (RI G) 0 6 5 1 4) (tr (tr (aJ (f:=v2 (xm G) 5 4)) (aJ (f:=v6 (RJ G) 7 0 6 5 1 4) (tr (Xo (bK (λi r m=>tW G i (r 7) (r 0) (r 6) (r 5) (r 1) (r 4) m) (λ_ _=>rfl) (λc=>λr m=>by kernel_rfl)))))))))) m⟩
def Pk(G:Gt)(a:V):=K a
def Pm:=L a (C G Q3 [b,(A 130)] λd=>Pk G c) (Pk G c)
def Qlo:=jc 4 a λc=>E (jk c (A 0)) (C G QV [b] λd=>B (un .not d) λe=>Pm G e a b) (Pm G jj a b)
def Qlp:=C G Qf [a] λb=>Qlo G a b
def G5:=Qlp G a
def Qnp:En:=⟨_,_,func48,by kernel_rfl,_,cg (s:=G5) λG a m=>Xk (r:=v1 (G5 G) 0) rfl rfl m⟩
def C2(G:Gt)(a b:V):=jc 15 a λc=>jm Qc [(D [])] 1 16 c b λd=>Z 15 a d (jq)
def OX(G:Gt)(k0:J3)(a b c:V):=B (ja a (A 1)) λd=>k0 d b c
def Qk1:=jc 15 a λd=>jt 1 d b λe=>E (bin .eql false true .str e c) (Z 16 a jh (OX G k0 b a c)) (OX G k0 b a c)
def zS(G:Gt):Nat→V→V→V→M→R
 |0,_,_,_,_=>none
 |i+1,b,a,c,m=>(jc 15 a λd=>N (aM 1 d) λe=>E (ji b e) (Qk1 G (zS G i) a b c) (C2 G a c)) m
def OY:=zS G G.bx a b c
def CO:=OY G (A 0) a b
def Qmn:En:=⟨_,_,func49,by kernel_rfl,_,cT (s:=CO) λG a b m=>Xx (r:=v2 (CO G) 0 1) rfl rfl (tr (tr (aJ (f:=v2 (C2 G) 0 1)) (aJ (f:=v3 (OY G) 4 0 1) (tr (Xo (bK (λi r m=>zS G i (r 4) (r 0) (r 1) m) (λ_ _=>rfl) (λc=>λr m=>by kernel_rfl))))))) m⟩
def CI:=C G tT [a,b] λf=>Z 12 a c (jc 13 a λd=>B (ja d (A 1)) λe=>Z 13 a e (jq))
def Qll:En:=⟨_,_,func50,by kernel_rfl,_,mU (s:=(λG a b c=>CI G a c b)) λG a b c m=>Xk (r:=v3 (CI G) 0 2 1) rfl rfl m⟩
end
end Go.Ab.Sh

set_option maxRecDepth 100000
namespace Go.Ab.Sh
open Go Go.Ab Go.Proofs Go.Proofs.Tryz
noncomputable section
variable (G:Gt)(k0:J3)(a b c d e f g h j l n o p q s t u v w x y z:V)
def C8(G:Gt)(a b:V):=je 0 a λc=>F 6 c λd=>jd true 7 b λe=>jm AP sr 7 56 d e λf=>je 0 a λg=>jf 6 g f (jq)
def C9:=C G Q6 [a,(D lX)] λd=>L d (C G Q1 [a,(A 0),(A 16777216)] λe=>jf 6 b e (C8 G c b)) (C8 G c b)
def Da:=C G Q6 [a,(D se)] λd=>L d (C G Q1 [a,(A 1),(A 255)] λe=>jf 5 b e (C9 G a b c)) (C9 G a b c)
def Pv:=F 4 a λd=>E (un .not d) (C G G6 [b] λe=>jf 3 a e (Da G b a c)) (Da G b a c)
def HD:=C G Q6 [a,(D Gd)] λd=>jf 4 b d (Pv G b a c)
def PA:=C G C3 [a,jj] λd=>T 1 b λe=>Y 2 e d (HD G a b c)
def Ht(G:Gt)(a b c:V):=je 0 a λd=>F 8 d λe=>jd true 2 c λf=>H (X8 AO ss 2 1 [(0,f)]) λg=>B (Xc tZ [(0,1),(1,1)] [(0,b),(1,g)]) λh=>jm vt tZ 2 40 e h λj=>je 0 a λl=>jf 8 l j (jq)
def wY(G:Gt):Nat→V→V→V→V→M→R
 |0,_,_,_,_,_=>none
 |i+1,b,a,c,d,m=>(je 0 a λg=>F 8 g λh=>N (aM 1 h) λj=>E (ji b j) (je 0 a λl=>F 8 l λn=>jb 2 n b λo=>F 0 o λp=>E (bin .eql false true .str p c) (je 0 a λq=>T 8 q λe=>X e λf=>je 0 a λs=>F 8 s λt=>jb 2 t b λu=>F 1 u λv=>jd true 2 d λw=>jm AO ss 2 32 v w λx=>jn (O false 1 e f jo) (jb 2 f b λy=>jf 1 y x (jq))) (B (ja b (A 1)) λz=>(wY G i) z a c d)) (Ht G a c d)) m
def Qlq:=wY G G.bx a b c d
def Hu:=Qlq G (A 0) a b c
def Pb:=C G GQ [a] λe=>jf 1 b e (Hu G c d b)
def Pa:=C G Q5 [a,(D dq),(D dP),(D dP)] λe=>B (P e (D dq)) λf=>B (Xc ss [(0,1),(1,1)] [(0,f)]) λg=>U AO ss λd=>Y 2 d g (Pb G a d b c)
def O9:=L a (C G Qa [b] λf=>Pa G b c f) (E (P d (D wS)) (C G Q5 [b,(D zz),(D tP),(D tP)] λg=>B (P g (D tP)) λh=>B (Xc vx [(0,1),(1,1),(2,1)] [(0,h)]) λj=>U Kf vx λe=>Y 3 e j (C G Q5 [b,(D jC),(D jC),(D jC)] λu=>C G Qa [b] λl=>jf 1 e l (C G Q5 [b,(D zA),(D zA),(D zA)] λv=>C G Ql [b] λn=>jf 2 e n (je 0 c λo=>F 5 o λp=>jd true 3 e λq=>jm Kf vx 3 32 p q λs=>je 0 c λt=>jf 5 t s (jq))))) (jp G Q3 [b,(A 130)]))
def Pz:=L a (jp G N2 [b,c]) (B (P d (D wR)) λe=>O9 G e c b d)
def Py:=L a (C G Qa [b] λe=>B (bin .add true true .str (D Gl) e) λf=>C G Qs [c,(D jC),f] λp=>je 0 c λg=>F 4 g λh=>B (Xc vy [(0,1),(1,1)] [(0,e)]) λj=>jm Kh vy 2 40 h j λl=>je 0 c λn=>jf 4 n l (jq)) (B (P d (D wQ)) λo=>Pz G o c b d)
def Px:=L a (C G C4 [b] λf=>B (Xc sr [(0,1),(1,2),(3,1),(4,1),(5,1),(6,1)] [(0,f),(4,(A 1))]) λg=>U AP sr λe=>Y 7 e g (PA G b e c)) (B (P d (D jC)) λh=>Py G h b c d)
def Pw:=B (P a (D NA)) λd=>Px G d b c a
def CY:=C G Qf [a] λc=>Pw G c a b
def Qo6:En:=⟨_,_,func51,by kernel_rfl,_,cT (s:=(λG a b=>CY G b a)) λG a b m=>Xx (r:=v2 (CY G) 1 0) rfl rfl (ts (v3 (Pw G) 11 1 0) (tr (Xo (aJ (f:=v4 (Px G) 14 1 0 11) (tr (kD (aJ (f:=v3 (PA G) 1 4 0) (ts (v3 (HD G) 1 4 0) (ts (v3 (Pv G) 4 1 0) (ts (v3 (Da G) 1 4 0) (ts (v3 (C9 G) 1 4 0) (ts (v2 (C8 G) 0 4))))))) (aJ (f:=v4 (Py G) 53 1 0 11) (tr (kD (lR) (aJ (f:=v4 (Pz G) 74 0 1 11) (tr (kD (lR) (aJ (f:=v4 (O9 G) 79 1 0 11) (tr (kD (aJ (f:=v3 (Pa G) 1 0 6) (ts (v4 (Pb G) 1 7 0 6) (ts (v3 (Hu G) 0 6 7) (tr (tr (aJ (f:=v3 (Ht G) 0 6 7)) (aJ (f:=v4 (Qlq G) 8 0 6 7) (tr (Xo (bK (λi r m=>wY G i (r 8) (r 0) (r 6) (r 7) m) (λ_ _=>rfl) (λc=>λr m=>by kernel_rfl)))))))))) (lR)))))))))))))))) m⟩
def O4(G:Gt)(a:V):=K a
def zV:=L a (C G Q3 [b,(A 130)] λd=>O4 G c) (O4 G c)
def Qkw:=jc 4 a λf=>E (jk f (A 0)) (E (P b (D [])) (zV G jh a b) (E (bin .neq false true .str b c) (E (bin .neq false true .str b d) (B (bin .neq false true .str b e) λg=>zV G g a b) (zV G jj a b)) (zV G jj a b))) (zV G jj a b)
def Qkx:=C G Qf [a] λe=>Qkw G a e b c d
def GS:=Qkx G a b c d
def Qmr:En:=⟨_,_,func52,by kernel_rfl,_,E9 (s:=GS) λG a b c d m=>Xk (r:=v4 (GS G) 0 1 2 3) rfl rfl m⟩
def OO:=L a (C G Q3 [b,(A 131)] λd=>K (A 0)) (K c)
def Hg:=E (ji a b) (OO G jh d a) (B (bin .gtr false true .int a c) λe=>OO G e d a)
def OA(k0:J6)(a b c d e f g:V):=L a (B (bin .mul true true .int (A 10) b) λh=>B (Xi c d) λj=>B (bin .sub true true .int j (.int .u8 48)) λl=>H (conv (.int .i64) l) λn=>B (bin .add false true .int h n) λo=>B (ja d (A 1)) λp=>k0 p c o e f g) (Hg G b f e g)
def wX(G:Gt):Nat→V→V→V→V→V→V→M→R
 |0,_,_,_,_,_,_,_=>none
 |i+1,a,b,c,d,e,f,m=>(N (aM 0 b) λg=>E (ji a g) (B (bin .leq false true .int c d) λh=>OA G (wX G i) h c b a d e f) (OA G (wX G i) jj c b a d e f)) m
def Qjn:=wX G G.bx a b c d e f
def Qjo:=Qjn G (A 0) a b c d e
def OP:=Qjo G a (A 0) b c d
def Ha:=L a (C G Q3 [b,(A 130)] λf=>K (A 0)) (OP G c d e b)
def Hh:=N (aM 0 a) λe=>E (bin .gtr true true .int e (A 1)) (B (Xi a (A 0)) λf=>B (jk f (.int .u8 48)) λg=>Ha G g b a c d) (Ha G jj b a c d)
def OB(k0:J5)(a b c d e f:V):=L a (C G Q3 [b,(A 130)] λh=>K (A 0)) (B (ja c (A 1)) λg=>k0 g d b e f)
def Z0(k0:J5)(a b c d e:V):=B (Xi a b) λf=>E (bin .lss true true .int f (.int .u8 48)) (OB G k0 jh c b a d e) (B (Xi a b) λg=>B (bin .gtr true true .int g (.int .u8 57)) λh=>OB G k0 h c b a d e)
def zP(G:Gt):Nat→V→V→V→V→V→M→R
 |0,_,_,_,_,_,_=>none
 |i+1,b,a,c,d,e,m=>(N (aM 0 a) λf=>E (ji b f) (Z0 G (zP G i) a b c d e) (Hh G a c d e)) m
def Z1:=zP G G.bx a b c d e
def Qjp:=Z1 G (A 0) a b c d
def OQ:=jc 4 a λe=>E (bin .neq true true .int e (A 0)) (K (A 0)) (Qjp G b a c d)
def OR:=C G Qf [a] λd=>OQ G a d b c
def CJ:=OR G a b c
def Qli:En:=⟨_,_,func53,by kernel_rfl,_,mU (s:=(λG a b c=>CJ G a c b)) λG a b c m=>Xx (r:=v3 (CJ G) 0 2 1) rfl rfl (ts (v3 (OR G) 0 2 1) (ts (v4 (OQ G) 0 7 2 1) (ts (v4 (Qjp G) 7 0 2 1) (tr (tr (aJ (f:=v4 (Hh G) 7 0 2 1) (tr (tr (aJ (f:=v4 (OP G) 7 2 1 0) (ts (v5 (Qjo G) 7 9 2 1 0) (tr (tr (aJ (f:=v4 (Hg G) 9 1 2 0)) (aJ (f:=v6 (Qjn G) 10 7 9 2 1 0) (tr (Xo (bK (λi r m=>wX G i (r 10) (r 7) (r 9) (r 2) (r 1) (r 0) m) (λ_ _=>rfl) (λd=>λr m=>by kernel_rfl))))))))) (aJ (f:=v5 (Ha G) 43 0 7 2 1))))) (aJ (f:=v5 (Z1 G) 8 7 0 2 1) (tr (Xo (bK (λi r m=>zP G i (r 8) (r 7) (r 0) (r 2) (r 1) m) (λ_ _=>rfl) (λd=>λr m=>by kernel_rfl)))))))))) m⟩
end
end Go.Ab.Sh

set_option maxRecDepth 100000
namespace Go.Ab.Sh
open Go Go.Ab Go.Proofs Go.Proofs.Tryz
noncomputable section
variable (G:Gt)(k0:J3)(a b c d e f g h j l n o p q s t u v w x y z:V)
def Hb(G:Gt)(a f:V):=je 0 a λg=>T 9 g λb=>X b λc=>je 14 a λd=>X d λe=>je 0 a λh=>F 9 h λj=>jc 14 a λl=>jb 3 j l λn=>F 1 n λo=>jd true 15 f λp=>jm nL qW 15 168 o p λq=>jn (O false 1 b c (O false 1 d e jo)) (jb 3 c e λs=>jf 1 s q (jq))
def Hc:=jc 14 a λd=>E (bin .lss true true .int d (A 0)) (je 0 a λe=>F 9 e λf=>N (aM 1 f) λg=>Z 14 a g (je 0 a λh=>F 9 h λj=>B (Xc sq [(0,1),(1,1),(2,1)] [(0,b)]) λl=>jm su sq 3 48 j l λn=>je 0 a λo=>jf 9 o n (Hb G a c))) (Hb G a c)
def Ot(G:Gt)(k0:J4)(a b c d:V):=B (ja a (A 1)) λe=>k0 e b c d
def Z2(k0:J4)(a b c d:V):=je 0 a λe=>F 9 e λf=>jb 3 f b λg=>F 0 g λh=>E (bin .eql false true .str h c) (Z 14 a b (Ot G k0 b a c d)) (Ot G k0 b a c d)
def wW(G:Gt):Nat→V→V→V→V→M→R
 |0,_,_,_,_,_=>none
 |i+1,b,a,c,d,m=>(je 0 a λe=>F 9 e λf=>N (aM 1 f) λg=>E (ji b g) (Z2 G (wW G i) a b c d) (Hc G a c d)) m
def Z3:=wW G G.bx a b c d
def OC:=Z3 G (A 0) a b c
def CQ:=Z 14 a (A (-1)) (OC G a b c)
def CR:=E (P a (D lE)) (jf 1 b (.int .u8 2) (CQ G c d b)) (CQ G c d b)
def OD:=E (P a (D dq)) (jf 1 b (.int .u8 1) (CR G a b c d)) (CR G a b c d)
def OE:=B (Xc qW [(0,1),(1,1),(2,1),(3,1),(4,1),(5,1),(6,1),(7,1),(8,1),(9,1),(10,1),(11,1),(12,1),(13,1),(14,1)] [(0,a),(4,(A (-1))),(5,(A (-1))),(6,(A (-1))),(7,(A (-1))),(8,(A (-1))),(9,(A (-1)))]) λf=>U nL qW λe=>Y 15 e f (OD G b e c d)
def CB:=B (bin .add true true .str (D sj) b) λe=>B (bin .add true true .str e (D [32])) λf=>C G oX [c] λg=>B (bin .add false true .str f g) λh=>C G Qs [a,(D dH),h] λj=>OE G c d a b
def Qjz:En:=⟨_,_,func54,by kernel_rfl,_,E9 (s:=(λG a b c d=>CB G a b d c)) λG a b c d m=>Xx (r:=v4 (CB G) 0 1 3 2) rfl rfl (ts (v4 (OE G) 3 2 0 1) (ts (v4 (OD G) 2 8 0 1) (ts (v4 (CR G) 2 8 0 1) (ts (v3 (CQ G) 0 1 8) (ts (v3 (OC G) 0 1 8) (tr (tr (aJ (f:=v3 (Hc G) 0 1 8)) (aJ (f:=v4 (Z3 G) 9 0 1 8) (tr (Xo (bK (λi r m=>wW G i (r 9) (r 0) (r 1) (r 8) m) (λ_ _=>rfl) (λe=>λr m=>by kernel_rfl)))))))))))) m⟩
def Hn:=C G Q6 [a,(D jB)] λb=>L b (C G Qa [a] λc=>K c) (K (D []))
def Qo4:En:=⟨_,_,func55,by kernel_rfl,_,cg (s:=Hn) λG a m=>Xk (r:=v1 (Hn G) 0) rfl rfl m⟩
def Q0:=jp G Qj [a,b]
def Qjm:=E (P a (D jB)) (C G Qa [c] λl=>Z 1 b l (Q0 G d a)) (E (P a (D NB)) (C G Ql [c] λn=>Z 2 b n (C G CT [c,jj,(A 1)] λo=>Z 3 b o (Q0 G d a))) (E (P a (D jC)) (C G Qa [c] λg=>C G Q5 [c,(D cQ),(D ed),(D ed)] λh=>B (bin .add true true .str a (D [32])) λp=>B (bin .add false true .str p h) λj=>E (P h (D cQ)) (Z 5 b g (Q0 G d j)) (Z 6 b g (Q0 G d j))) (E (P a (D wS)) (Z 7 b (.int .u8 2) (C G Q5 [c,(D pS),(D pT),(D pT)] λq=>E (P q (D pS)) (Z 7 b (.int .u8 1) (Q0 G d a)) (Q0 G d a))) (E (P a (D gZ)) (C G Q5 [c,(D mC),(D mD),(D mF)] λe=>B (bin .add true true .str a (D [32])) λs=>B (bin .add false true .str s e) λf=>E (P e (D mC)) (C G Q1 [c,(A 0),(A 16777216)] λt=>Z 8 b t (Q0 G d f)) (E (P e (D mD)) (C G Q1 [c,(A 1),(A 65535)] λu=>Z 9 b u (Q0 G d f)) (E (P e (D mF)) (Z 10 b jh (Q0 G d f)) (Q0 G d f)))) (E (P a (D NC)) (Z 4 b jh (Q0 G d a)) (C G Q3 [c,(A 130)] λv=>Q0 G d a))))))
def CK:=C G Qf [a] λd=>Qjm G d b a c
def Qlk:En:=⟨_,_,func56,by kernel_rfl,_,mU (s:=(λG a b c=>CK G b c a)) λG a b c m=>Xk (r:=v3 (CK G) 1 2 0) rfl rfl m⟩
def vh:=C G G1 [a] λd=>T 2 b λe=>Y 2 e d (F 1 b λf=>C G GP [a,f] λg=>T 6 b λh=>Y 2 h g (C G G1 [a] λj=>T 4 b λl=>Y 2 l j (F 1 b λn=>C G GP [a,n] λo=>T 8 b λp=>Y 2 p o (jc 1 c λq=>jd true 10 b λs=>jm AR sy 10 64 q s λt=>Z 1 c t (jq)))))
def Qju:=C G Q6 [a,(D sc)] λd=>L d (jf 1 b (A (-1)) (vh G a b c)) (C G Q6 [a,(D Gf)] λe=>L e (jf 1 b (A 6) (vh G a b c)) (C G Q6 [a,(D Gg)] λf=>L f (jf 1 b (A 17) (vh G a b c)) (C G Q6 [a,(D Gh)] λg=>L g (jf 1 b (A 1) (vh G a b c)) (C G Q1 [a,(A 0),(A 255)] λh=>jf 1 b h (vh G a b c)))))
def CL:=C G Q5 [a,(D dq),(D dP),(D dP)] λd=>B (P d (D dq)) λe=>B (Xc sy [(0,1),(1,1),(2,2),(4,2),(6,2),(8,2)] [(0,e)]) λf=>U AR sy λc=>Y 10 c f (Qju G a c b)
def Qmo:En:=⟨_,_,func57,by kernel_rfl,_,mU (s:=(λG c a b=>CL G a b)) λG c a b m=>Xk (r:=v2 (CL G) 1 2) rfl rfl m⟩
def Qy:=jp G Qj [a,b]
def Qln:=E (P a (D zC)) (C G Qf [b] λe=>B (bin .add true true .str a (D [32])) λg=>B (bin .add false true .str g e) λf=>E (P e (D wQ)) (C G Qa [b] λh=>Z 2 c h (Qy G d f)) (E (P e (D wR)) (C G Qa [b] λj=>Z 3 c j (Qy G d f)) (E (P e (D lX)) (C G Q1 [b,(A 0),(A 16777216)] λl=>Z 4 c l (Qy G d f)) (E (P e (D oV)) (C G Q1 [b,(A 0),(A 16777216)] λn=>Z 5 c n (Qy G d f)) (E (P e (D jD)) (C G Q1 [b,(A 1),(A 4294967295)] λo=>Z 6 c o (Qy G d f)) (C G Q3 [b,(A 130)] λw=>Qy G d f)))))) (E (P a (D zE)) (B (bin .add true true .str a (D [32])) λp=>C G Ow [b,c] λq=>B (bin .add false true .str p q) λs=>Qy G d s) (E (P a (D zF)) (jc 0 c λt=>B (ja t (A 1)) λu=>C G Q1 [b,u,(A 65535)] λv=>Z 14 c v (Qy G d a)) (Qy G d a)))
def CU:=C G Q5 [a,(D zC),(D zE),(D zF)] λd=>Qln G d a b c
def Qns:En:=⟨_,_,func58,by kernel_rfl,_,mU (s:=(λG a b c=>CU G b c a)) λG a b c m=>Xk (r:=v3 (CU G) 1 2 0) rfl rfl m⟩
def OF(G:Gt)(a:V):=K a
def Z4:=E (bin .neq true true .int a (A 0)) (C G Q3 [b,(A 130)] λd=>OF G c) (OF G c)
def Z5:=C G H0 [a] λc=>jg c 0 λd=>jg c 1 λe=>Z4 G e b d
def Z6:=jc 4 a λc=>E (bin .neq true true .int c (A 0)) (K (.int .u32 0)) (Z5 G b a)
def Z7:=C G Qf [a] λb=>Z6 G a b
def GH:=Z7 G a
def Qjx:En:=⟨_,_,func59,by kernel_rfl,_,cg (s:=GH) λG a m=>Xk (r:=v1 (GH G) 0) rfl rfl m⟩
def GD:=jc 13 a λc=>C G oX [c] λd=>B (bin .add true true .str (D wT) d) λe=>B (bin .add true true .str e (D [58,32])) λf=>B (bin .add false true .str f b) λg=>jp G tT [a,g]
def Qjy:En:=⟨_,_,func60,by kernel_rfl,_,cT (s:=GD) λG a b m=>Xk (r:=v2 (GD G) 0 1) rfl rfl m⟩
end
end Go.Ab.Sh
