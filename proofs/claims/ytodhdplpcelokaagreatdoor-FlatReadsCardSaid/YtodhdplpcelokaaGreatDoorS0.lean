/-
  Functions of the program as plain definitions. No conditions.
-/
import Derived.Test.YtodhdplpcelokaaGreatDoorAb5
import Derived.Test.YtodhdplpcelokaaGreatDoorZ
import Derived.KernelRfl
import Derived.Test.YtodhdplpcelokaaGreatDoorProg
set_option linter.all false
set_option maxRecDepth 100000
namespace Go.Ab.Sh
open Go Go.Ab Go.Proofs Go.Proofs.Tryz
noncomputable section
variable (G:Gt)(k0:J3)(a b c d e f g h j l n o p q s t u v w x y z:V)
def Dd:=L a (K jj) (jd true 12 b λf=>C G P9 [f] λn=>C G JN [c] λe=>jg e 0 λg=>jg e 1 λo=>jg e 2 λp=>Y 12 b g (jd true 12 b λh=>C G DG [h] λj=>B (bin .eql false true .str j d) λl=>K l))
def Qmy:=jd true 12 a λh=>C G DG [h] λj=>E (bin .neq false true .str j b) (Dd G jh a g b) (F 0 c λl=>F 0 d λn=>E (bin .neq false true .int l n) (Dd G jh a g b) (F 1 c λo=>F 1 d λp=>E (bin .neq false true .int o p) (Dd G jh a g b) (B (bin .neq false true .int e f) λq=>Dd G q a g b)))
def Qmx:=jd true 12 a λh=>C G DG [h] λj=>Qmy G b j c d e f g
def Qmw:=C G PZ [a] λe=>jg e 0 λh=>jg e 1 λj=>jg e 2 λl=>U iH Q8 λf=>U Q7 Q2 λg=>Y 12 f h (Y 2 g j (Qmx G f b c g d l a))
def Qmv:=C G JN [a] λb=>jg b 0 λe=>jg b 1 λf=>jg b 2 λg=>U iH Q8 λc=>U Q7 Q2 λd=>Y 12 c e (Y 2 d f (Qmw G a c d g))
def Hk:=Qmv G a
def Qo2:En:=⟨_,_,func3,by kernel_rfl,_,cg (s:=Hk) λG a m=>Xk (r:=v1 (Hk G) 0) rfl rfl m⟩
def Ed(G:Gt)(c a b:V):=je 0 c λd=>jd true 12 d λe=>B (Xc Q2 [(0,1),(1,1)] []) λf=>Y 12 a e (jl (Xe 2 b f) λ_=>λm=>ob (ob (X9 true 12 a m) λv=>ob (ob (X9 true 2 b m) λv=>ob (some [(A 0)]) λl=>some (v::l)) λl=>some (v::l)) λl=>some (bZ l,m))
def xG(G:Gt):Nat→V→V→V→V→V→V→M→R
 |0,_,_,_,_,_,_,_=>none
 |i+1,a,b,c,d,e,f,m=>(E (ji a b) (jb 3 c a λh=>jd true 3 h λj=>U su sq λg=>Y 3 g j (F 1 g λl=>C G NV [l,(.func (.func Ec) #[] #[])] λo=>B (ja a (A 1)) λn=>(xG G i) n b c d e f)) (Ed G d e f)) m
def Qyi:=xG G G.bx a b c d e f
def TJ:=je 0 a λe=>F 9 e λd=>N (aM 1 d) λf=>Qyi G (A 0) f d a b c
def AH:=je 0 a λd=>F 0 d λe=>E (P e (D [])) (B (Xc Q8 [(0,1),(1,1),(2,1),(3,1),(4,1),(5,1),(6,1),(7,1),(8,1),(9,1),(10,1),(11,1)] []) λf=>B (Xc Q2 [(0,1),(1,1)] []) λg=>Y 12 b f (jl (Xe 2 c g) λ_=>λm=>ob (ob (X9 true 12 b m) λv=>ob (ob (X9 true 2 c m) λv=>ob (some [(A 5)]) λl=>some (v::l)) λl=>some (v::l)) λl=>some (bZ l,m))) (TJ G a b c)
def pX(G:Gt)(k0:J6)(a b c h j n o:V):=jc 4 a λp=>E (bin .neq true true .int p (A 0)) (B (Xc Q8 [(0,1),(1,1),(2,1),(3,1),(4,1),(5,1),(6,1),(7,1),(8,1),(9,1),(10,1),(11,1)] []) λq=>je 2 a λf=>jd true 2 f λg=>je 4 a λd=>X d λe=>Y 12 b q (jn (O true 2 f g (O false 1 d e jo)) (Y 2 c g (jn (O false 1 d e jo) (λm=>ob (ob (X9 true 12 b m) λv=>ob (ob (X9 true 2 c m) λv=>ob (some [e]) λl=>some (v::l)) λl=>some (v::l)) λl=>some (bZ l,m)))))) (B (ja h (A 1)) λs=>k0 s j n o b c)
def JL(k0:J6)(a b c d e f g h:V):=jc 15 a λj=>L j (jd true 2 c λl=>C G tX [b,l,(A 7)] λp=>pX G k0 b d e f g h a) (jc 16 a λn=>L n (jd true 2 c λo=>C G tX [b,o,(A 120)] λq=>pX G k0 b d e f g h a) (pX G k0 b d e f g h a))
def AG(k0:J6)(a b c d e f g h:V):=C G xr [a] λj=>L j (jc 0 a λl=>jc 1 a λn=>jb 3 l n λo=>jv true 2 1 o λp=>C G tX [a,p,(A 130)] λq=>JL G k0 b a c d e f g h) (JL G k0 b a c d e f g h)
def Eb(k0:J6)(a b c d e f g h j:V):=L a (jc 12 b λl=>H (o9 G.dN l [c]) λo=>AG G k0 c b d e f g h j) (jd true 2 d λn=>C G tX [c,n,(A 70)] λp=>AG G k0 c b d e f g h j)
def Qxv(k0:J6)(a b c d e f g h j l:V):=L a (Z 12 b .nilFunc (C G I9 [b,c] λq=>AG G k0 c b d e f g h j)) (F 0 l λn=>E (jk n (A 1)) (jc 12 b λo=>B (bin .neq true true .func o .nilFunc) λp=>Eb G k0 p b c d e f g h j) (Eb G k0 jj b c d e f g h j))
def Qxw(k0:J6)(a b c d e f g h j:V):=F 0 a λl=>B (jk l (A 0)) λn=>Qxv G k0 n b c d e f g h j a
def TG(k0:J6)(a b c d e f g h:V):=F 1 a λl=>jb 3 l (A 0) λn=>jv true 2 1 n λo=>U Q7 Q2 λj=>Y 2 j o (Qxw G k0 a b c j d e f g h)
def TH(k0:J6)(a b c d e f g:V):=F 1 a λh=>B (Xc Ub [(0,1),(1,1),(2,2),(4,1)] [(0,h)]) λj=>U Uc (Value.cells j).toList λl=>TG G k0 a b l c d e f g
def Qxx(k0:J6)(a b c d e f:V):=jb 2 a b λh=>jd true 2 h λj=>U AS ue λg=>Y 2 g j (TH G k0 g c d e b f a)
def TI(k0:J6)(a b c d e f g:V):=L a (Qxx G k0 b c d e f g) (AH G d e f)
def o5(G:Gt):Nat→V→V→V→V→V→V→M→R
 |0,_,_,_,_,_,_,_=>none
 |i+1,a,b,c,d,e,f,m=>(B (ji a b) λg=>TI G (o5 G i) g c a d e f b) m
def Qyj:=o5 G G.bx a b c d e f
def TN:=N (aM 1 a) λe=>Qyj G (A 0) e a b c d
def TM:=B (Xc Q8 [(0,1),(1,1),(2,1),(3,1),(4,1),(5,1),(6,1),(7,1),(8,1),(9,1),(10,1),(11,1)] [(1,(.int .u8 1))]) λd=>jy A4 λe=>B (Xc Qzk [(0,12),(12,1),(13,1),(14,1),(15,1),(16,1),(17,1)] [(0,d),(3,e)]) λf=>U Qzl (Value.cells f).toList λg=>TN G a g b c
def JU:=E (bin .neq true true .int a (A 0)) (B (Xc Q8 [(0,1),(1,1),(2,1),(3,1),(4,1),(5,1),(6,1),(7,1),(8,1),(9,1),(10,1),(11,1)] []) λg=>jd true 2 b λf=>Y 12 c g (jn (O true 2 b f jo) (jl (Xe 2 d f) λ_=>λm=>ob (ob (X9 true 12 c m) λv=>ob (ob (X9 true 2 d m) λv=>ob (some [a]) λl=>some (v::l)) λl=>some (v::l)) λl=>some (bZ l,m)))) (TM G e c d)
def TL:=C G Ka [a] λd=>jg d 0 λf=>jg d 1 λg=>jg d 2 λh=>U Q7 Q2 λe=>Y 2 e g (JU G h e b c f)
def Ee:=U iH Q8 λb=>U Q7 Q2 λc=>TL G a b c
def Zy:En:=⟨_,_,func4,by kernel_rfl,_,cg (s:=Ee) λG a m=>Xx (r:=v1 (Ee G) 0) rfl rfl (ts (v3 (TL G) 0 2 3) (ts (v5 (JU G) 7 6 2 3 5) (ts (v3 (TM G) 5 2 3) (ts (v4 (TN G) 5 8 2 3) (tr (tr (aJ (f:=v3 (AH G) 8 2 3) (ts (v3 (TJ G) 8 2 3) (tr (tr (aJ (f:=v3 (Ed G) 8 2 3)) (aJ (f:=v6 (Qyi G) 135 134 133 8 2 3) (tr (Xo (bK (λi r m=>xG G i (r 135) (r 134) (r 133) (r 8) (r 2) (r 3) m) (λ_ _=>rfl) (λb=>λr m=>by kernel_rfl))))))))) (aJ (f:=v6 (Qyj G) 32 31 30 8 2 3) (tr (Xo (bK (λi r m=>o5 G i (r 32) (r 31) (r 30) (r 8) (r 2) (r 3) m) (λ_ _=>rfl) (λb=>λr m=>by kernel_rfl))))))))))) m⟩
end
end Go.Ab.Sh

set_option maxRecDepth 100000
namespace Go.Ab.Sh
open Go Go.Ab Go.Proofs Go.Proofs.Tryz
noncomputable section
variable (G:Gt)(k0:J3)(a b c d e f g h j l n o p q s t u v w x y z:V)
def DN(G:Gt)(c a b:V):=je 0 c λd=>jd true 12 d λe=>B (Xc Q2 [(0,1),(1,1)] []) λf=>Y 12 a e (jl (Xe 2 b f) λ_=>λm=>ob (ob (X9 true 12 a m) λv=>ob (ob (X9 true 2 b m) λv=>ob (some [(A 0)]) λl=>some (v::l)) λl=>some (v::l)) λl=>some (bZ l,m))
def vl(G:Gt):Nat→V→V→V→V→M→R
 |0,_,_,_,_,_=>none
 |i+1,b,a,c,d,m=>(je 0 a λg=>F 9 g λh=>N (aM 1 h) λj=>E (ji b j) (je 0 a λl=>T 9 l λe=>X e λf=>je 0 a λn=>F 9 n λo=>jb 3 o b λp=>F 1 p λq=>C G Pt [q] λs=>jn (O false 1 e f jo) (jb 3 f b λt=>jf 1 t s (B (ja b (A 1)) λu=>(vl G i) u a c d))) (DN G a c d)) m
def RD:=vl G G.bx a b c d
def RC:=RD G (A 0) a b c
def Ak:=je 0 a λd=>F 0 d λe=>E (P e (D [])) (B (Xc Q8 [(0,1),(1,1),(2,1),(3,1),(4,1),(5,1),(6,1),(7,1),(8,1),(9,1),(10,1),(11,1)] []) λf=>B (Xc Q2 [(0,1),(1,1)] []) λg=>Y 12 b f (jl (Xe 2 c g) λ_=>λm=>ob (ob (X9 true 12 b m) λv=>ob (ob (X9 true 2 c m) λv=>ob (some [(A 5)]) λl=>some (v::l)) λl=>some (v::l)) λl=>some (bZ l,m))) (RC G a b c)
def DD(G:Gt)(k0:J5)(d a b e c p q:V):=jc 4 d λs=>E (bin .neq true true .int s (A 0)) (B (Xc Q8 [(0,1),(1,1),(2,1),(3,1),(4,1),(5,1),(6,1),(7,1),(8,1),(9,1),(10,1),(11,1)] []) λt=>je 2 d λh=>jd true 2 h λj=>je 4 d λf=>X f λg=>Y 12 a t (jn (O true 2 h j (O false 1 f g jo)) (Y 2 b j (jn (O false 1 f g jo) (λm=>ob (ob (X9 true 12 a m) λv=>ob (ob (X9 true 2 b m) λv=>ob (some [g]) λl=>some (v::l)) λl=>some (v::l)) λl=>some (bZ l,m)))))) (jc 16 e λu=>L u (B (Xc Q8 [(0,1),(1,1),(2,1),(3,1),(4,1),(5,1),(6,1),(7,1),(8,1),(9,1),(10,1),(11,1)] []) λw=>jd true 2 c λn=>Y 12 a w (jn (O true 2 c n jo) (jl (Xe 2 b n) λ_=>λm=>ob (ob (X9 true 12 a m) λv=>ob (ob (X9 true 2 b m) λv=>ob (some [(A 7)]) λl=>some (v::l)) λl=>some (v::l)) λl=>some (bZ l,m)))) (jc 17 e λx=>L x (B (Xc Q8 [(0,1),(1,1),(2,1),(3,1),(4,1),(5,1),(6,1),(7,1),(8,1),(9,1),(10,1),(11,1)] []) λy=>jd true 2 c λo=>Y 12 a y (jn (O true 2 c o jo) (jl (Xe 2 b o) λ_=>λm=>ob (ob (X9 true 12 a m) λv=>ob (ob (X9 true 2 b m) λv=>ob (some [(A 120)]) λl=>some (v::l)) λl=>some (v::l)) λl=>some (bZ l,m)))) (B (ja p (A 1)) λz=>k0 z q e a b)))
def Af(k0:J5)(a b c d e f g:V):=C G zR [a] λh=>L h (C G Qf [a] λj=>C G Q3 [a,(A 130)] λl=>DD G k0 a b c d e f g) (DD G k0 a b c d e f g)
def Qp2(k0:J5)(a b c d e f g:V):=jb 2 a b λh=>F 0 h λj=>E (jk j (A 0)) (Z 12 c (D []) (C G NZ [c,d] λl=>Af G k0 d e f c g b a)) (C G N4 [c,d] λn=>Af G k0 d e f c g b a)
def vk(k0:J5)(a b c d e f g h:V):=L a (B (Xc Q8 [(0,1),(1,1),(2,1),(3,1),(4,1),(5,1),(6,1),(7,1),(8,1),(9,1),(10,1),(11,1)] []) λn=>jd true 2 b λj=>Y 12 c n (jn (O true 2 b j jo) (jl (Xe 2 d j) λ_=>λm=>ob (ob (X9 true 12 c m) λv=>ob (ob (X9 true 2 d m) λv=>ob (some [(A 70)]) λl=>some (v::l)) λl=>some (v::l)) λl=>some (bZ l,m)))) (Qp2 G k0 e f g h c d b)
def Ri(k0:J5)(a b c d e f g:V):=jb 2 a b λh=>F 0 h λj=>E (bin .gtr true true .int j (A 1)) (vk G k0 jh d e f a b c g) (jb 2 a b λl=>F 0 l λn=>E (jk n (A 1)) (jc 12 c λo=>B (P o (D [])) λp=>vk G k0 p d e f a b c g) (vk G k0 jj d e f a b c g))
def Rj(k0:J5)(a b c d e f:V):=jb 2 a b λh=>F 1 h λj=>jb 3 j (A 0) λl=>jv true 2 1 l λn=>U Q7 Q2 λg=>Y 2 g n (Ri G k0 a b c g d e f)
def Ag(k0:J5)(a b c d e:V):=jb 2 a b λf=>F 1 f λg=>B (Xc Tu [(0,1),(1,1),(2,2),(4,1)] [(0,g)]) λh=>U JB (Value.cells h).toList λj=>Rj G k0 a b c d e j
def qQ(G:Gt):Nat→V→V→V→V→V→M→R
 |0,_,_,_,_,_,_=>none
 |i+1,a,b,c,d,e,m=>(N (aM 1 b) λf=>E (ji a f) (Ag G (qQ G i) b a c d e) (Ak G c d e)) m
def Qq1:=qQ G G.bx a b c d e
def RS:=Qq1 G (A 0) a b c d
def RR:=B (Xc Q8 [(0,1),(1,1),(2,1),(3,1),(4,1),(5,1),(6,1),(7,1),(8,1),(9,1),(10,1),(11,1)] [(1,(.int .u8 1))]) λd=>B (Xc Qsp [(0,12),(12,1),(13,1),(14,1),(15,1),(16,1),(17,1)] [(0,d)]) λe=>U Qlx (Value.cells e).toList λf=>RS G a f b c
def IS:=E (bin .neq true true .int a (A 0)) (B (Xc Q8 [(0,1),(1,1),(2,1),(3,1),(4,1),(5,1),(6,1),(7,1),(8,1),(9,1),(10,1),(11,1)] []) λg=>jd true 2 b λf=>Y 12 c g (jn (O true 2 b f jo) (jl (Xe 2 d f) λ_=>λm=>ob (ob (X9 true 12 c m) λv=>ob (ob (X9 true 2 d m) λv=>ob (some [a]) λl=>some (v::l)) λl=>some (v::l)) λl=>some (bZ l,m)))) (RR G e c d)
def RQ:=C G HV [a] λd=>jg d 0 λf=>jg d 1 λg=>jg d 2 λh=>U Q7 Q2 λe=>Y 2 e g (IS G h e b c f)
def Dx:=U iH Q8 λb=>U Q7 Q2 λc=>RQ G a b c
def Qsg:En:=⟨_,_,func5,by kernel_rfl,_,cg (s:=Dx) λG a m=>Xx (r:=v1 (Dx G) 0) rfl rfl (ts (v3 (RQ G) 0 2 3) (ts (v5 (IS G) 7 6 2 3 5) (ts (v3 (RR G) 5 2 3) (ts (v4 (RS G) 5 8 2 3) (tr (tr (aJ (f:=v3 (Ak G) 8 2 3) (ts (v3 (RC G) 8 2 3) (tr (tr (aJ (f:=v3 (DN G) 8 2 3)) (aJ (f:=v4 (RD G) 12 8 2 3) (tr (Xo (bK (λi r m=>vl G i (r 12) (r 8) (r 2) (r 3) m) (λ_ _=>rfl) (λb=>λr m=>by kernel_rfl))))))))) (aJ (f:=v5 (Qq1 G) 9 5 8 2 3) (tr (Xo (bK (λi r m=>qQ G i (r 9) (r 5) (r 8) (r 2) (r 3) m) (λ_ _=>rfl) (λb=>λr m=>by kernel_rfl))))))))))) m⟩
end
end Go.Ab.Sh

set_option maxRecDepth 100000
namespace Go.Ab.Sh
open Go Go.Ab Go.Proofs Go.Proofs.Tryz
noncomputable section
variable (G:Gt)(k0:J3)(a b c d e f g h j l n o p q s t u v w x y z:V)
def Je(G:Gt)(b a:V)(m:M):R:=bp (conv .str b m) λc m=>bp (aI (X9 true 12 a m) m) λg m=>bp (aI (X9 true 12 a m) m) λf m=>bp (aI (X9 true 12 a m) m) λe m=>bp (aI (X9 true 12 a m) m) λd m=>bp (G.dN Ov [g] m) λh m=>tb (again (conv .str b m) c&&(again (aI (X9 true 12 a m) m) f&&(again (aI (X9 true 12 a m) m) e&&(again (aI (X9 true 12 a m) m) d&&true)))) (bp (aI (bin .add false true .str c h) m) λj m=>bp (G.dN N5 [f] m) λl m=>tb (again (conv .str b m) c&&(again (aI (X9 true 12 a m) m) e&&(again (aI (X9 true 12 a m) m) d&&true))) (bp (aI (bin .add false true .str j l) m) λn m=>bp (G.dN OS [e] m) λo m=>tb (again (conv .str b m) c&&(again (aI (X9 true 12 a m) m) d&&true)) (bp (aI (bin .add false true .str n o) m) λp m=>bp (G.dN O7 [d] m) λq m=>tb (again (conv .str b m) c&&true) (bp (aI (bin .add false true .str p q) m) λs m=>some (s,m)))))
def Jd(G:Gt):Nat→V→V→V→M→R
 |0,_,_,_,_=>none
 |i+1,c,b,d,m=>(F 6 b λu=>N (aM 1 u) λv=>E (ji c v) (F 6 b λw=>jb 7 w c λx=>jd true 7 x λy=>U AP sr λa=>Y 7 a y (T 1 a λz=>T 0 z λe=>X e λf=>H (conv (.int .i64) f) λI=>T 1 a λQ=>T 1 Q λg=>X g λh=>T 3 a λj=>X j λl=>H (conv (.int .i64) l) λS=>F 4 a λW=>T 5 a λn=>X n λo=>T 6 a λp=>X p λq=>T 0 a λs=>X s λt=>H (js t) λk=>C G oZ [W] λr=>jn (O false 1 e f (O false 1 g h (O false 1 j l (O false 1 n o (O false 1 p q (O false 1 s t jo)))))) (H (X8 cS [(A 0)] 1 6 [(0,I),(1,h),(2,S),(3,r),(4,o),(5,q)]) λD=>C G Qi [D,k] λJ=>H (fP fJ 1 1 d J) λK=>B (ja c (A 1)) λL=>(Jd G i) L b K))) (Je G d b)) m
def Qrk:=Jd G G.bx a b c
def Qkb:=Qrk G (A 0) a b
def Jf(G:Gt):Nat→V→V→V→M→R
 |0,_,_,_,_=>none
 |i+1,b,a,c,m=>(F 5 a λo=>N (aM 1 o) λp=>E (ji b p) (F 5 a λq=>jb 3 q b λs=>F 0 s λt=>T 5 a λd=>X d λe=>jb 3 e b λu=>T 2 u λf=>X f λg=>H (conv (.int .i64) g) λv=>T 5 a λh=>X h λj=>jb 3 j b λw=>T 1 w λl=>X l λn=>H (js n) λx=>C G oZ [t] λy=>jn (O false 1 d e (O false 1 f g (O false 1 h j (O false 1 l n jo)))) (H (X8 cS [(A 0)] 1 2 [(0,y),(1,v)]) λz=>C G Qi [z,x] λI=>H (fP fJ 1 1 c I) λQ=>B (ja b (A 1)) λS=>(Jf G i) S a Q)) (Qkb G a c)) m
def Qrl:=Jf G G.bx a b c
def Sr:=Qrl G (A 0) a b
def IU(G:Gt)(k0:J3)(a b c:V):=B (ja a (A 1)) λd=>k0 d b c
def IT(G:Gt)(k0:J3):Nat→V→V→V→V→V→M→R
 |0,_,_,_,_,_,_=>none
 |i+1,b,c,d,e,f,m=>(F 1 c λS=>N (aM 1 S) λW=>E (ji b W) (F 1 c λr=>jb 10 r b λD=>jd true 10 D λJ=>U AR sy λa=>Y 10 a J (F 0 a λK=>T 1 a λg=>X g λh=>T 2 a λL=>T 0 L λj=>X j λl=>H (conv (.int .i64) l) λP=>T 2 a λZ=>T 1 Z λn=>X n λo=>T 4 a λxh=>T 0 xh λp=>X p λq=>H (conv (.int .i64) q) λxj=>T 4 a λxl=>T 1 xl λs=>X s λt=>T 6 a λxn=>T 0 xn λu=>X u λv=>H (conv (.int .i64) v) λxo=>T 6 a λxp=>T 1 xp λw=>X w λx=>H (conv (.int .i64) x) λxq=>T 8 a λxs=>T 0 xs λy=>X y λz=>H (conv (.int .i64) z) λxt=>T 8 a λxu=>T 1 xu λI=>X I λQ=>H (conv (.int .i64) Q) λxv=>C G oZ [K] λxw=>jn (O false 1 g h (O false 1 j l (O false 1 n o (O false 1 p q (O false 1 s t (O false 1 u v (O false 1 w x (O false 1 y z (O false 1 I Q jo))))))))) (H (X8 cS [(A 0)] 1 10 [(0,xw),(1,h),(2,P),(3,o),(4,xj),(5,t),(6,xo),(7,xq),(8,xt),(9,xv)]) λxx=>C G Qi [xx,(.slice none 0 0)] λxy=>H (fP fJ 1 1 d xy) λxz=>B (ja b (A 1)) λk=>(IT G k0 i) k c xz e f))) (IU G k0 e f d)) m
def RW:=IT G k0 G.bx a b c d e
def RV:=RW G k0 (A 0) a b c d
def RU:=F 1 b λe=>N (aM 1 e) λf=>H (X8 cS [(A 0)] 1 1 [(0,f)]) λg=>F 0 b λh=>H (js h) λj=>C G Qi [g,j] λl=>H (fP fJ 1 1 a l) λn=>RV G k0 b n c d
def RT:=F 4 a λe=>jb 2 e b λf=>jd true 2 f λg=>U Kh vy λd=>Y 2 d g (RU G k0 c d b a)
def qS(G:Gt):Nat→V→V→V→M→R
 |0,_,_,_,_=>none
 |i+1,b,a,c,m=>(F 4 a λd=>N (aM 1 d) λe=>E (ji b e) (RT G (qS G i) a b c) (Sr G a c)) m
def Qq2:=qS G G.bx a b c
def Sq:=Qq2 G (A 0) a b
def IV(G:Gt):Nat→V→V→V→M→R
 |0,_,_,_,_=>none
 |i+1,c,b,z,m=>(F 3 b λS=>N (aM 1 S) λW=>E (ji c W) (F 3 b λk=>jb 11 k c λr=>jd true 11 r λD=>U Ek vA λa=>Y 11 a D (T 2 a λd=>X d λe=>H (conv (.int .i64) e) λJ=>T 3 a λf=>X f λg=>F 4 a λK=>T 7 a λh=>X h λj=>H (conv (.int .i64) j) λL=>T 8 a λl=>X l λn=>T 9 a λo=>X o λp=>T 10 a λI=>X I λQ=>T 0 a λq=>X q λs=>T 1 a λt=>X t λu=>T 5 a λv=>X v λw=>T 6 a λx=>X x λy=>H (jx s u w y) λP=>C G oZ [K] λZ=>jn (O false 1 d e (O false 1 f g (O false 1 h j (O false 1 l n (O false 1 o p (O false 1 I Q (O false 1 q s (O false 1 t u (O false 1 v w (O false 1 x y jo)))))))))) (C G oZ [Q] λxj=>jn (O false 1 d e (O false 1 f g (O false 1 h j (O false 1 l n (O false 1 o p (O false 1 q s (O false 1 t u (O false 1 v w (O false 1 x y jo))))))))) (H (X8 cS [(A 0)] 1 7 [(0,J),(1,g),(2,Z),(3,L),(4,n),(5,p),(6,xj)]) λxl=>C G Qi [xl,P] λxn=>H (fP fJ 1 1 z xn) λxo=>B (ja c (A 1)) λxp=>(IV G i) xp b xo)))) (Sq G b z)) m
def Qq3:=IV G G.bx a b c
def Qrm:=Qq3 G (A 0) a b
def Ss:=T 1 a λb=>X b λc=>H (conv (.int .i64) c) λQ=>T 2 a λd=>X d λe=>N (aM 1 e) λS=>T 3 a λf=>X f λg=>N (aM 1 g) λW=>T 4 a λh=>X h λj=>N (aM 1 j) λi=>T 5 a λl=>X l λn=>N (aM 1 n) λk=>T 6 a λo=>X o λp=>N (aM 1 p) λm=>T 7 a λq=>X q λs=>N (aM 1 s) λr=>T 8 a λt=>X t λu=>N (aM 1 u) λB=>T 9 a λv=>X v λw=>N (aM 1 w) λD=>T 10 a λx=>X x λy=>N (aM 1 y) λE=>T 11 a λz=>X z λI=>N (aM 1 I) λJ=>H (X8 cS [(A 0)] 1 11 [(0,Q),(1,S),(2,W),(3,i),(4,k),(5,m),(6,r),(7,B),(8,D),(9,E),(10,J)]) λK=>F 0 a λL=>H (js L) λM=>F 2 a λP=>H (dn Qc 1 16 M P) λR=>jn (O false 1 b c (O false 1 d e (O false 1 f g (O false 1 h j (O false 1 l n (O false 1 o p (O false 1 q s (O false 1 t u (O false 1 v w (O false 1 x y (O false 1 z I jo))))))))))) (C G Qi [K,R] λU=>H (conv .bytes U) λY=>Qrm G a Y)
def Im:=U iH (Value.cells a).toList λb=>Ss G b
def Qu4:En:=⟨_,_,func6,by kernel_rfl,_,cg (s:=Im) λG a m=>Xx (r:=v1 (Im G) 0) rfl rfl (ts (v1 (Ss G) 1) (ts (v2 (Qrm G) 1 3) (tr (tr (aJ (f:=v2 (Sq G) 1 3) (tr (tr (aJ (f:=v2 (Sr G) 1 3) (tr (tr (aJ (f:=v2 (Qkb G) 1 3) (tr (tr (aJ (f:=v2 (Je G) 3 1)) (aJ (f:=v3 (Qrk G) 11 1 3) (tr (Xo (bK (λi r m=>Jd G i (r 11) (r 1) (r 3) m) (λ_ _=>rfl) (λb=>λr m=>by kernel_rfl)))))))) (aJ (f:=v3 (Qrl G) 10 1 3) (tr (Xo (bK (λi r m=>Jf G i (r 10) (r 1) (r 3) m) (λ_ _=>rfl) (λb=>λr m=>by kernel_rfl)))))))) (aJ (f:=v3 (Qq2 G) 6 1 3) (tr (Xo (bK (λi r m=>qS G i (r 6) (r 1) (r 3) m) (λ_ _=>rfl) (λb=>tr (aJ (f:=v3 (RT G (qS G b)) 1 6 3) (tr (tr (aJ (f:=v3 (IU G (qS G b)) 6 1 3)) (Xo (aJ (f:=v4 (RU G (qS G b)) 3 7 6 1) (ts (v4 (RV G (qS G b)) 7 3 6 1) (ts (v5 (RW G (qS G b)) 8 7 3 6 1) (tr (Xo (bK (λi r m=>IT G (qS G b) i (r 8) (r 7) (r 3) (r 6) (r 1) m) (λ_ _=>rfl) (λc=>λr m=>by kernel_rfl))))))))))))))))))) (aJ (f:=v3 (Qq3 G) 4 1 3) (tr (Xo (bK (λi r m=>IV G i (r 4) (r 1) (r 3) m) (λ_ _=>rfl) (λb=>λr m=>by kernel_rfl))))))))) m⟩
end
end Go.Ab.Sh

set_option maxRecDepth 100000
namespace Go.Ab.Sh
open Go Go.Ab Go.Proofs Go.Proofs.Tryz
noncomputable section
variable (G:Gt)(k0:J3)(a b c d e f g h j l n o p q s t u v w x y z:V)
def Am(G:Gt):Nat→V→V→M→R
 |0,_,_,_=>none
 |i+1,a,b,m=>(F 11 b λc=>N (aM 1 c) λd=>E (ji a d) (F 11 b λe=>jb 6 e a λf=>jf 1 f (.int .u32 0) (B (ja a (A 1)) λg=>(Am G i) g b)) (jq)) m
def R0:=Am G G.bx a b
def IZ:=R0 G (A 0) a
def IY(G:Gt)(k0:J2)(a b:V):=B (ja a (A 1)) λc=>k0 c b
def Ae(G:Gt)(k0:J2):Nat→V→V→V→M→R
 |0,_,_,_,_=>none
 |i+1,c,a,b,m=>(F 9 a λd=>jb 3 d b λe=>F 1 e λf=>N (aM 1 f) λg=>E (ji c g) (F 9 a λh=>jb 3 h b λj=>F 1 j λl=>jb 15 l c λn=>jf 0 n (A 0) (B (ja c (A 1)) λo=>(Ae G k0 i) o a b)) (IY G k0 b a)) m
def Re(k0:J2)(a b c:V):=Ae G k0 G.bx a b c
def RX(k0:J2)(a b:V):=Re G k0 (A 0) a b
def qT(G:Gt):Nat→V→V→M→R
 |0,_,_,_=>none
 |i+1,b,a,m=>(F 9 a λc=>N (aM 1 c) λd=>E (ji b d) (RX G (qT G i) a b) (IZ G a)) m
def RZ:=qT G G.bx a b
def IX:=RZ G (A 0) a
def Ia(G:Gt)(k0:J2)(a b:V):=B (ja a (A 1)) λc=>k0 c b
def Ad(G:Gt)(k0:J2):Nat→V→V→V→M→R
 |0,_,_,_,_=>none
 |i+1,c,a,b,m=>(F 4 a λd=>jb 2 d b λe=>F 1 e λf=>N (aM 1 f) λg=>E (ji c g) (F 4 a λh=>jb 2 h b λj=>F 1 j λl=>jb 10 l c λn=>jf 1 n (A 77) (B (ja c (A 1)) λo=>(Ad G k0 i) o a b)) (Ia G k0 b a)) m
def Rc(k0:J2)(a b c:V):=Ad G k0 G.bx a b c
def Rb(k0:J2)(a b:V):=Rc G k0 (A 0) a b
def qP(G:Gt):Nat→V→V→M→R
 |0,_,_,_=>none
 |i+1,b,a,m=>(F 4 a λc=>N (aM 1 c) λd=>E (ji b d) (Rb G (qP G i) a b) (IX G a)) m
def Rg:=qP G G.bx a b
def IW:=Rg G (A 0) a
def Ac(G:Gt):Nat→V→V→M→R
 |0,_,_,_=>none
 |i+1,b,a,m=>(F 3 a λc=>N (aM 1 c) λd=>E (ji b d) (F 3 a λe=>jb 11 e b λf=>jf 0 f (D [63]) (B (ja b (A 1)) λg=>(Ac G i) g a)) (IW G a)) m
def Rf:=Ac G G.bx a b
def RY:=Rf G (A 0) a
def Dy:=U iH (Value.cells a).toList λb=>RY G b
def Qsc:En:=⟨_,_,func7,by kernel_rfl,_,cg (s:=Dy) λG a m=>Xx (r:=v1 (Dy G) 0) rfl rfl (ts (v1 (RY G) 1) (tr (tr (aJ (f:=v1 (IW G) 1) (tr (tr (aJ (f:=v1 (IX G) 1) (tr (tr (aJ (f:=v1 (IZ G) 1) (ts (v2 (R0 G) 7 1) (tr (Xo (bK (λi r m=>Am G i (r 7) (r 1) m) (λ_ _=>rfl) (λb=>λr m=>by kernel_rfl)))))) (aJ (f:=v2 (RZ G) 5 1) (tr (Xo (bK (λi r m=>qT G i (r 5) (r 1) m) (λ_ _=>rfl) (λb=>tr (aJ (f:=v2 (RX G (qT G b)) 1 5) (tr (tr (aJ (f:=v2 (IY G (qT G b)) 5 1)) (Xo (aJ (f:=v3 (Re G (qT G b)) 6 1 5) (tr (Xo (bK (λi r m=>Ae G (qT G b) i (r 6) (r 1) (r 5) m) (λ_ _=>rfl) (λc=>λr m=>by kernel_rfl))))))))))))))))) (aJ (f:=v2 (Rg G) 3 1) (tr (Xo (bK (λi r m=>qP G i (r 3) (r 1) m) (λ_ _=>rfl) (λb=>tr (aJ (f:=v2 (Rb G (qP G b)) 1 3) (tr (tr (aJ (f:=v2 (Ia G (qP G b)) 3 1)) (Xo (aJ (f:=v3 (Rc G (qP G b)) 4 1 3) (tr (Xo (bK (λi r m=>Ad G (qP G b) i (r 4) (r 1) (r 3) m) (λ_ _=>rfl) (λc=>λr m=>by kernel_rfl))))))))))))))))) (aJ (f:=v2 (Rf G) 2 1) (tr (Xo (bK (λi r m=>Ac G i (r 2) (r 1) m) (λ_ _=>rfl) (λb=>λr m=>by kernel_rfl)))))))) m⟩
def AK(G:Gt)(b a:V):=B (Xc Q2 [(0,1),(1,1)] []) λc=>jl (Xe 2 a c) λ_=>λm=>ob (ob (ob (X9 true 2 a m) λv=>ob (some [(A 0)]) λl=>some (v::l)) λl=>some (b::l)) λl=>some (bZ l,m)
def AL(G:Gt)(k0:J5)(a b c d e:V):=B (ja a (A 1)) λf=>k0 f b c d e
def JV(k0:J5)(a b c d e f:V):=jd true 2 b λg=>jm AS ue 2 32 a g λh=>AL G k0 c d e h f
def Eg(G:Gt)(k0:J5):Nat→V→V→V→V→V→V→V→V→V→M→R
 |0,_,_,_,_,_,_,_,_,_,_=>none
 |i+1,b,d,a,e,f,g,h,j,l,m=>(E (bin .neq true true .str b (D [])) (N (aM 0 d) λn=>N (aM 0 b) λo=>B (bin .sub false true .int n o) λp=>B (ja p (A 1)) λq=>C G uc [b,(D [32])] λc=>jg c 0 λs=>jg c 1 λt=>jg c 2 λI=>F 1 a λu=>B (ja e (A 1)) λv=>B (Xc Q2 [(0,1),(1,1)] [(0,v),(1,q)]) λw=>B (Xc xM [(0,1),(1,2)] [(0,s),(1,w)]) λx=>jm Kj xM 3 32 u x λy=>jf 1 a y (C G AE [t,(D [32])] λz=>(Eg G k0 i) z d a e f g h j l)) (JV G k0 f a g h j l)) m
def Qyk(k0:J5)(a b c d e f g h j:V):=Eg G k0 G.bx a b c d e f g h j
def TV(k0:J5)(a b c d e f g h:V):=N (aM 0 a) λl=>N (aM 0 b) λn=>B (bin .sub false true .int l n) λo=>B (Xc ue [(0,1),(1,1)] [(0,o)]) λp=>U AS ue λj=>Y 2 j p (Qyk G k0 b a j c d e f g h)
def JW(k0:J5)(a b c d e f g h j:V):=L a (AL G k0 b c d e f) (TV G k0 g h j e b c d f)
def TW(k0:J5)(a b c d e f g h:V):=E (P a (D [])) (JW G k0 jh b c d e f g a h) (B (Xi a (A 0)) λj=>B (jk j (.int .u8 33)) λl=>JW G k0 l b c d e f g a h)
def Ud(k0:J5)(a b c d e f g:V):=C G AE [a,(D [32])] λh=>TW G k0 h b c d e f a g
def Ue(k0:J5)(a b c d e:V):=jt 1 b a λf=>Ud G k0 f a c b d e a
def Kc(k0:J5)(a b c d e f:V):=L a (Ue G k0 b c d e f) (AK G e f)
def kq(G:Gt):Nat→V→V→V→V→V→M→R
 |0,_,_,_,_,_,_=>none
 |i+1,a,b,c,d,e,m=>(B (ji a b) λf=>Kc G (kq G i) f a c b d e) m
def Uf:=kq G G.bx a b c d e
def Ug:=C G D6 [a,(D [10])] λd=>N (aM 1 d) λe=>Uf G (A 0) e d b c
def Uh:=Ug G a (.slice none 0 0) b
def Kd:=C G Kb [a] λc=>jg c 0 λf=>jg c 1 λd=>U Q7 Q2 λe=>Y 2 e f (E (bin .neq true true .int d (A 0)) (jd true 2 e λg=>jl (Xe 2 b g) λ_=>λm=>ob (ob (ob (X9 true 2 b m) λv=>ob (some [d]) λl=>some (v::l)) λl=>some ((.slice none 0 0)::l)) λl=>some (bZ l,m)) (Uh G a b))
def AN:=U Q7 Q2 λb=>Kd G a b
def ZE:En:=⟨_,_,func8,by kernel_rfl,_,cg (s:=AN) λG a m=>Xx (r:=v1 (AN G) 0) rfl rfl (ts (v2 (Kd G) 0 3) (ts (v2 (Uh G) 0 3) (ts (v3 (Ug G) 0 7 3) (tr (tr (aJ (f:=v2 (AK G) 7 3)) (aJ (f:=v5 (Uf G) 28 27 26 7 3) (tr (Xo (bK (λi r m=>kq G i (r 28) (r 27) (r 26) (r 7) (r 3) m) (λ_ _=>rfl) (λb=>tr (aJ (f:=v6 (Kc G (kq G b)) 29 28 26 27 7 3) (ts (v5 (Ue G (kq G b)) 28 26 27 7 3) (tr (tr (aJ (f:=v5 (AL G (kq G b)) 28 27 26 7 3)) (Xo (aJ (f:=v7 (Ud G (kq G b)) 9 28 27 26 7 3 8) (ts (v8 (TW G (kq G b)) 10 28 27 26 7 3 9 8) (tr (tr (aJ (f:=v8 (TV G (kq G b)) 9 10 8 7 28 27 26 3) (ts (v9 (Qyk G (kq G b)) 10 9 11 8 7 28 27 26 3) (tr (tr (aJ (f:=v6 (JV G (kq G b)) 7 11 28 27 26 3)) (Xo (bK (λi r m=>Eg G (kq G b) i (r 10) (r 9) (r 11) (r 8) (r 7) (r 28) (r 27) (r 26) (r 3) m) (λ_ _=>rfl) (λc=>λr m=>by kernel_rfl))))))) (aJ (f:=v9 (JW G (kq G b)) 41 28 27 26 7 3 9 10 8))))))))))))))))))))) m⟩
def Ja:=je 0 a λd=>C G Qr [b] λc=>E (P c (D lD)) (C G Qo [b] λg=>Z 0 d g (H (js (D lD)) λh=>jp G zW [a,h])) (E (P c (D jB)) (C G Qo [b] λe=>H (jr (D jB) e) λj=>C G zW [a,j] λz=>jc 2 d λl=>jm Qc [(D [])] 1 16 l e λn=>Z 2 d n (jq)) (E (P c (D sf)) (C G Qo [b] λf=>H (jr (D sf) f) λo=>C G vo [a,(.func (.func HP) ⟨[a]⟩ ⟨[]⟩),o] λI=>jc 3 d λp=>B (Xc vA [(0,1),(1,1),(2,1),(3,1),(4,1),(5,1),(6,1),(7,1),(8,1),(9,1),(10,1)] [(0,f),(8,(A (-1))),(9,(A 10))]) λq=>jm Ek vA 11 120 p q λs=>Z 3 d s (jq)) (E (P c (D [105,112])) (jp G Sf [a,b]) (E (P c (D dH)) (C G Qo [b] λt=>H (X8 fJ [(.int .u8 0)] 1 3 [(0,(.int .u8 1)),(1,(.int .u8 0)),(2,(.int .u8 2))]) λu=>H (ju (D dq) (D dP) (D lE)) λv=>C G nK [b,v] λw=>jt 1 u w λx=>C G Q4 [b,(A 1),(A 65535)] λy=>jp G Pq [a,t,x,y]) (E (P c (D lW)) (jp G Ps [a,b]) (jp G Qd [b,(A 130)]))))))
def Qv4:En:=⟨_,_,func9,by kernel_rfl,_,cT (s:=Ja) λG a b m=>Xk (r:=v2 (Ja G) 0 1) rfl rfl m⟩
def Ap(G:Gt)(b a c:V):=U Q7 (Value.cells b).toList λd=>jc 4 a λe=>E (jk e (A 0)) (jd true 2 d λf=>je 2 a λg=>Y 2 g f (Z 4 a c (jq))) (jq)
def Qu5:En:=⟨_,_,func10,by kernel_rfl,_,mU (s:=(λG a b c=>Ap G b a c)) λG a b c m=>Xk (r:=v3 (Ap G) 1 0 2) rfl rfl m⟩
def SD(G:Gt)(a:V):=K a
def Qrn(G:Gt)(a:V)(m:M):R:=bp (aI (Xu a) m) λb m=>bp (aI (Xm 4 b) m) λc m=>bp (aI (X9 false 1 c m) m) λd m=>bp (aI (bin .eql true true .int d (.int .i64 0)) m) λe m=>sZ e (bp (aI (Xu a) m) λf m=>bp (aI (Xm 1 f) m) λg m=>bp (aI (X9 false 1 g m) m) λh m=>bp (aI (Xu a) m) λj m=>bp (aI (Xm 0 j) m) λl m=>bp (aI (X9 false 1 l m) m) λn m=>bp (aI (aM 1 n m) m) λo m=>bp (aI (bin .lss false true .int h o) m) λp m=>SD G p m) (SD G (.bool false) m) (none)
def Is:=Qrn G a
def Qtr:En:=⟨_,_,func11,by kernel_rfl,_,cg (s:=Is) λG a m=>Xk (r:=v1 (Is G) 0) rfl rfl m⟩
end
end Go.Ab.Sh

set_option maxRecDepth 100000
namespace Go.Ab.Sh
open Go Go.Ab Go.Proofs Go.Proofs.Tryz
noncomputable section
variable (G:Gt)(k0:J3)(a b c d e f g h j l n o p q s t u v w x y z:V)
def Al(G:Gt)(b a:V):=B (Xc Q2 [(0,1),(1,1)] []) λc=>jl (Xe 2 a c) λ_=>λm=>ob (ob (ob (X9 true 2 a m) λv=>ob (some [(A 0)]) λl=>some (v::l)) λl=>some (b::l)) λl=>some (bZ l,m)
def H8(G:Gt)(k0:J6)(a b c d e f:V):=B (ja a (A 1)) λg=>k0 g b c d e f
def H7(k0:J6)(a b c d e:V):=B (ja a (A 1)) λf=>B (ja b (A 1)) λg=>H8 G k0 a c f g d e
def QZ(k0:J6)(a b c d e f g:V):=L a (jd true 2 c λh=>jm ub ua 2 32 b h λj=>H7 G k0 d e f j g) (H7 G k0 d e f b g)
def Qp1(k0:J6)(a b c d e f:V):=F 1 a λg=>N (aM 1 g) λh=>E (bin .gtr true true .int h (A 0)) (F 1 a λj=>jb 3 j (A 0) λl=>F 0 l λn=>B (Xi n (A 0)) λo=>B (bin .neq true true .int o (.int .u8 33)) λp=>QZ G k0 p b a c d e f) (QZ G k0 jj b a c d e f)
def QY(k0:J6)(a b c d e f:V):=B (gH a (some b) (some c)) λh=>C G PY [h,d] λj=>U ub ua λg=>Y 2 g j (Qp1 G k0 g e c d a f)
def Ra(k0:J6)(a b c d e f g:V):=L a (H8 G k0 b c d e f g) (QY G k0 c d b e f g)
def Qpt(k0:J6)(a b c d e f:V):=N (aM 0 b) λg=>E (ji a g) (B (Xi b a) λh=>B (bin .neq true true .int h (.int .u8 10)) λj=>Ra G k0 j a b c d e f) (Ra G k0 jj a b c d e f)
def vm(G:Gt):Nat→V→V→V→V→V→V→M→R
 |0,_,_,_,_,_,_,_=>none
 |i+1,a,b,e,f,c,d,m=>(N (aM 0 b) λg=>E (bin .leq false true .int a g) (Qpt G (vm G i) a b e f c d) (Al G c d)) m
def RP:=vm G G.bx a b c d e f
def RO:=RP G (A 0) a b c d e
def RN:=RO G a b (A 1) c d
def RM:=RN G a (A 0) b c
def RL:=RM G a (.slice none 0 0) b
def DP:=E (bin .neq true true .int a (A 0)) (jd true 2 b λe=>jl (Xe 2 c e) λ_=>λm=>ob (ob (ob (X9 true 2 c m) λv=>ob (some [a]) λl=>some (v::l)) λl=>some ((.slice none 0 0)::l)) λl=>some (bZ l,m)) (RL G d c)
def Qio:=C G HU [a] λd=>jg d 0 λe=>jg d 1 λf=>U Q7 Q2 λc=>Y 2 c e (DP G f c b a)
def Ai:=U Q7 Q2 λb=>Qio G a b
def Qsd:En:=⟨_,_,func15,by kernel_rfl,_,cg (s:=Ai) λG a m=>Xx (r:=v1 (Ai G) 0) rfl rfl (ts (v2 (Qio G) 0 3) (ts (v4 (DP G) 6 5 3 0) (ts (v2 (RL G) 0 3) (ts (v3 (RM G) 0 7 3) (ts (v4 (RN G) 0 8 7 3) (ts (v5 (RO G) 0 8 9 7 3) (tr (tr (aJ (f:=v2 (Al G) 7 3)) (aJ (f:=v6 (RP G) 10 0 8 9 7 3) (tr (Xo (bK (λi r m=>vm G i (r 10) (r 0) (r 8) (r 9) (r 7) (r 3) m) (λ_ _=>rfl) (λb=>λr m=>by kernel_rfl))))))))))))) m⟩
def Cy:=C G Qf [a] λc=>E (P c (D lD)) (C G Qa [a] λh=>je 0 b λj=>jf 0 j h (jp G tT [b,(D lD)])) (E (P c (D jB)) (C G Qa [a] λd=>B (bin .add true true .str (D Gi) d) λl=>C G tT [b,l] λU=>je 0 b λn=>F 2 n λo=>jm Qc [(D [])] 1 16 o d λp=>je 0 b λq=>jf 2 q p (jq)) (E (P c (D sf)) (C G Qa [a] λe=>B (bin .add true true .str (D Gk) e) λs=>C G Qs [b,(D sf),s] λX=>je 0 b λt=>F 3 t λu=>B (Xc vA [(0,1),(1,1),(2,1),(3,1),(4,1),(5,1),(6,1),(7,1),(8,1),(9,1),(10,1)] [(0,e),(8,(A (-1))),(9,(A 10))]) λv=>jm Ek vA 11 120 u v λw=>je 0 b λx=>jf 3 x w (jq)) (E (P c (D [105,112])) (jp G Ou [b,a]) (E (P c (D dH)) (C G Qa [a] λy=>C G Q5 [a,(D dq),(D dP),(D lE)] λz=>C G Q1 [a,(A 1),(A 65535)] λI=>jp G N3 [b,y,z,I]) (E (P c (D lW)) (C G Q5 [a,(D gZ),(D dZ),(D dZ)] λQ=>E (P Q (D gZ)) (C G C4 [a] λf=>B (bin .add true true .str (D Gm) f) λS=>C G Qs [b,(D gZ),S] λY=>je 0 b λW=>F 10 W λi=>B (Xc AQ [(0,1),(1,1),(2,1)] [(0,f)]) λk=>jm Ut AQ 3 48 i k λm=>je 0 b λr=>jf 10 r m (jq)) (C G Q1 [a,(A 1),(A 4294967295)] λJ=>C G C4 [a] λg=>B (bin .add true true .str (D wU) g) λK=>C G Qs [b,(D dZ),K] λZ=>je 0 b λL=>F 11 L λM=>H (conv (.int .u32) J) λN=>B (Xc sD [(0,1),(1,1),(2,1),(3,1),(4,1),(5,1)] [(0,g),(1,N)]) λO=>jm xN sD 6 96 M O λR=>je 0 b λT=>jf 11 T R (jq))) (jp G Q3 [a,(A 130)]))))))
def ZX:En:=⟨_,_,func16,by kernel_rfl,_,cT (s:=(λG a b=>Cy G b a)) λG a b m=>Xk (r:=v2 (Cy G) 1 0) rfl rfl m⟩
def GJ:=jc 12 a λc=>E (P c (D sf)) (je 0 a λh=>F 3 h λj=>je 0 a λl=>F 3 l λn=>N (aM 1 n) λo=>B (bin .sub true true .int o (A 1)) λp=>jb 11 j p λq=>jp G N6 [a,b,q]) (E (P c (D jC)) (je 0 a λs=>F 4 s λt=>je 0 a λu=>F 4 u λv=>N (aM 1 v) λw=>B (bin .sub true true .int w (A 1)) λx=>jb 2 t x λy=>jp G Oa [a,b,y]) (E (P c (D dH)) (je 0 a λz=>F 9 z λI=>jc 14 a λQ=>jb 3 I Q λS=>F 1 S λe=>N (aM 1 e) λW=>B (bin .sub true true .int W (A 1)) λi=>jb 15 e i λk=>jp G Oq [a,b,k]) (E (P c (D gZ)) (je 0 a λm=>F 10 m λr=>je 0 a λH=>F 10 H λJ=>N (aM 1 J) λK=>B (bin .sub true true .int K (A 1)) λL=>jb 3 r L λd=>C G Q5 [b,(D pU),(D qL),(D qL)] λM=>E (P M (D pU)) (C G Ql [b] λR=>Z 1 d R (jp G Qj [a,(D pU)])) (je 2 d λf=>X f λg=>C G CG [b,(D dZ),(.int .u8 8)] λT=>jn (O false 1 f g jo) (jm pY ku 4 40 g T λU=>Z 2 d U (jq)))) (E (P c (D dZ)) (je 0 a λY=>F 11 Y λxq=>je 0 a λxs=>F 11 xs λxt=>N (aM 1 xt) λxu=>B (bin .sub true true .int xu (A 1)) λxv=>jb 6 xq xv λxw=>jp G Oo [a,b,xw]) (jq)))))
def Qlg:En:=⟨_,_,func17,by kernel_rfl,_,cT (s:=GJ) λG a b m=>Xk (r:=v2 (GJ G) 0 1) rfl rfl m⟩
def Pj(G:Gt)(a:V):=K a
def Qlm(G:Gt)(a:V)(m:M):R:=bp (aI (Xu a) m) λb m=>bp (aI (Xm 4 b) m) λc m=>bp (aI (X9 false 1 c m) m) λd m=>bp (aI (bin .eql true true .int d (.int .i64 0)) m) λe m=>sZ e (bp (aI (Xu a) m) λf m=>bp (aI (Xm 1 f) m) λg m=>bp (aI (X9 false 1 g m) m) λh m=>bp (aI (Xu a) m) λj m=>bp (aI (Xm 0 j) m) λl m=>bp (aI (X9 false 1 l m) m) λn m=>bp (aI (aM 1 n m) m) λo m=>bp (aI (bin .lss false true .int h o) m) λp m=>Pj G p m) (Pj G (.bool false) m) (none)
def G3:=Qlm G a
def Qnr:En:=⟨_,_,func18,by kernel_rfl,_,cg (s:=G3) λG a m=>Xk (r:=v1 (G3 G) 0) rfl rfl m⟩
def G8(G:Gt)(a:V):=jc 4 a λc=>E (bin .neq true true .int c (A 0)) (K (D [])) (jc 1 a λd=>jc 0 a λe=>N (aM 1 e) λf=>E (bin .eql false true .int d f) (jc 0 a λg=>jc 0 a λh=>N (aM 1 h) λj=>B (bin .sub true true .int j (A 1)) λl=>jb 3 g l λn=>jd true 3 n λo=>U D5 xD λb=>Y 3 b o (Z 4 a (A 130) (T 1 b λp=>F 0 p λq=>T 1 b λs=>F 1 s λt=>F 0 b λu=>N (aM 0 u) λv=>B (bin .add false true .int t v) λw=>B (Xc Q2 [(0,1),(1,1)] [(0,q),(1,w)]) λx=>je 2 a λy=>Y 2 y x (K (D []))))) (jc 1 a λz=>B (ja z (A 1)) λI=>Z 1 a I (jc 0 a λQ=>jc 1 a λS=>B (bin .sub true true .int S (A 1)) λW=>jb 3 Q W λi=>F 0 i λk=>K k)))
def Qnl:En:=⟨_,_,func19,by kernel_rfl,_,cg (s:=G8) λG a m=>Xk (r:=v1 (G8 G) 0) rfl rfl m⟩
def GV(G:Gt)(a b:V):=jc 4 a λc=>E (jk c (A 0)) (Z 4 a b (jc 0 a λd=>jc 1 a λe=>B (bin .sub true true .int e (A 1)) λf=>jb 3 d f λg=>jv true 2 1 g λh=>je 2 a λj=>Y 2 j h (jq))) (jq)
def Qmq:En:=⟨_,_,func20,by kernel_rfl,_,cT (s:=GV) λG a b m=>Xk (r:=v2 (GV G) 0 1) rfl rfl m⟩
end
end Go.Ab.Sh

set_option maxRecDepth 100000
namespace Go.Ab.Sh
open Go Go.Ab Go.Proofs Go.Proofs.Tryz
noncomputable section
variable (G:Gt)(k0:J3)(a b c d e f g h j l n o p q s t u v w x y z:V)
def Qp3(G:Gt)(a:V):=K a
def Ig(G:Gt)(k0:J3)(a b c d:V):=B (qc 15 a none (some b)) λe=>H (dn nL 15 168 (.slice none 0 0) e) λf=>jb 15 c d λg=>jd true 15 g λh=>jm nL qW 15 168 f h λj=>B (qc 15 a (some b) none) λl=>H (dn nL 15 168 j l) λn=>B (ja d (A 1)) λo=>k0 o c n
def Rk(G:Gt)(g:J4)(k0:J3)(e a b c d:V):=L e (B (bin .sub true true .int a (A 1)) λf=>g f b c d) (Ig G k0 b a c d)
def Ah(G:Gt)(k0:J3):Nat→V→V→V→V→M→R
 |0,_,_,_,_,_=>none
 |i+1,a,b,c,d,m=>bp (aI (bin .gtr true true .int a (.int .i64 0)) m) λe m=>sZ e (bp (aI (bin .sub true true .int a (.int .i64 1)) m) λf m=>bp (aI (Xd 15 b f) m) λg m=>bp (aI (Xm 0 g) m) λh m=>bp (aI (X9 false 1 h m) m) λj m=>bp (aI (Xd 15 c d) m) λl m=>bp (aI (Xm 0 l) m) λn m=>bp (aI (X9 false 1 n m) m) λo m=>bp (aI (bin .gtr false true .int j o) m) λp m=>Rk G (Ah G k0 i) k0 p a b c d m) (Rk G (Ah G k0 i) k0 (.bool false) a b c d m) (none)
def Rm:=Ah G k0 G.bx a b c d
def Rn:=N (aM 1 a) λd=>Rm G k0 d a b c
def qR(G:Gt):Nat→V→V→V→M→R
 |0,_,_,_,_=>none
 |i+1,a,b,c,m=>(N (aM 1 b) λd=>E (ji a d) (Rn G (qR G i) c b a) (Qp3 G c)) m
def Ro:=qR G G.bx a b c
def Rp:=Ro G (A 0) a b
def Rq:=Rp G a (.slice none 0 0)
def Dr:=Rq G a
def Qre:En:=⟨_,_,func21,by kernel_rfl,_,cg (s:=Dr) λG a m=>Xx (r:=v1 (Dr G) 0) rfl rfl (ts (v1 (Rq G) 0) (ts (v2 (Rp G) 0 3) (tr (tr (aJ (f:=v1 (Qp3 G) 3)) (aJ (f:=v3 (Ro G) 4 0 3) (tr (Xo (bK (λi r m=>qR G i (r 4) (r 0) (r 3) m) (λ_ _=>rfl) (λb=>tr (aJ (f:=v3 (Rn G (qR G b)) 3 0 4) (tr (tr XrZ (Xo (aJ (f:=v4 (Rm G (qR G b)) 5 3 0 4) (tr (tr (aJ (f:=v4 (Ig G (qR G b)) 3 5 0 4)) (Xo (bK (λi r m=>Ah G (qR G b) i (r 5) (r 3) (r 0) (r 4) m) (λ_ _=>rfl) (λc=>λr m=>by kernel_rfl))))))))))))))))))) m⟩
def Sj(G:Gt)(a:V):=B (bin .add true true .str a (D [41])) λb=>K b
def As(G:Gt):Nat→V→V→V→M→R
 |0,_,_,_,_=>none
 |i+1,a,b,c,m=>(N (aM 1 b) λf=>E (ji a f) (jt 1 b a λg=>N (aM 0 g) λh=>jb 1 b a λd=>X d λe=>C G oX [h] λj=>jn (O false 1 d e jo) (B (bin .add false true .str c j) λl=>B (bin .add true true .str l (D [58])) λn=>B (bin .add false true .str n e) λo=>B (ja a (A 1)) λp=>(As G i) p b o)) (Sj G c)) m
def Sn:=As G G.bx a b c
def Jc:=Sn G (A 0) a b
def Au(G:Gt):Nat→V→V→V→V→M→R
 |0,_,_,_,_,_=>none
 |i+1,a,b,c,d,m=>(N (aM 1 b) λe=>E (ji a e) (jt 1 b a λf=>C G oX [f] λg=>B (bin .add false true .str c g) λh=>B (bin .add true true .str h (D [44])) λj=>B (ja a (A 1)) λl=>(Au G i) l b j d) (Jc G d c)) m
def Sm:=Au G G.bx a b c d
def Sl:=Sm G (A 0) a b c
def Sk:=Sl G a (D [40]) b
def Il:=Sk G a b
def Qu9:En:=⟨_,_,func22,by kernel_rfl,_,cT (s:=Il) λG a b m=>Xx (r:=v2 (Il G) 0 1) rfl rfl (ts (v2 (Sk G) 0 1) (ts (v3 (Sl G) 0 5 1) (tr (tr (aJ (f:=v2 (Jc G) 1 5) (tr (tr (aJ (f:=v1 (Sj G) 5)) (aJ (f:=v3 (Sn G) 7 1 5) (tr (Xo (bK (λi r m=>As G i (r 7) (r 1) (r 5) m) (λ_ _=>rfl) (λc=>λr m=>by kernel_rfl)))))))) (aJ (f:=v4 (Sm G) 6 0 5 1) (tr (Xo (bK (λi r m=>Au G i (r 6) (r 0) (r 5) (r 1) m) (λ_ _=>rfl) (λc=>λr m=>by kernel_rfl))))))))) m⟩
def I3(G:Gt)(a:V):=L a (K (A 1)) (K (A 0))
def Qv3:En:=⟨_,_,func23,by kernel_rfl,_,cg (s:=I3) λG a m=>Xk (r:=v1 (I3 G) 0) rfl rfl m⟩
def Dc(G:Gt)(a:V):=H (conv .str a) λb=>K b
def HE(G:Gt)(k0:J3)(a b c:V):=B (ja a (A 1)) λd=>k0 d b c
def Hx(G:Gt)(k0:J3):Nat→V→V→V→V→V→M→R
 |0,_,_,_,_,_,_=>none
 |i+1,a,b,c,d,e,m=>(F 1 b λl=>N (aM 1 l) λn=>E (ji a n) (F 1 b λo=>jb 2 o a λp=>F 0 p λq=>T 1 b λf=>X f λg=>jb 2 g a λs=>T 1 s λh=>X h λj=>C G oZ [q] λt=>jn (O false 1 f g (O false 1 h j jo)) (H (X8 cS [(A 0)] 1 1 [(0,t)]) λu=>C G Df [j] λv=>H (dn cS 1 8 u v) λw=>C G Qi [w,(.slice none 0 0)] λx=>H (fP fJ 1 1 c x) λy=>B (ja a (A 1)) λz=>(Hx G k0 i) z b y d e)) (HE G k0 d e c)) m
def Pg:=Hx G k0 G.bx a b c d e
def PE:=Pg G k0 (A 0) a b c d
def PC:=F 1 b λe=>N (aM 1 e) λf=>H (X8 cS [(A 0)] 1 1 [(0,f)]) λg=>F 0 b λh=>H (js h) λj=>C G Qi [g,j] λl=>H (fP fJ 1 1 a l) λn=>PE G k0 b n c d
def PB:=F 8 a λe=>jb 2 e b λf=>jd true 2 f λg=>U vt tZ λd=>Y 2 d g (PC G k0 c d b a)
def qO(G:Gt):Nat→V→V→V→M→R
 |0,_,_,_,_=>none
 |i+1,a,b,c,m=>(F 8 b λd=>N (aM 1 d) λe=>E (ji a e) (PB G (qO G i) b a c) (Dc G c)) m
def PI:=qO G G.bx a b c
def Db:=PI G (A 0) a b
def Hw(G:Gt)(k0:J3)(a b c:V):=B (ja a (A 1)) λd=>k0 d b c
def Hv(G:Gt)(k0:J3):Nat→V→V→V→V→V→M→R
 |0,_,_,_,_,_,_=>none
 |i+1,b,c,d,e,f,m=>(F 1 c λs=>N (aM 1 s) λt=>E (ji b t) (F 1 c λu=>jb 5 u b λv=>jd true 5 v λw=>U ud mI λa=>Y 5 a w (F 0 a λx=>T 1 a λy=>T 0 y λg=>X g λh=>H (conv (.int .i64) h) λz=>T 1 a λI=>T 1 I λj=>X j λl=>T 3 a λn=>X n λo=>T 4 a λp=>X p λq=>C G oZ [x] λQ=>jn (O false 1 g h (O false 1 j l (O false 1 n o (O false 1 p q jo)))) (H (X8 cS [(A 0)] 1 5 [(0,Q),(1,z),(2,l),(3,o),(4,q)]) λS=>C G Qi [S,(.slice none 0 0)] λW=>H (fP fJ 1 1 d W) λk=>B (ja b (A 1)) λr=>(Hv G k0 i) r c k e f))) (Hw G k0 e f d)) m
def Pf:=Hv G k0 G.bx a b c d e
def Pe:=Pf G k0 (A 0) a b c d
def Pd:=F 1 b λe=>N (aM 1 e) λf=>H (X8 cS [(A 0)] 1 1 [(0,f)]) λg=>F 0 b λh=>H (js h) λj=>C G Qi [g,j] λl=>H (fP fJ 1 1 a l) λn=>Pe G k0 b n c d
def Pc:=F 7 a λe=>jb 2 e b λf=>jd true 2 f λg=>U vv vu λd=>Y 2 d g (Pd G k0 c d b a)
def Qx(G:Gt):Nat→V→V→V→M→R
 |0,_,_,_,_=>none
 |i+1,b,a,c,m=>(F 7 a λd=>N (aM 1 d) λe=>E (ji b e) (Pc G (Qx G i) a b c) (Db G a c)) m
def Ph:=Qx G G.bx a b c
def PH:=Ph G (A 0) a b
def PG:=PH G a (.slice none 0 0)
def Hi:=U iH (Value.cells a).toList λb=>PG G b
def Qo7:En:=⟨_,_,func24,by kernel_rfl,_,cg (s:=Hi) λG a m=>Xx (r:=v1 (Hi G) 0) rfl rfl (ts (v1 (PG G) 1) (ts (v2 (PH G) 1 3) (tr (tr (aJ (f:=v2 (Db G) 1 3) (tr (tr (aJ (f:=v1 (Dc G) 3)) (aJ (f:=v3 (PI G) 8 1 3) (tr (Xo (bK (λi r m=>qO G i (r 8) (r 1) (r 3) m) (λ_ _=>rfl) (λb=>tr (aJ (f:=v3 (PB G (qO G b)) 1 8 3) (tr (tr (aJ (f:=v3 (HE G (qO G b)) 8 1 3)) (Xo (aJ (f:=v4 (PC G (qO G b)) 3 9 8 1) (ts (v4 (PE G (qO G b)) 9 3 8 1) (ts (v5 (Pg G (qO G b)) 10 9 3 8 1) (tr (Xo (bK (λi r m=>Hx G (qO G b) i (r 10) (r 9) (r 3) (r 8) (r 1) m) (λ_ _=>rfl) (λc=>λr m=>by kernel_rfl))))))))))))))))))) (aJ (f:=v3 (Ph G) 4 1 3) (tr (Xo (bK (λi r m=>Qx G i (r 4) (r 1) (r 3) m) (λ_ _=>rfl) (λb=>tr (aJ (f:=v3 (Pc G (Qx G b)) 1 4 3) (tr (tr (aJ (f:=v3 (Hw G (Qx G b)) 4 1 3)) (Xo (aJ (f:=v4 (Pd G (Qx G b)) 3 5 4 1) (ts (v4 (Pe G (Qx G b)) 5 3 4 1) (ts (v5 (Pf G (Qx G b)) 6 5 3 4 1) (tr (Xo (bK (λi r m=>Hv G (Qx G b) i (r 6) (r 5) (r 3) (r 4) (r 1) m) (λ_ _=>rfl) (λc=>λr m=>by kernel_rfl)))))))))))))))))))) m⟩
end
end Go.Ab.Sh
