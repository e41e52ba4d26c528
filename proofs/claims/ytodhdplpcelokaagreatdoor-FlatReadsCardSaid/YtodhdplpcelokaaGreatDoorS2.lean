/-
  Functions of the program as plain definitions. No conditions.
-/
import Derived.Test.YtodhdplpcelokaaGreatDoorAb5
import Derived.Test.YtodhdplpcelokaaGreatDoorZ
import Derived.KernelRfl
import Derived.Test.YtodhdplpcelokaaGreatDoorProg
set_option linter.all false
set_option maxRecDepth 100000
namespace Go.Ab.Sh
open Go Go.Ab Go.Proofs Go.Proofs.Tryz
noncomputable section
variable (G:Gt)(k0:J3)(a b c d e f g h j l n o p q s t u v w x y z:V)
def OG(G:Gt)(b a:V):=jd true 4 b λc=>jl (Xe 4 a c) λ_=>λm=>ob (ob (X9 true 4 a m) λv=>ob (some []) λl=>some (v::l)) λl=>some (bZ l,m)
def CV:=C G Q6 [a,(D dH)] λd=>L d (C G Qa [a] λe=>jf 3 b e (OG G b c)) (OG G b c)
def He:=E (P a (D dZ)) (jf 2 b (.int .u8 2) (C G Q6 [c,(D zy)] λe=>L e (C G Q1 [c,(A 1),(A 2)] λf=>H (conv (.int .u8) f) λg=>jf 2 b g (CV G c b d)) (CV G c b d))) (CV G c b d)
def CW:=C G Q6 [a,(D oV)] λe=>L e (C G Q1 [a,(A 0),(A 16777216)] λf=>jf 1 b f (He G c b a d)) (He G c b a d)
def Z9:=C G Q5 [a,(D qJ),(D qK),b] λe=>E (P e (D qJ)) (jf 0 c (.int .u8 1) (CW G a c b d)) (E (P e (D qK)) (jf 0 c (.int .u8 2) (CW G a c b d)) (CW G a c b d))
def Z8:=B (Xc ku [(0,1),(1,1),(2,1),(3,1)] [(0,a),(1,(A (-1)))]) λf=>U pY ku λe=>Y 4 e f (Z9 G b c e d)
def CH:=U pY ku λd=>Z8 G a b c d
def Qlj:En:=⟨_,_,func61,by kernel_rfl,_,mU (s:=(λG a b c=>CH G c a b)) λG a b c m=>Xk (r:=v3 (CH G) 2 0 1) rfl rfl m⟩
def CS:=C G Qf [a] λd=>E (P d (D pU)) (C G Ql [a] λh=>Z 2 b h (jp G Qj [c,(D pU)])) (E (P d (D ND)) (C G C3 [a,jj] λj=>U Qe Q9 λe=>Y 2 e j (jd true 2 e λl=>C G GY [l] λn=>B (bin .add true true .str (D NF) n) λo=>C G Qj [c,o] λv=>jc 3 b λp=>jd true 2 e λq=>jm Qe Q9 2 16 p q λs=>Z 3 b s (jq))) (E (P d (D zG)) (jp G N1 [c,a,b]) (E (P d (D qL)) (je 5 b λf=>X f λg=>C G CG [a,(D gZ),(.int .u8 4)] λt=>jn (O false 1 f g jo) (jm pY ku 4 40 g t λu=>Z 5 b u (jq))) (jp G Q3 [a,(A 130)]))))
def Qnt:En:=⟨_,_,func62,by kernel_rfl,_,mU (s:=(λG a b c=>CS G b c a)) λG a b c m=>Xk (r:=v3 (CS G) 1 2 0) rfl rfl m⟩
def zY:=E (bin .lss true true .int a (A 0)) (B (ja a (A 1)) λb=>B (un .neg b) λc=>H (conv (.int .u64) c) λd=>B (ja d (.int .u64 1)) λe=>C G zX [e] λf=>B (bin .add true true .str (D [45]) f) λg=>K g) (H (conv (.int .u64) a) λh=>C G zX [h] λj=>K j)
def Qra:En:=⟨_,_,func63,by kernel_rfl,_,cg (s:=zY) λG a m=>Xk (r:=v1 (zY G) 0) rfl rfl m⟩
def Qoj(G:Gt)(a:V):=K a
def w8(G:Gt):Nat→V→V→V→M→R
 |0,_,_,_,_=>none
 |i+1,a,b,c,m=>(N (aM 1 b) λd=>E (ji a d) (jt 1 b a λe=>H (conv (.int .i64) e) λf=>jm cS [(A 0)] 1 8 c f λg=>B (ja a (A 1)) λh=>(w8 G i) h b g) (Qoj G c)) m
def QF:=w8 G G.bx a b c
def QE:=QF G (A 0) a b
def QD:=N (aM 1 a) λb=>H (X8 cS [(A 0)] 1 1 [(0,b)]) λc=>QE G a c
def Dg:=QD G a
def Qpc:En:=⟨_,_,func64,by kernel_rfl,_,cg (s:=Dg) λG a m=>Xx (r:=v1 (Dg G) 0) rfl rfl (ts (v1 (QD G) 0) (ts (v2 (QE G) 0 3) (tr (tr (aJ (f:=v1 (Qoj G) 3)) (aJ (f:=v3 (QF G) 4 0 3) (tr (Xo (bK (λi r m=>w8 G i (r 4) (r 0) (r 3) m) (λ_ _=>rfl) (λb=>λr m=>by kernel_rfl))))))))) m⟩
def Qld(G:Gt)(a:V):=K a
def vj(G:Gt):Nat→V→V→V→M→R
 |0,_,_,_,_=>none
 |i+1,a,b,c,m=>(N (aM 1 b) λd=>E (ji a d) (jb 4 b a λe=>F 0 e λf=>H (conv (.int .i64) f) λg=>jb 4 b a λh=>F 1 h λj=>jb 4 b a λl=>F 2 l λn=>H (conv (.int .i64) n) λo=>H (X8 cS [(A 0)] 1 3 [(0,g),(1,j),(2,o)]) λp=>jb 4 b a λq=>F 3 q λs=>H (js s) λt=>C G Qi [p,t] λu=>B (bin .add false true .str c u) λv=>B (ja a (A 1)) λw=>(vj G i) w b v) (Qld G c)) m
def O1:=vj G G.bx a b c
def O0:=O1 G (A 0) a b
def OZ:=N (aM 1 a) λb=>H (X8 cS [(A 0)] 1 1 [(0,b)]) λc=>C G Qi [c,(.slice none 0 0)] λd=>O0 G a d
def GR:=OZ G a
def Qmm:En:=⟨_,_,func65,by kernel_rfl,_,cg (s:=GR) λG a m=>Xx (r:=v1 (GR G) 0) rfl rfl (ts (v1 (OZ G) 0) (ts (v2 (O0 G) 0 3) (tr (tr (aJ (f:=v1 (Qld G) 3)) (aJ (f:=v3 (O1 G) 4 0 3) (tr (Xo (bK (λi r m=>vj G i (r 4) (r 0) (r 3) m) (λ_ _=>rfl) (λb=>λr m=>by kernel_rfl))))))))) m⟩
def Jt(G:Gt)(a b c:V):=jb 1 a b λd=>Y 1 d c (B (ja b (A 1)) λe=>B (qc 1 a none (some e)) λf=>K f)
def DZ(G:Gt):Nat→V→V→V→V→V→V→M→R
 |0,_,_,_,_,_,_,_=>none
 |i+1,a,f,b,d,c,g,m=>(E (ji a f) (C G Tx [b,d] λe=>E (bin .lss true true .int e (A 0)) (Jt G c a b) (B (bin .add false true .int e g) λh=>B (gH b none (some h)) λj=>jb 1 c a λl=>Y 1 l j (N (aM 0 d) λn=>B (bin .add false true .int e n) λo=>B (gH b (some o) none) λp=>B (ja a (A 1)) λq=>(DZ G i) q f p d c g))) (Jt G c a b)) m
def Tb:=DZ G G.bx a b c d e f
def Ta:=Tb G (A 0) a b c d e
def S6:=B (bin .sub true true .int a (A 1)) λf=>Ta G f b c d e
def S5:=H (xQ Qc [(D [])] 1 16 a a) λe=>S6 G a b c e d
def Ju:=N (aM 0 b) λe=>B (ja e (A 1)) λf=>B (Mb a f) λg=>S5 G g b c d
def SZ:=E (bin .lss true true .int a (A 0)) (C G D9 [b,c] λe=>B (ja e (A 1)) λf=>Ju G f b c d) (Ju G a b c d)
def SY:=E (P a (D [])) (C G XfB [b,c] λe=>K e) (SZ G c b a d)
def SX:=E (jk a (A 0)) (K (.slice none 0 0)) (SY G b c a d)
def AF:=SX G a b c d
def Qva:En:=⟨_,_,func66,by kernel_rfl,_,E9 (s:=(λG a b c d=>AF G d b a c)) λG a b c d m=>Xx (r:=v4 (AF G) 3 1 0 2) rfl rfl (ts (v4 (SX G) 3 1 0 2) (ts (v4 (SY G) 1 0 3 2) (ts (v4 (SZ G) 3 0 1 2) (ts (v4 (Ju G) 3 0 1 2) (ts (v4 (S5 G) 3 0 1 2) (ts (v5 (S6 G) 3 0 1 9 2) (ts (v5 (Ta G) 3 0 1 9 2) (ts (v6 (Tb G) 10 3 0 1 9 2) (tr (tr (aJ (f:=v3 (Jt G) 9 10 0)) (Xo (bK (λi r m=>DZ G i (r 10) (r 3) (r 0) (r 1) (r 9) (r 2) m) (λ_ _=>rfl) (λe=>λr m=>by kernel_rfl))))))))))))) m⟩
def Qok(G:Gt)(a:V):=K a
def QP(k0:J2)(a b c:V):=L a (B (gH b (some (A 1)) none) λd=>k0 d c) (Qok G b)
def Aa(G:Gt):Nat→V→V→M→R
 |0,_,_,_=>none
 |i+1,a,b,m=>(N (aM 0 a) λc=>E (bin .gtr true true .int c (A 0)) (B (Xi a (A 0)) λd=>B (bin .eql false true .int d b) λe=>QP G (Aa G i) e a b) (QP G (Aa G i) jj a b)) m
def QQ:=Aa G G.bx a b
def HC:=QQ G a b
def Qpa:En:=⟨_,_,func67,by kernel_rfl,_,cT (s:=HC) λG a b m=>Xx (r:=v2 (HC G) 0 1) rfl rfl (ts (v2 (QQ G) 0 1) (tr (tr (aJ (f:=v1 (Qok G) 0)) (Xo (bK (λi r m=>Aa G i (r 0) (r 1) m) (λ_ _=>rfl) (λc=>λr m=>by kernel_rfl)))))) m⟩
def QM(G:Gt)(a:V):=jd true 256 a λb=>jl (Xe 256 a b) λ_=>λm=>ob (ob (X9 true 256 a m) λv=>ob (some [jh]) λl=>some (v::l)) λl=>some (bZ l,m)
def zZ(G:Gt):Nat→V→V→V→M→R
 |0,_,_,_,_=>none
 |i+1,b,c,a,m=>(N (aM 0 c) λe=>E (ji b e) (B (Xi c b) λd=>E (bin .geq true true .int d (.int .u8 128)) (jd true 256 a λf=>jl (Xe 256 a f) λ_=>λm=>ob (ob (X9 true 256 a m) λv=>ob (some [jj]) λl=>some (v::l)) λl=>some (bZ l,m)) (B (vC 256 1 a d) λg=>Y 1 g jh (B (ja b (A 1)) λh=>(zZ G i) h c a))) (QM G a)) m
def QO:=zZ G G.bx a b c
def QN:=QO G (A 0) a b
def HB:=U xE xF λb=>QN G a b
def Qpd:En:=⟨_,_,func68,by kernel_rfl,_,cg (s:=HB) λG a m=>Xx (r:=v1 (HB G) 0) rfl rfl (ts (v2 (QN G) 0 2) (tr (tr (aJ (f:=v1 (QM G) 2)) (aJ (f:=v3 (QO G) 4 0 2) (tr (Xo (bK (λi r m=>zZ G i (r 4) (r 0) (r 2) m) (λ_ _=>rfl) (λb=>λr m=>by kernel_rfl)))))))) m⟩
def QC(G:Gt)(a:V):=K a
def Dj(G:Gt):Nat→V→V→M→R
 |0,_,_,_=>none
 |i+1,a,b,m=>(N (aM 0 a) λc=>E (bin .gtr true true .int c (A 0)) (B (Xi a (A 0)) λd=>C G GF [b,d] λe=>E (un .not e) (QC G a) (B (gH a (some (A 1)) none) λf=>(Dj G i) f b)) (QC G a)) m
def Qo1:=Dj G G.bx a b
def OU:=Qo1 G a b
def Qow:En:=⟨_,_,func69,by kernel_rfl,_,cT (s:=OU) λG a b m=>Xx (r:=v2 (OU G) 0 1) rfl rfl (ts (v2 (Qo1 G) 0 1) (tr (tr (aJ (f:=v1 (QC G) 0)) (Xo (bK (λi r m=>Dj G i (r 0) (r 1) m) (λ_ _=>rfl) (λc=>λr m=>by kernel_rfl)))))) m⟩
def GW:=C G zT [a,b] λc=>E (bin .geq true true .int c (A 0)) (B (gH a none (some c)) λd=>N (aM 0 b) λe=>B (bin .add false true .int c e) λf=>B (gH a (some f) none) λg=>K (.tuple ⟨[d,g,jh]⟩)) (K (.tuple ⟨[a,(D []),jj]⟩))
def Qmj:En:=⟨_,_,func71,by kernel_rfl,_,cT (s:=GW) λG a b m=>Xk (r:=v2 (GW G) 0 1) rfl rfl m⟩
end
end Go.Ab.Sh

set_option maxRecDepth 100000
namespace Go.Ab.Sh
open Go Go.Ab Go.Proofs Go.Proofs.Tryz
noncomputable section
variable (G:Gt)(k0:J3)(a b c d e f g h j l n o p q s t u v w x y z:V)
def Uo(G:Gt):=K jh
def xL(G:Gt)(k0:J1)(a b:V):=L a (K jj) (k0 b)
def vz(k0:J1)(a b c d:V):=E (un .not a) (E (jk b (A 0)) (xL G k0 jh d) (E (bin .lss true true .int c (.int .i32 48)) (C G DL [(D [45,95,46,47]),c] λe=>B (bin .lss true true .int e (A 0)) λf=>xL G k0 f d) (E (bin .gtr true true .int c (.int .i32 57)) (C G DL [(D [45,95,46,47]),c] λg=>B (bin .lss true true .int g (A 0)) λh=>xL G k0 h d) (xL G k0 jj d)))) (xL G k0 jj d)
def ZA(k0:J1)(a b c:V):=E (bin .geq true true .int a (.int .i32 97)) (E (bin .leq true true .int a (.int .i32 122)) (vz G k0 jh b a c) (E (bin .geq true true .int a (.int .i32 65)) (B (bin .leq true true .int a (.int .i32 90)) λd=>vz G k0 d b a c) (vz G k0 jj b a c))) (E (bin .geq true true .int a (.int .i32 65)) (B (bin .leq true true .int a (.int .i32 90)) λe=>vz G k0 e b a c) (vz G k0 jj b a c))
def Zz(k0:J1)(a b:V):=jg a 1 λc=>jg a 2 λd=>ZA G k0 d c b
def Un(k0:J1)(a b c:V):=L a (Zz G k0 b c) (Uo G)
def xK(G:Gt):Nat→V→M→R
 |0,_,_=>none
 |i+1,a,m=>(H (uk a) λb=>jg b 0 λc=>Un G (xK G i) c b a) m
def ZB:=xK G G.bx a
def ZC:=H (yb a) λb=>ZB G b
def Kg:=L a (K jj) (ZC G b)
def Up:=E (P a (D [])) (Kg G jh a) (N (aM 0 a) λb=>B (bin .gtr true true .int b (A 32)) λc=>Kg G c a)
def Ki:=Up G a
def ZI:En:=⟨_,_,func72,by kernel_rfl,_,cg (s:=Ki) λG a m=>Xx (r:=v1 (Ki G) 0) rfl rfl (ts (v1 (Up G) 0) (tr (tr (aJ (f:=v1 (ZC G) 0) (tr (tr (aJ (f:=v0 (Uo G))) (aJ (f:=v1 (ZB G) 14) (tr (Xo (bK (λi r m=>xK G i (r 14) m) (λ_ _=>rfl) (λb=>λr m=>by kernel_rfl)))))))) (aJ (f:=v2 (Kg G) 12 0))))) m⟩
def HH:=jc 13 a λc=>H (ju (D cQ) c (D [46])) λd=>H (dn Qc 1 16 d b) λe=>jp G zW [a,e]
def Qri:En:=⟨_,_,func74,by kernel_rfl,_,cT (s:=HH) λG a b m=>Xk (r:=v2 (HH G) 0 1) rfl rfl m⟩
def Jk(G:Gt)(a:V):=K a
def SQ:=E (bin .neq true true .int a (A 0)) (C G Qd [b,(A 130)] λd=>Jk G c) (Jk G c)
def Qru:=C G Qr [a] λc=>C G JQ [c] λb=>jg b 0 λd=>jg b 1 λe=>SQ G e a d
def Io:=Qru G a
def Qtu:En:=⟨_,_,func75,by kernel_rfl,_,cg (s:=Io) λG a m=>Xk (r:=v1 (Io G) 0) rfl rfl m⟩
def Jm(G:Gt)(a:V):=K a
def SR:=E (bin .neq true true .int a (A 0)) (C G Qd [b,(A 10)] λd=>Jm G c) (Jm G c)
def Jl:=C G TX [a] λc=>jg c 0 λd=>jg c 1 λe=>SR G e b d
def Qrw:=L a (B (un .xor b) λd=>Jl G d c) (Jl G b c)
def Qrv:=C G oY [a] λc=>Qrw G b c a
def Ir:=Qrv G a b
def Qu3:En:=⟨_,_,func76,by kernel_rfl,_,cT (s:=Ir) λG a b m=>Xk (r:=v2 (Ir G) 0 1) rfl rfl m⟩
def I6:=C G Qp [a,(D jB)] λb=>L b (C G Qo [a] λc=>K c) (K (D []))
def Qv6:En:=⟨_,_,func77,by kernel_rfl,_,cg (s:=I6) λG a m=>Xk (r:=v1 (I6 G) 0) rfl rfl m⟩
def Jw(G:Gt)(b a:V):=jd true 2 b λc=>jl (Xe 2 a c) λ_=>λm=>ob (ob (X9 true 2 a m) λv=>ob (some []) λl=>some (v::l)) λl=>some (bZ l,m)
def Qtb:=jd true 2 a λd=>C G JO [d] λe=>E (bin .neq true true .int e (A 0)) (C G Qd [b,(A 10)] λf=>Jw G a c) (Jw G a c)
def Qta:=B (Xc Q9 [(0,1),(1,1)] [(0,a),(1,b)]) λf=>U Qe Q9 λe=>Y 2 e f (Qtb G e c d)
def DU:=U Qe Q9 λd=>Qta G a b c d
def Qve:En:=⟨_,_,func78,by kernel_rfl,_,mU (s:=(λG a b c=>DU G b c a)) λG a b c m=>Xk (r:=v3 (DU G) 1 2 0) rfl rfl m⟩
def Tv(G:Gt)(b a:V):=L b (jc 1 a λc=>B (ja c (A 1)) λd=>Z 1 a d (K jh)) (K jj)
def Qud(G:Gt)(a b:V)(m:M):R:=bp (G.dN xr [a] m) λc m=>sZ c (bp (aI (Xu a) m) λd m=>bp (aI (Xm 0 d) m) λe m=>bp (aI (X9 false 1 e m) m) λf m=>bp (aI (Xu a) m) λg m=>bp (aI (Xm 1 g) m) λh m=>bp (aI (X9 false 1 h m) m) λj m=>bp (aI (Xd 3 f j) m) λl m=>bp (aI (Xm 0 l) m) λn m=>bp (aI (X9 false 1 n m) m) λo m=>bp (aI (bin .eql false true .str o b) m) λp m=>Tv G p a m) (Tv G (.bool false) a m) (none)
def Jo:=Qud G a b
def Qwg:En:=⟨_,_,func79,by kernel_rfl,_,cT (s:=Jo) λG a b m=>Xk (r:=v2 (Jo G) 0 1) rfl rfl m⟩
def Tp(G:Gt)(a:V):=K a
def Qt9:=E (jk a (.int .u32 0)) (C G Qd [b,(A 131)] λc=>Tp G a) (Tp G a)
def Qt8:=C G oY [a] λb=>Qt9 G b a
def I5:=Qt8 G a
def Qv7:En:=⟨_,_,func80,by kernel_rfl,_,cg (s:=I5) λG a m=>Xk (r:=v1 (I5 G) 0) rfl rfl m⟩
def vq:=C G Ip [a] λd=>T 2 b λe=>Y 2 e d (F 1 b λf=>C G HW [a,f] λg=>T 6 b λh=>Y 2 h g (C G Ip [a] λj=>T 4 b λl=>Y 2 l j (F 1 b λn=>C G HW [a,n] λo=>T 8 b λp=>Y 2 p o (jc 1 c λq=>jd true 10 b λs=>jm AR sy 10 64 q s λt=>Z 1 c t (jq)))))
def Qrp:=C G Qp [a,(D sc)] λd=>L d (jf 1 b (A (-1)) (vq G a b c)) (C G Qp [a,(D Gf)] λe=>L e (jf 1 b (A 6) (vq G a b c)) (C G Qp [a,(D Gg)] λf=>L f (jf 1 b (A 17) (vq G a b c)) (C G Qp [a,(D Gh)] λg=>L g (jf 1 b (A 1) (vq G a b c)) (C G Q4 [a,(A 0),(A 255)] λh=>jf 1 b h (vq G a b c)))))
def Qro:=H (jr (D dq) (D dP)) λd=>C G nK [a,d] λe=>B (jk e (A 0)) λf=>B (Xc sy [(0,1),(1,1),(2,2),(4,2),(6,2),(8,2)] [(0,f)]) λg=>U AR sy λc=>Y 10 c g (Qrp G a c b)
def IA:=je 0 a λc=>F 4 c λd=>je 0 a λe=>F 4 e λf=>N (aM 1 f) λg=>B (bin .sub true true .int g (A 1)) λh=>jb 2 d h λj=>Qro G b j
def Qtw:En:=⟨_,_,func81,by kernel_rfl,_,cT (s:=IA) λG a b m=>Xk (r:=v2 (IA G) 0 1) rfl rfl m⟩
def IM(G:Gt)(b a:V):=jd true 5 b λc=>jl (Xe 5 a c) λ_=>λm=>ob (ob (X9 true 5 a m) λv=>ob (some []) λl=>some (v::l)) λl=>some (bZ l,m)
def IN:=C G Qp [a,(D zx)] λd=>L d (F 3 b λe=>C G Q4 [a,e,(A 32)] λf=>jf 4 b f (IM G b c)) (IM G b c)
def Rw:=C G Qp [a,(D zw)] λe=>L e (F 1 b λf=>C G Q4 [a,f,(A 32)] λg=>jf 3 c g (jf 4 c (A 32) (IN G a c d))) (IN G a c d)
def DM:=jd true 2 a λj=>T 1 a λe=>X e λf=>T 1 a λg=>X g λh=>T 1 b λl=>Y 2 l j (jn (O false 1 e f (O false 1 g h jo)) (jf 3 b f (jn (O false 1 g h jo) (jf 4 b h (Rw G c a b d)))))
def Qpg:=E (jk a (A 0)) (DM G b c d e) (E (jk a (A 10)) (C G Qd [d,(A 10)] λf=>DM G b c d e) (C G Qd [d,(A 130)] λg=>DM G b c d e))
def Qpf:=C G Qr [a] λf=>C G Rt [f] λd=>jg d 0 λg=>jg d 1 λh=>U Qe Q9 λe=>Y 2 e g (Qpg G h e b a c)
def Qpe:=H (jr (D dq) (D dP)) λd=>C G nK [a,d] λe=>B (jk e (A 0)) λf=>B (Xc mI [(0,1),(1,2),(3,1),(4,1)] [(0,f)]) λg=>U ud mI λc=>Y 5 c g (Qpf G a c b)
def HQ:=U ud mI λb=>Qpe G a b
def Qsl:En:=⟨_,_,func82,by kernel_rfl,_,cg (s:=HQ) λG a m=>Xk (r:=v1 (HQ G) 0) rfl rfl m⟩
def ZL(G:Gt):=K (A (-1))
def Qq(G:Gt):Nat→V→V→V→V→M→R
 |0,_,_,_,_,_=>none
 |i+1,a,b,c,d,m=>(E (ji a b) (jb 2 d a λe=>jd true 2 e λf=>H (o9 G.dN c [f]) λg=>L g (K a) (B (ja a (A 1)) λh=>(Qq G i) h b c d)) (ZL G)) m
def NS:=Qq G G.bx a b c d
def NQ:=N (aM 1 a) λc=>NS G (A 0) c b a
def Gs:=NQ G a b
def ZM:En:=⟨_,_,func83,by kernel_rfl,_,cT (s:=Gs) λG a b m=>Xx (r:=v2 (Gs G) 0 1) rfl rfl (ts (v2 (NQ G) 0 1) (tr (tr (aJ (f:=v0 (ZL G))) (aJ (f:=v4 (NS G) 8 7 1 0) (tr (Xo (bK (λi r m=>Qq G i (r 8) (r 7) (r 1) (r 0) m) (λ_ _=>rfl) (λc=>λr m=>by kernel_rfl)))))))) m⟩
end
end Go.Ab.Sh

set_option maxRecDepth 100000
namespace Go.Ab.Sh
open Go Go.Ab Go.Proofs Go.Proofs.Tryz
noncomputable section
variable (G:Gt)(k0:J3)(a b c d e f g h j l n o p q s t u v w x y z:V)
def Ix(G:Gt)(a b:V):=U vv (Value.cells a).toList λc=>F 0 c λd=>X b λe=>B (bin .eql false true .str d e) λf=>K f
def Qu2:En:=⟨_,_,func84,by kernel_rfl,_,cT (s:=Ix) λG a b m=>Xk (r:=v2 (Ix G) 0 1) rfl rfl m⟩
def Rx(G:Gt)(a:V):=K a
def IP:=jm sE [(.int .u32 0)] 1 4 a b λd=>C G xr [c] λe=>k0 e c d
def Qpi:=E (bin .neq true true .int a (A 0)) (C G Qd [b,(A 130)] λe=>IP G k0 c d b) (IP G k0 c d b)
def Qph:=C G Qr [a] λd=>C G TC [d] λc=>jg c 0 λe=>jg c 1 λf=>Qpi G k0 f a b e
def xi(G:Gt):Nat→V→V→V→M→R
 |0,_,_,_,_=>none
 |i+1,b,c,a,m=>(L b (Qph G (xi G i) c a) (Rx G a)) m
def Qqi:=xi G G.bx a b c
def Qqj:=Qqi G jh a b
def Qqk:=Qqj G a (.slice none 0 0)
def HS:=Qqk G a
def Qsh:En:=⟨_,_,func85,by kernel_rfl,_,cg (s:=HS) λG a m=>Xx (r:=v1 (HS G) 0) rfl rfl (ts (v1 (Qqk G) 0) (ts (v2 (Qqj G) 0 3) (tr (tr (aJ (f:=v1 (Rx G) 3)) (aJ (f:=v3 (Qqi G) 4 0 3) (tr (Xo (bK (λi r m=>xi G i (r 4) (r 0) (r 3) m) (λ_ _=>rfl) (λb=>λr m=>by kernel_rfl))))))))) m⟩
def ZJ(G:Gt):=K (A (-1))
def Qk(G:Gt):Nat→V→V→V→V→M→R
 |0,_,_,_,_,_=>none
 |i+1,a,b,c,d,m=>(E (ji a b) (jb 2 d a λe=>jd true 2 e λf=>H (o9 G.dN c [f]) λg=>L g (K a) (B (ja a (A 1)) λh=>(Qk G i) h b c d)) (ZJ G)) m
def NN:=Qk G G.bx a b c d
def NM:=N (aM 1 a) λc=>NN G (A 0) c b a
def Qw:=NM G a b
def ZK:En:=⟨_,_,func86,by kernel_rfl,_,cT (s:=Qw) λG a b m=>Xx (r:=v2 (Qw G) 0 1) rfl rfl (ts (v2 (NM G) 0 1) (tr (tr (aJ (f:=v0 (ZJ G))) (aJ (f:=v4 (NN G) 8 7 1 0) (tr (Xo (bK (λi r m=>Qk G i (r 8) (r 7) (r 1) (r 0) m) (λ_ _=>rfl) (λc=>λr m=>by kernel_rfl)))))))) m⟩
def Iy(G:Gt)(a b:V):=U vt (Value.cells a).toList λc=>F 0 c λd=>X b λe=>B (bin .eql false true .str d e) λf=>K f
def Qtq:En:=⟨_,_,func87,by kernel_rfl,_,cT (s:=Iy) λG a b m=>Xk (r:=v2 (Iy G) 0 1) rfl rfl m⟩
def Iv:=C G Qr [a] λc=>E (bin .neq false true .str c b) (jp G Qd [a,(A 130)]) (jq)
def Qu1:En:=⟨_,_,func88,by kernel_rfl,_,cT (s:=Iv) λG a b m=>Xk (r:=v2 (Iv G) 0 1) rfl rfl m⟩
def ZT(G:Gt):=K (A (-1))
def zO(G:Gt):Nat→V→V→V→V→M→R
 |0,_,_,_,_,_=>none
 |i+1,a,b,c,d,m=>(E (ji a b) (jt 1 d a λe=>E (bin .eql false true .str c e) (K a) (B (ja a (A 1)) λf=>(zO G i) f b c d)) (ZT G)) m
def N9:=zO G G.bx a b c d
def N8:=N (aM 1 a) λc=>N9 G (A 0) c b a
def GB:=N8 G a b
def ZW:En:=⟨_,_,func89,by kernel_rfl,_,cT (s:=GB) λG a b m=>Xx (r:=v2 (GB G) 0 1) rfl rfl (ts (v2 (N8 G) 0 1) (tr (tr (aJ (f:=v0 (ZT G))) (aJ (f:=v4 (N9 G) 8 7 1 0) (tr (Xo (bK (λi r m=>zO G i (r 8) (r 7) (r 1) (r 0) m) (λ_ _=>rfl) (λc=>λr m=>by kernel_rfl)))))))) m⟩
def ZN(G:Gt):=K (A (-1))
def zI(G:Gt):Nat→V→V→V→V→M→R
 |0,_,_,_,_,_=>none
 |i+1,a,b,c,d,m=>(E (ji a b) (jb 3 d a λe=>jd true 3 e λf=>H (o9 G.dN c [f]) λg=>L g (K a) (B (ja a (A 1)) λh=>(zI G i) h b c d)) (ZN G)) m
def NU:=zI G G.bx a b c d
def NT:=N (aM 1 a) λc=>NU G (A 0) c b a
def Gv:=NT G a b
def ZO:En:=⟨_,_,func90,by kernel_rfl,_,cT (s:=Gv) λG a b m=>Xx (r:=v2 (Gv G) 0 1) rfl rfl (ts (v2 (NT G) 0 1) (tr (tr (aJ (f:=v0 (ZN G))) (aJ (f:=v4 (NU G) 8 7 1 0) (tr (Xo (bK (λi r m=>zI G i (r 8) (r 7) (r 1) (r 0) m) (λ_ _=>rfl) (λc=>λr m=>by kernel_rfl)))))))) m⟩
def Hr(G:Gt)(a b:V):=U su (Value.cells a).toList λc=>F 0 c λd=>X b λe=>B (bin .eql false true .str d e) λf=>K f
def Qov:En:=⟨_,_,func91,by kernel_rfl,_,cT (s:=Hr) λG a b m=>Xk (r:=v2 (Hr G) 0 1) rfl rfl m⟩
def vr:=H (jr b c) λd=>jp G Qg [a,d]
def Qt3:=E (P a (D wQ)) (C G Qo [c] λf=>Z 2 b f (vr G d e a)) (E (P a (D wR)) (C G Qo [c] λg=>Z 3 b g (vr G d e a)) (E (P a (D lX)) (C G Q4 [c,(A 0),(A 16777216)] λh=>Z 4 b h (vr G d e a)) (E (P a (D oV)) (C G Q4 [c,(A 0),(A 16777216)] λj=>Z 5 b j (vr G d e a)) (E (P a (D jD)) (C G Q4 [c,(A 1),(A 4294967295)] λl=>Z 6 b l (vr G d e a)) (C G Qd [c,(A 130)] λn=>vr G d e a)))))
def Qt2:=L a (C G Qr [b] λg=>Qt3 G g c b d e) (E (P f (D zE)) (C G Rr [d,b,c] λh=>H (jr e h) λj=>jp G Qg [d,j]) (E (P f (D zF)) (jc 0 c λl=>B (ja l (A 1)) λn=>C G Q4 [b,n,(A 65535)] λo=>Z 14 c o (H (js e) λp=>jp G Qg [d,p])) (jp G Qd [b,(A 130)])))
def Qt1:=B (P a (D zC)) λf=>Qt2 G f b c d e a
def Qt0:=Qt1 G a b c d a
def Qsz:=C G Qr [a] λd=>Qt0 G d a b c
def Qsy:=N (aM 1 a) λd=>B (bin .sub true true .int d (A 1)) λe=>jb 15 a e λf=>Qsz G b f c
def I7:=je 0 a λc=>F 9 c λd=>jc 17 a λe=>jb 3 d e λf=>F 1 f λg=>Qsy G g b a
def Qv9:En:=⟨_,_,func92,by kernel_rfl,_,cT (s:=I7) λG a b m=>Xk (r:=v2 (I7 G) 0 1) rfl rfl m⟩
def TZ:=N (vF 4 1 a none none) λb=>C G xH [b,(D [46])] λc=>K c
def AJ(G:Gt):Nat→V→V→V→M→R
 |0,_,_,_,_=>none
 |i+1,a,c,b,m=>(E (bin .lss true true .int a (A 4)) (B (bin .mul true true .int (A 8) a) λd=>B (bin .sub true true .int (A 24) d) λe=>B (bin .shr false true .int c e) λf=>B (bin .and true true .int f (.int .u32 255)) λg=>H (conv (.int .i64) g) λh=>C G qV [h] λj=>B (vC 4 1 b a) λl=>Y 1 l j (B (ja a (A 1)) λn=>(AJ G i) n c b)) (TZ G b)) m
def Ua:=AJ G G.bx a b c
def T2:=Ua G (A 0) a b
def T0:=U Ur Us λb=>T2 G a b
def JY:=T0 G a
def ZD:En:=⟨_,_,func93,by kernel_rfl,_,cg (s:=JY) λG a m=>Xx (r:=v1 (JY G) 0) rfl rfl (ts (v1 (T0 G) 0) (ts (v2 (T2 G) 0 3) (tr (tr (aJ (f:=v1 (TZ G) 3)) (aJ (f:=v3 (Ua G) 5 0 3) (tr (Xo (bK (λi r m=>AJ G i (r 5) (r 0) (r 3) m) (λ_ _=>rfl) (λb=>λr m=>by kernel_rfl))))))))) m⟩
def Ei(G:Gt)(a:V):=K a
def Qzq:=E (bin .neq true true .str a (D [])) (C G Tz [a,(D [48,49,50,51,52,53,54,55,56,57])] λb=>E (P b (D [])) (E (P a (D [48])) (Ei G jh) (B (Xi a (A 0)) λc=>B (bin .neq true true .int c (.int .u8 48)) λd=>Ei G d)) (Ei G jj)) (Ei G jj)
def JZ:=Qzq G a
def ZH:En:=⟨_,_,func94,by kernel_rfl,_,cg (s:=JZ) λG a m=>Xk (r:=v1 (JZ G) 0) rfl rfl m⟩
def Ef(G:Gt)(a b:V):=L a (K (.tuple ⟨[(A 0),jj]⟩)) (K (.tuple ⟨[b,jh]⟩))
def Qyg:=E (bin .neq true false .iface a .nilIface) (Ef G jh b) (E (bin .lss true true .int b (A 0)) (Ef G jh b) (E (bin .gtr false true .int b c) (Ef G jh b) (C G qV [b] λe=>B (bin .neq false true .str e d) λf=>Ef G f b)))
def Qyf:=C G vw [a] λc=>jg c 0 λd=>jg c 1 λe=>Qyg G e d b a
def JT:=Qyf G a b
def Zu:En:=⟨_,_,func95,by kernel_rfl,_,cT (s:=JT) λG a b m=>Xk (r:=v2 (JT G) 0 1) rfl rfl m⟩
def Iz:=je 0 a λg=>F 10 g λh=>je 0 a λj=>F 10 j λl=>N (aM 1 l) λn=>B (bin .sub true true .int n (A 1)) λo=>jb 3 h o λc=>C G Qr [b] λd=>E (P d (D pU)) (C G oY [b] λp=>Z 1 c p (H (js d) λq=>jp G Qg [a,q])) (E (P d (D qL)) (je 2 c λe=>X e λf=>C G Dl [b,(D dZ),(.int .u8 8),jh] λs=>jn (O false 1 e f jo) (jm pY ku 4 40 f s λt=>Z 2 c t (jq))) (jp G Qd [b,(A 130)]))
def Qu0:En:=⟨_,_,func96,by kernel_rfl,_,cT (s:=Iz) λG a b m=>Xk (r:=v2 (Iz G) 0 1) rfl rfl m⟩
end
end Go.Ab.Sh

set_option maxRecDepth 100000
namespace Go.Ab.Sh
open Go Go.Ab Go.Proofs Go.Proofs.Tryz
noncomputable section
variable (G:Gt)(k0:J3)(a b c d e f g h j l n o p q s t u v w x y z:V)
def I8:=je 0 a λh=>F 11 h λj=>je 0 a λl=>F 11 l λn=>N (aM 1 n) λo=>B (bin .sub true true .int o (A 1)) λp=>jb 6 j p λd=>C G Qr [b] λc=>E (P c (D pU)) (C G oY [b] λq=>Z 2 d q (H (js c) λs=>jp G Qg [a,s])) (E (P c (D ND)) (C G oY [b] λt=>C G Aq [b,jj] λu=>C G DT [b,t,u] λv=>U Qe Q9 λe=>Y 2 e v (jd true 2 e λw=>C G Sg [w] λx=>H (jr c x) λy=>C G Qg [a,y] λi=>jc 3 d λz=>jd true 2 e λI=>jm Qe Q9 2 16 z I λQ=>Z 3 d Q (jq))) (E (P c (D zG)) (jp G OT [a,b,d]) (E (P c (D qL)) (je 5 d λf=>X f λg=>C G Dl [b,(D gZ),(.int .u8 4),jj] λS=>jn (O false 1 f g jo) (jm pY ku 4 40 g S λW=>Z 5 d W (jq))) (jp G Qd [b,(A 130)]))))
def Qv5:En:=⟨_,_,func97,by kernel_rfl,_,cT (s:=I8) λG a b m=>Xk (r:=v2 (I8 G) 0 1) rfl rfl m⟩
def DH(G:Gt)(a:V):=U Q7 Q2 λb=>jc 0 a λc=>jc 1 a λd=>B (wy d (A 1)) λe=>B (bin .sub true true .int e (A 1)) λf=>jb 3 c f λg=>jv true 2 1 g λh=>jl (Xe 2 b h) λ_=>λm=>ob (ob (X9 true 2 b m) λv=>ob (some []) λl=>some (v::l)) λl=>some (bZ l,m)
def Qu6:En:=⟨_,_,func98,by kernel_rfl,_,cg (s:=DH) λG a m=>Xk (r:=v1 (DH G) 0) rfl rfl m⟩
def JC(G:Gt)(a b:V):=H (conv (.int .u8) b) λc=>B (Xi (D [0,1,2,2,3,3,3,3,4,4,4,4,4,4,4,4,5,5,5,5,5,5,5,5,5,5,5,5,5,5,5,5,6,6,6,6,6,6,6,6,6,6,6,6,6,6,6,6,6,6,6,6,6,6,6,6,6,6,6,6,6,6,6,6,7,7,7,7,7,7,7,7,7,7,7,7,7,7,7,7,7,7,7,7,7,7,7,7,7,7,7,7,7,7,7,7,7,7,7,7,7,7,7,7,7,7,7,7,7,7,7,7,7,7,7,7,7,7,7,7,7,7,7,7,7,7,7,7,8,8,8,8,8,8,8,8,8,8,8,8,8,8,8,8,8,8,8,8,8,8,8,8,8,8,8,8,8,8,8,8,8,8,8,8,8,8,8,8,8,8,8,8,8,8,8,8,8,8,8,8,8,8,8,8,8,8,8,8,8,8,8,8,8,8,8,8,8,8,8,8,8,8,8,8,8,8,8,8,8,8,8,8,8,8,8,8,8,8,8,8,8,8,8,8,8,8,8,8,8,8,8,8,8,8,8,8,8,8,8,8,8,8,8,8,8,8,8,8,8,8,8,8,8,8,8,8]) c) λd=>H (conv (.int .i64) d) λe=>B (bin .add false true .int a e) λf=>K f
def Tw:=E (bin .geq true true .int a (.int .u32 256)) (B (bin .shr true true .int a (.int .u64 8)) λc=>B (ja b (A 8)) λd=>JC G d c) (JC G b a)
def Que:=E (bin .geq true true .int a (.int .u32 65536)) (B (bin .shr true true .int a (.int .u64 16)) λc=>Tw G c (A 16)) (Tw G a b)
def Jq:=Que G a (A 0)
def Qwi:En:=⟨_,_,func107,by kernel_rfl,_,cg (s:=Jq) λG a m=>Xk (r:=v1 (Jq G) 0) rfl rfl m⟩
def Ts(G:Gt)(b a:V):=jd true 2 b λc=>jl (Xe 2 a c) λ_=>λm=>ob (ob (X9 true 2 a m) λv=>ob (some []) λl=>some (v::l)) λl=>some (bZ l,m)
def JA(G:Gt)(k0:J5)(a b c d e:V):=B (ja a (A 1)) λf=>k0 f b c d e
def Quc(k0:J5)(a b c d e:V):=F 1 a λf=>B (ja f (A 1)) λg=>jf 1 a g (B (Xi b c) λh=>E (jk h (.int .u8 10)) (F 0 a λj=>B (ja j (A 1)) λl=>jf 0 a l (jf 1 a (A 1) (JA G k0 c d a b e))) (JA G k0 c d a b e))
def xC(G:Gt):Nat→V→V→V→V→V→M→R
 |0,_,_,_,_,_,_=>none
 |i+1,a,b,c,e,d,m=>(E (ji a b) (Quc G (xC G i) c e a b d) (Ts G c d)) m
def Quf:=xC G G.bx a b c d e
def Qug:=Quf G (A 0) a b c d
def Tt:=B (Xc Q2 [(0,1),(1,1)] [(0,(A 1)),(1,(A 1))]) λe=>U Q7 Q2 λd=>Y 2 d e (Qug G a d b c)
def D4:=U Q7 Q2 λc=>Tt G a b c
def Qwk:En:=⟨_,_,func109,by kernel_rfl,_,cT (s:=(λG a b=>D4 G b a)) λG a b m=>Xx (r:=v2 (D4 G) 1 0) rfl rfl (ts (v3 (Tt G) 1 0 4) (ts (v4 (Qug G) 1 5 0 4) (tr (tr (aJ (f:=v2 (Ts G) 5 4)) (aJ (f:=v5 (Quf G) 6 1 5 0 4) (tr (Xo (bK (λi r m=>xC G i (r 6) (r 1) (r 5) (r 0) (r 4) m) (λ_ _=>rfl) (λc=>λr m=>by kernel_rfl))))))))) m⟩
def SP(G:Gt)(a:V):=K a
def Ji:=N (aM 0 a) λb=>E (bin .geq true true .int b (A 1)) (N (aM 0 a) λc=>B (bin .leq true true .int c (A 32)) λd=>SP G d) (SP G jj)
def Jj(G:Gt)(k0:J2)(a b c:V):=L a (K jj) (B (ja b (A 1)) λd=>k0 d c)
def qU(k0:J2)(a b c d:V):=E (un .not a) (E (jk b (A 0)) (Jj G k0 jh b d) (B (un .not c) λe=>Jj G k0 e b d)) (Jj G k0 jj b d)
def xB(k0:J2)(a b c d:V):=E (bin .geq true true .int a (.int .u8 48)) (E (bin .leq true true .int a (.int .u8 57)) (qU G k0 b c jh d) (E (jk a (.int .u8 45)) (qU G k0 b c jh d) (E (jk a (.int .u8 95)) (qU G k0 b c jh d) (E (jk a (.int .u8 46)) (qU G k0 b c jh d) (B (jk a (.int .u8 47)) λe=>qU G k0 b c e d))))) (E (jk a (.int .u8 45)) (qU G k0 b c jh d) (E (jk a (.int .u8 95)) (qU G k0 b c jh d) (E (jk a (.int .u8 46)) (qU G k0 b c jh d) (B (jk a (.int .u8 47)) λf=>qU G k0 b c f d))))
def Qrt(k0:J2)(a b c:V):=E (bin .geq true true .int a (.int .u8 97)) (E (bin .leq true true .int a (.int .u8 122)) (xB G k0 a jh b c) (E (bin .geq true true .int a (.int .u8 65)) (B (bin .leq true true .int a (.int .u8 90)) λd=>xB G k0 a d b c) (xB G k0 a jj b c))) (E (bin .geq true true .int a (.int .u8 65)) (B (bin .leq true true .int a (.int .u8 90)) λe=>xB G k0 a e b c) (xB G k0 a jj b c))
def Qrs(k0:J2)(a b:V):=B (Xi a b) λc=>Qrt G k0 c b a
def AB(G:Gt):Nat→V→V→M→R
 |0,_,_,_=>none
 |i+1,b,a,m=>(N (aM 0 a) λc=>E (ji b c) (Qrs G (AB G i) a b) (Ji G a)) m
def SO:=AB G G.bx a b
def SN:=SO G (A 0) a
def IL:=SN G a
def Qua:En:=⟨_,_,func110,by kernel_rfl,_,cg (s:=IL) λG a m=>Xx (r:=v1 (IL G) 0) rfl rfl (ts (v1 (SN G) 0) (tr (tr (aJ (f:=v1 (Ji G) 0)) (aJ (f:=v2 (SO G) 3 0) (tr (Xo (bK (λi r m=>AB G i (r 3) (r 0) m) (λ_ _=>rfl) (λb=>λr m=>by kernel_rfl)))))))) m⟩
def HF(G:Gt)(b a:V):=jd true 2 b λc=>jl (Xe 2 a c) λ_=>λm=>ob (ob (X9 true 2 a m) λv=>ob (some []) λl=>some (v::l)) λl=>some (bZ l,m)
def PU:=L a (C G Q3 [b,(A 10)] λe=>HF G c d) (HF G c d)
def Qn8:=jc 4 a λd=>E (jk d (A 0)) (jd true 2 b λe=>C G HY [e] λf=>B (bin .neq true true .int f (A 0)) λg=>PU G g a b c) (PU G jj a b c)
def Qn7:=C G CT [b,c,(A 0)] λf=>B (Xc Q9 [(0,1),(1,1)] [(0,a),(1,f)]) λg=>U Qe Q9 λe=>Y 2 e g (Qn8 G b e d)
def Qn6:=C G Ql [a] λd=>Qn7 G d a b c
def Hl:=U Qe Q9 λc=>Qn6 G a b c
def Qo3:En:=⟨_,_,func111,by kernel_rfl,_,cT (s:=Hl) λG a b m=>Xk (r:=v2 (Hl G) 0 1) rfl rfl m⟩
def O5(G:Gt)(b a:V):=L b (jc 1 a λc=>B (ja c (A 1)) λd=>Z 1 a d (K jh)) (K jj)
def Ql9(G:Gt)(a b:V)(m:M):R:=bp (G.dN zR [a] m) λc m=>sZ c (bp (aI (Xu a) m) λd m=>bp (aI (Xm 0 d) m) λe m=>bp (aI (X9 false 1 e m) m) λf m=>bp (aI (Xu a) m) λg m=>bp (aI (Xm 1 g) m) λh m=>bp (aI (X9 false 1 h m) m) λj m=>bp (aI (Xd 3 f j) m) λl m=>bp (aI (Xm 0 l) m) λn m=>bp (aI (X9 false 1 n m) m) λo m=>bp (aI (bin .eql false true .str o b) m) λp m=>O5 G p a m) (O5 G (.bool false) a m) (none)
def GU:=Ql9 G a b
def Qmp:En:=⟨_,_,func112,by kernel_rfl,_,cT (s:=GU) λG a b m=>Xk (r:=v2 (GU G) 0 1) rfl rfl m⟩
def Po(G:Gt)(a:V):=K a
def Pn:=L a (C G Q3 [b,(A 131)] λd=>Po G c) (Po G c)
def Qls:=jc 4 a λc=>E (jk c (A 0)) (B (jk b (.int .u32 0)) λd=>Pn G d a b) (Pn G jj a b)
def Qlr:=C G Ql [a] λb=>Qls G a b
def G7:=Qlr G a
def Qnm:En:=⟨_,_,func113,by kernel_rfl,_,cg (s:=G7) λG a m=>Xk (r:=v1 (G7 G) 0) rfl rfl m⟩
end
end Go.Ab.Sh

set_option maxRecDepth 100000
namespace Go.Ab.Sh
open Go Go.Ab Go.Proofs Go.Proofs.Tryz
noncomputable section
variable (G:Gt)(k0:J3)(a b c d e f g h j l n o p q s t u v w x y z:V)
def Oi(G:Gt)(a b c:V):=je 0 a λd=>F 7 d λe=>jd true 5 c λf=>H (X8 ud mI 5 1 [(0,f)]) λg=>B (Xc vu [(0,1),(1,1)] [(0,b),(1,g)]) λh=>jm vv vu 2 40 e h λj=>je 0 a λl=>jf 7 l j (jq)
def zN(G:Gt):Nat→V→V→V→V→M→R
 |0,_,_,_,_,_=>none
 |i+1,b,a,c,d,m=>(je 0 a λg=>F 7 g λh=>N (aM 1 h) λj=>E (ji b j) (je 0 a λl=>F 7 l λn=>jb 2 n b λo=>F 0 o λp=>E (bin .eql false true .str p c) (je 0 a λq=>T 7 q λe=>X e λf=>je 0 a λs=>F 7 s λt=>jb 2 t b λu=>F 1 u λv=>jd true 5 d λw=>jm ud mI 5 40 v w λx=>jn (O false 1 e f jo) (jb 2 f b λy=>jf 1 y x (jq))) (B (ja b (A 1)) λz=>(zN G i) z a c d)) (Oi G a c d)) m
def Oj:=zN G G.bx a b c d
def CC:=Oj G (A 0) a b c
def CD:=C G Q6 [a,(D zx)] λe=>L e (F 3 b λf=>C G Q1 [a,f,(A 32)] λg=>jf 4 b g (CC G c d b)) (CC G c d b)
def GO:=C G Q6 [a,(D zw)] λe=>L e (T 1 b λf=>F 1 f λg=>C G Q1 [a,g,(A 32)] λh=>jf 3 b h (jf 4 b (A 32) (CD G a b c d))) (CD G a b c d)
def Q9c:=T 1 a λe=>F 1 e λf=>jf 4 a f (GO G b a c d)
def CE:=T 1 a λe=>F 1 e λf=>jf 3 a f (Q9c G a b c d)
def CA:=jd true 2 a λf=>T 1 b λg=>Y 2 g f (CE G b c d e)
def ZS:=E (jk a (A 10)) (C G Q3 [b,(A 10)] λg=>CA G c d b e f) (E (bin .neq true true .int a (A 0)) (C G Q3 [b,(A 130)] λh=>CA G c d b e f) (CA G c d b e f))
def GI:=L a (C G Od [b] λg=>jg g 0 λj=>jg g 1 λl=>U Qe Q9 λh=>Y 2 h j (ZS G l c h d e f)) (CE G d c e f)
def On:=jc 4 a λf=>B (jk f (A 0)) λg=>GI G g b a c d e
def Om:=C G Qf [a] λe=>On G a e b c d
def Ol:=C G Q5 [a,(D dq),(D dP),(D dP)] λe=>B (P e (D dq)) λf=>B (Xc mI [(0,1),(1,2),(3,1),(4,1)] [(0,f)]) λg=>U ud mI λd=>Y 5 d g (Om G a d b c)
def GC:=C G Qa [a] λc=>Ol G a b c
def ZY:En:=⟨_,_,func114,by kernel_rfl,_,cT (s:=(λG a b=>GC G b a)) λG a b m=>Xx (r:=v2 (GC G) 1 0) rfl rfl (ts (v3 (Ol G) 1 0 4) (ts (v4 (Om G) 1 5 0 4) (ts (v5 (On G) 1 6 5 0 4) (tr (tr (aJ (f:=v4 (CE G) 5 1 0 4) (ts (v4 (Q9c G) 5 1 0 4) (ts (v4 (GO G) 1 5 0 4) (ts (v4 (CD G) 1 5 0 4) (ts (v3 (CC G) 0 4 5) (tr (tr (aJ (f:=v3 (Oi G) 0 4 5)) (aJ (f:=v4 (Oj G) 9 0 4 5) (tr (Xo (bK (λi r m=>zN G i (r 9) (r 0) (r 4) (r 5) m) (λ_ _=>rfl) (λc=>λr m=>by kernel_rfl)))))))))))) (aJ (f:=v6 (GI G) 22 6 1 5 0 4))))))) m⟩
def C1(G:Gt):Nat→V→V→M→R
 |0,_,_,_=>none
 |i+1,a,d,m=>(C G Qf [a] λe=>jc 4 a λf=>E (bin .neq true true .int f (A 0)) (K (.slice none 0 0)) (C G PX [e] λb=>jg b 0 λg=>jg b 1 λh=>E (bin .neq true true .int h (A 0)) (C G Q3 [a,(A 130)] λl=>K (.slice none 0 0)) (jm sE [(.int .u32 0)] 1 4 d g λc=>C G zR [a] λj=>E (un .not j) (K c) ((C1 G i) a c)))) m
def OW:=C1 G G.bx a b
def OV:=OW G a (.slice none 0 0)
def CN:=OV G a
def Qmk:En:=⟨_,_,func115,by kernel_rfl,_,cg (s:=CN) λG a m=>Xx (r:=v1 (CN G) 0) rfl rfl (ts (v1 (OV G) 0) (ts (v2 (OW G) 0 3) (tr (Xo (bK (λi r m=>C1 G i (r 0) (r 3) m) (λ_ _=>rfl) (λb=>λr m=>by kernel_rfl)))))) m⟩
def Pp:=L a (C G Q3 [b,(A 10)] λd=>K (A 0)) (K c)
def Qlw:=E (bin .neq true true .int a (A 0)) (Pp G jh d b) (B (ji b c) λe=>Pp G e d b)
def Hy:=C G QT [a] λd=>jg d 0 λe=>jg d 1 λf=>Qlw G f e b c
def Qlv:=L a (B (bin .sub true true .int (.int .u32 4294967295) b) λe=>Hy G e c d) (Hy G b c d)
def Qlu:=jc 4 a λe=>E (bin .neq true true .int e (A 0)) (K (A 0)) (Qlv G b c d a)
def Qlt:=C G Ql [a] λd=>Qlu G a b d c
def G4:=Qlt G a b c
def Qnq:En:=⟨_,_,func116,by kernel_rfl,_,mU (s:=G4) λG a b c m=>Xk (r:=v3 (G4 G) 0 1 2) rfl rfl m⟩
def G2:=U Qe Q9 λb=>C G Q6 [a,(D sc)] λc=>L c (B (Xc Q9 [(0,1),(1,1)] []) λd=>jl (Xe 2 b d) λ_=>λm=>ob (ob (X9 true 2 b m) λv=>ob (some []) λl=>some (v::l)) λl=>some (bZ l,m)) (C G Q6 [a,(D Cq)] λe=>L e (C G Ql [a] λf=>B (Xc Q9 [(0,1),(1,1)] [(0,f),(1,(A 32))]) λg=>jl (Xe 2 b g) λ_=>λm=>ob (ob (X9 true 2 b m) λv=>ob (some []) λl=>some (v::l)) λl=>some (bZ l,m)) (C G C3 [a,jh] λh=>jl (Xe 2 b h) λ_=>λm=>ob (ob (X9 true 2 b m) λv=>ob (some []) λl=>some (v::l)) λl=>some (bZ l,m)))
def Qno:En:=⟨_,_,func117,by kernel_rfl,_,cg (s:=G2) λG a m=>Xk (r:=v1 (G2 G) 0) rfl rfl m⟩
def Hp(G:Gt)(a:V):=B (Xc mJ [(0,1),(1,1)] [(0,(.int .u32 0)),(1,(.int .u32 65535))]) λb=>jl (Xe 2 a b) λ_=>λm=>ob (ob (X9 true 2 a m) λv=>ob (some []) λl=>some (v::l)) λl=>some (bZ l,m)
def CZ:=L a (C G Q6 [b,(D [101,113])] λf=>L f (C G Q1 [b,(A 0),(A 65535)] λg=>H (conv (.int .u32) g) λe=>B (Xc mJ [(0,1),(1,1)] [(0,e),(1,e)]) λh=>jl (Xe 2 c h) λ_=>λm=>ob (ob (X9 true 2 c m) λv=>ob (some []) λl=>some (v::l)) λl=>some (bZ l,m)) (C G Q6 [b,(D Gc)] λj=>L j (C G Q1 [b,(A 0),(A 65535)] λd=>C G Q1 [b,d,(A 65535)] λn=>H (conv (.int .u32) d) λo=>H (conv (.int .u32) n) λp=>B (Xc mJ [(0,1),(1,1)] [(0,o),(1,p)]) λq=>jl (Xe 2 c q) λ_=>λm=>ob (ob (X9 true 2 c m) λv=>ob (some []) λl=>some (v::l)) λl=>some (bZ l,m)) (Hp G c))) (Hp G c)
def Qk0:=E (jk a (A 6)) (CZ G jh b c) (B (jk a (A 17)) λd=>CZ G d b c)
def CM:=U Uu mJ λc=>Qk0 G a b c
def Qmt:En:=⟨_,_,func118,by kernel_rfl,_,cT (s:=(λG a b=>CM G b a)) λG a b m=>Xk (r:=v2 (CM G) 1 0) rfl rfl m⟩
def tU(G:Gt)(a:V):=K a
def C5(G:Gt):Nat→V→V→V→M→R
 |0,_,_,_,_=>none
 |i+1,a,b,c,m=>(C G zR [a] λf=>L f (je 12 b λd=>X d λe=>C G Q1 [a,(A 1),(A 4294967295)] λg=>jn (O false 1 d e jo) (H (conv (.int .u32) g) λh=>jm sE [(.int .u32 0)] 1 4 e h λj=>Z 12 b j ((C5 G i) a b c))) (tU G c)) m
def Qn9:=C5 G G.bx a b c
def Qna:=L a (je 12 b λf=>X f λg=>C G Q1 [c,(A 1),(A 4294967295)] λh=>jn (O false 1 f g jo) (H (conv (.int .u32) h) λj=>jm sE [(.int .u32 0)] 1 4 g j λl=>Z 12 b l (Qn9 G c b d))) (E (P e (D Zs)) (C G G6 [c] λn=>Z 13 b n (tU G d)) (C G Q3 [c,(A 130)] λo=>tU G d))
def PQ:=L a (C G Q6 [c,(D zB)] λf=>Z 11 b f (C G GQ [c] λg=>Z 10 b g (tU G d))) (B (P e (D Zr)) λh=>Qna G h b c d e)
def PO:=L a (C G Q1 [c,(A 0),(A 16777216)] λf=>Z 9 b f (tU G d)) (B (P e (D Zq)) λg=>PQ G g b c d e)
def PN:=L a (C G Q1 [c,(A 0),(A 16777216)] λf=>Z 8 b f (tU G d)) (B (P e (D lX)) λg=>PO G g b c d e)
def PM:=L a (C G Q1 [c,(A 0),(A 16777216)] λf=>Z 7 b f (tU G d)) (B (P e (D Zp)) λg=>PN G g b c d e)
def PL:=B (P a (D oV)) λe=>PM G e b c d a
def PK:=PL G a b c a
def PJ:=C G Qf [a] λc=>PK G c b a
def Hm:=PJ G a b
def Qo5:En:=⟨_,_,func119,by kernel_rfl,_,cT (s:=Hm) λG a b m=>Xx (r:=v2 (Hm G) 0 1) rfl rfl (ts (v2 (PJ G) 0 1) (ts (v3 (PK G) 5 1 0) (tr (tr (aJ (f:=v1 (tU G) 5)) (aJ (f:=v4 (PL G) 8 1 0 5) (tr (Xo (aJ (f:=v5 (PM G) 11 1 0 5 8) (tr (kD (lR) (aJ (f:=v5 (PN G) 18 1 0 5 8) (tr (kD (lR) (aJ (f:=v5 (PO G) 25 1 0 5 8) (tr (kD (lR) (aJ (f:=v5 (PQ G) 32 1 0 5 8) (tr (kD (lR) (aJ (f:=v5 (Qna G) 44 1 0 5 8) (tr (kD (aJ (f:=v3 (Qn9 G) 0 1 5) (tr (Xo (bK (λi r m=>C5 G i (r 0) (r 1) (r 5) m) (λ_ _=>rfl) (λc=>λr m=>by kernel_rfl))))) (lR))))))))))))))))))))))) m⟩
end
end Go.Ab.Sh
