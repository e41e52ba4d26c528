/-
  Functions of the program as plain definitions. No conditions.
-/
import Derived.Test.YtodhdplpcelokaaGreatDoorAb5
import Derived.Test.YtodhdplpcelokaaGreatDoorZ
import Derived.KernelRfl
import Derived.Test.YtodhdplpcelokaaGreatDoorProg
set_option linter.all false
set_option maxRecDepth 100000
namespace Go.Ab.Sh
open Go Go.Ab Go.Proofs Go.Proofs.Tryz
noncomputable section
variable (G:Gt)(k0:J3)(a b c d e f g h j l n o p q s t u v w x y z:V)
def R1(G:Gt)(a:V):=H (conv (.int .u32) a) λb=>K (.tuple ⟨[b,(A 0)]⟩)
def Ao(G:Gt):Nat→V→V→V→M→R
 |0,_,_,_,_=>none
 |i+1,a,b,c,m=>(E (bin .lss true true .int a (A 4)) (jt 1 b a λe=>C G Ar [e,(A 255)] λd=>E (bin .lss true true .int d (A 0)) (K (.tuple ⟨[(.int .u32 0),(A 4)]⟩)) (B (bin .mul true true .int (A 256) c) λf=>B (bin .add false true .int f d) λg=>B (ja a (A 1)) λh=>(Ao G i) h b g)) (R1 G c)) m
def R4:=Ao G G.bx a b c
def R3:=R4 G (A 0) a b
def R2:=R3 G a (A 0)
def I0:=N (aM 1 a) λb=>E (bin .neq true true .int b (A 4)) (K (.tuple ⟨[(.int .u32 0),(A 4)]⟩)) (R2 G a)
def Ic(G:Gt)(k0:J4)(a b c d:V):=B (ja a (A 1)) λe=>k0 e b c d
def Ib(k0:J4)(a b c d e:V):=L a (B (gH c (some d) (some e)) λf=>jm Qc [(D [])] 1 16 b f λg=>B (ja e (A 1)) λh=>Ic G k0 e c g h) (Ic G k0 e c b d)
def Rh(k0:J4)(a b c d:V):=N (aM 0 b) λe=>E (bin .eql false true .int a e) (Ib G k0 jh c b d a) (B (Xi b a) λf=>B (jk f (.int .u8 46)) λg=>Ib G k0 g c b d a)
def w9(G:Gt):Nat→V→V→V→V→M→R
 |0,_,_,_,_,_=>none
 |i+1,a,b,c,d,m=>(N (aM 0 b) λe=>E (bin .leq false true .int a e) (Rh G (w9 G i) a b c d) (I0 G c)) m
def Qql:=w9 G G.bx a b c d
def Qqm:=Qql G (A 0) a b c
def Qqn:=Qqm G a b (A 0)
def Qqo:=Qqn G a (.slice none 0 0)
def QA:=Qqo G a
def Qsi:En:=⟨_,_,func120,by kernel_rfl,_,cg (s:=QA) λG a m=>Xx (r:=v1 (QA G) 0) rfl rfl (ts (v1 (Qqo G) 0) (ts (v2 (Qqn G) 0 4) (ts (v3 (Qqm G) 0 4 5) (tr (tr (aJ (f:=v1 (I0 G) 4) (ts (v1 (R2 G) 4) (ts (v2 (R3 G) 4 7) (tr (tr (aJ (f:=v1 (R1 G) 7)) (aJ (f:=v3 (R4 G) 8 4 7) (tr (Xo (bK (λi r m=>Ao G i (r 8) (r 4) (r 7) m) (λ_ _=>rfl) (λb=>λr m=>by kernel_rfl)))))))))) (aJ (f:=v4 (Qql G) 6 0 4 5) (tr (Xo (bK (λi r m=>w9 G i (r 6) (r 0) (r 4) (r 5) m) (λ_ _=>rfl) (λb=>λr m=>by kernel_rfl)))))))))) m⟩
def G9:=U Qe (Value.cells a).toList λd=>F 0 d λe=>T 1 d λb=>X b λc=>C G IG [e] λf=>jn (O false 1 b c jo) (B (bin .add true true .str f (D [47])) λg=>C G oX [c] λh=>B (bin .add false true .str g h) λj=>K j)
def Qnn:En:=⟨_,_,func121,by kernel_rfl,_,cg (s:=G9) λG a m=>Xk (r:=v1 (G9 G) 0) rfl rfl m⟩
def GM:=C G IG [b] λd=>B (bin .add true true .str (D Cr) d) λe=>B (bin .add true true .str e (D [32])) λf=>B (bin .add false true .str f c) λg=>jp G Qj [a,g]
def Qm:=E (bin .neq true true .str a (D jD)) (E (bin .lss true true .int b (A 0)) (Z 17 c jh (jq)) (jc 4 d λg=>jd true 6 e λh=>jb 6 g b λj=>Y 6 j h (GM G c f a))) (GM G c f a)
def ZU:=E (P a (D jD)) (C G Q1 [b,(A 1),(A 4294967295)] λn=>E (bin .lss true true .int c (A 0)) (jc 4 d λo=>H (conv (.int .u32) n) λp=>B (Xc sx [(0,1),(1,1),(2,1),(3,1),(4,1),(5,1)] [(0,e),(1,p)]) λq=>jm sC sx 6 48 o q λs=>Z 4 d s (Qm G a c f d g e)) (Qm G a c f d g e)) (E (P a (D dH)) (C G Qa [b] λh=>C G Q5 [b,(D cQ),(D ed),(D ed)] λj=>B (bin .add true true .str a (D [32])) λt=>B (bin .add false true .str t j) λl=>E (P j (D cQ)) (jf 2 g h (Qm G l c f d g e)) (jf 3 g h (Qm G l c f d g e))) (E (P a (D sg)) (jf 4 g jh (Qm G a c f d g e)) (E (P a (D si)) (jf 5 g jh (Qm G a c f d g e)) (C G Q3 [b,(A 130)] λu=>Qm G a c f d g e))))
def GN:=C G Qf [a] λg=>ZU G g a b c d e f
def ZV:=E (bin .geq true true .int a (A 0)) (jc 4 b λg=>jb 6 g a λh=>jd true 6 h λj=>Y 6 c j (GN G d a b e f c)) (GN G d a b e f c)
def GL:=U sC sx λf=>ZV G a b f c d e
def N7(G:Gt)(k0:J6)(a b c d e f:V):=B (ja a (A 1)) λg=>k0 g b c d e f
def ZR(k0:J6)(a b c d e f:V):=jc 4 a λg=>jb 6 g b λh=>F 0 h λj=>E (bin .eql false true .int j c) (N7 G k0 b a c b d e) (N7 G k0 b a c f d e)
def wV(G:Gt):Nat→V→V→V→V→V→V→M→R
 |0,_,_,_,_,_,_,_=>none
 |i+1,b,a,c,d,e,f,m=>(jc 4 a λg=>N (aM 1 g) λh=>E (ji b h) (ZR G (wV G i) a b c e f d) (GL G d a e c f)) m
def Oh:=wV G G.bx a b c d e f
def Og:=Oh G (A 0) a b c d e
def Of:=Og G a b (A (-1)) c d
def Cz:=C G Ql [a] λd=>Of G b d a c
def ZZ:En:=⟨_,_,func122,by kernel_rfl,_,mU (s:=(λG a b c=>Cz G b c a)) λG a b c m=>Xx (r:=v3 (Cz G) 1 2 0) rfl rfl (ts (v4 (Of G) 2 6 1 0) (ts (v5 (Og G) 2 6 7 1 0) (tr (tr (aJ (f:=v5 (GL G) 7 2 1 6 0)) (aJ (f:=v6 (Oh G) 8 2 6 7 1 0) (tr (Xo (bK (λi r m=>wV G i (r 8) (r 2) (r 6) (r 7) (r 1) (r 0) m) (λ_ _=>rfl) (λd=>λr m=>by kernel_rfl))))))))) m⟩
def H9(G:Gt)(a b:V):=B (ja (.int .u64 48) a) λc=>H (conv (.int .u8) c) λd=>H (X8 fJ [(.int .u8 0)] 1 1 [(0,d)]) λe=>H (conv .str e) λf=>B (bin .add false true .str f b) λg=>K g
def tV(G:Gt):Nat→V→V→M→R
 |0,_,_,_=>none
 |i+1,a,b,m=>(E (bin .gtr true true .int a (.int .u64 9)) (B (bin .rem true true .int a (.int .u64 10)) λc=>B (ja (.int .u64 48) c) λd=>H (conv (.int .u8) d) λe=>H (X8 fJ [(.int .u8 0)] 1 1 [(0,e)]) λf=>H (conv .str f) λg=>B (bin .add false true .str g b) λh=>B (bin .quo true true .int a (.int .u64 10)) λj=>(tV G i) j h) (H9 G a b)) m
def If:=tV G G.bx a b
def Ie:=If G a (D [])
def Dq:=Ie G a
def Qrc:En:=⟨_,_,func123,by kernel_rfl,_,cg (s:=Dq) λG a m=>Xx (r:=v1 (Dq G) 0) rfl rfl (ts (v1 (Ie G) 0) (ts (v2 (If G) 0 3) (tr (tr (aJ (f:=v2 (H9 G) 0 3)) (Xo (bK (λi r m=>tV G i (r 0) (r 3) m) (λ_ _=>rfl) (λb=>λr m=>by kernel_rfl))))))) m⟩
def JD:=C G zT [a,b] λc=>K c
def Qxn:En:=⟨_,_,func126,by kernel_rfl,_,cT (s:=JD) λG a b m=>Xk (r:=v2 (JD G) 0 1) rfl rfl m⟩
def GG(G:Gt)(a b:V):=B (Xu a) λc=>B (vC 256 1 c b) λd=>X d λe=>K e
def Qjw:En:=⟨_,_,func127,by kernel_rfl,_,cT (s:=GG) λG a b m=>Xk (r:=v2 (GG G) 0 1) rfl rfl m⟩
end
end Go.Ab.Sh

set_option maxRecDepth 100000
namespace Go.Ab.Sh
open Go Go.Ab Go.Proofs Go.Proofs.Tryz
noncomputable section
variable (G:Gt)(k0:J3)(a b c d e f g h j l n o p q s t u v w x y z:V)
def SF(G:Gt):=K (A (-1))
def AA(G:Gt):Nat→V→M→R
 |0,_,_=>none
 |i+1,b,m=>(H (uk b) λa=>jg a 0 λc=>L c (jg a 1 λd=>jg a 2 λe=>E (jk e (.int .i32 65533)) (K d) ((AA G i) b)) (SF G)) m
def SG:=AA G G.bx a
def R9(G:Gt):=K (A (-1))
def Sa(G:Gt)(k0:J6)(a b c d e f:V):=B (ja a (A 1)) λg=>k0 g b c d e f
def Qqp(G:Gt)(a b:V):=B (bin .sub false true .int a b) λc=>K c
def Sb(G:Gt)(k0:J6):Nat→V→V→V→V→V→V→V→M→R
 |0,_,_,_,_,_,_,_,_=>none
 |i+1,a,b,e,c,d,f,g,m=>(N (aM 0 b) λh=>E (ji a h) (B (bin .sub false true .int c a) λj=>B (Xi e j) λl=>B (bin .sub false true .int d a) λn=>B (Xi b n) λo=>E (bin .neq false true .int l o) (Sa G k0 c e f g b d) (B (ja a (A 1)) λp=>(Sb G k0 i) p b e c d f g)) (Qqp G c d)) m
def Qqq(k0:J6)(a b c d e f g:V):=Sb G k0 G.bx a b c d e f g
def Sc(k0:J6)(a b c d e f g:V):=L a (Qqq G k0 (A 2) b c d e f g) (Sa G k0 d c f g b e)
def Qqr(k0:J6)(a b c d e f:V):=B (Xi a b) λg=>E (bin .eql false true .int g c) (B (bin .sub true true .int b (A 1)) λh=>B (Xi a h) λj=>B (bin .eql false true .int j d) λl=>Sc G k0 l e a b f c d) (Sc G k0 jj e a b f c d)
def vn(G:Gt):Nat→V→V→V→V→V→V→M→R
 |0,_,_,_,_,_,_,_=>none
 |i+1,a,b,c,d,e,f,m=>(N (aM 0 b) λg=>E (ji a g) (Qqr G (vn G i) b a c d e f) (R9 G)) m
def Qqs:=vn G G.bx a b c d e f
def Qqt:=Qqs G a b c d e f
def Qqu:=B (bin .sub true true .int b (A 1)) λf=>B (Xi a f) λg=>Qqt G c d e g a b
def Qqv:=L jh (B (bin .sub false true .int b c) λg=>B (gH a (some g) none) λh=>H (conv .FD d) λj=>C G Qte [h,j] λf=>E (bin .geq true true .int f (A 0)) (B (bin .add false true .int b f) λl=>B (bin .sub false true .int l c) λn=>K n) (R9 G)) (B (Xi e c) λo=>Qqu G e c b a o)
def Qy6:=Qqv G a b c d e
def Qqw(G:Gt):=K (A (-1))
def I1(G:Gt)(k0:J4)(a b c d e:V):=L a (λm=>none) (k0 b c d e)
def Qqx(k0:J4)(a b c d e:V):=C G Qwb [b] λf=>E (bin .gtr false true .int a f) (N (aM 0 c) λg=>E (ji b g) (I1 G k0 jh b c d e) (I1 G k0 jj b c d e)) (I1 G k0 jj b c d e)
def Qqy(k0:J4)(a b c d e:V):=B (ja a (A 1)) λf=>Qqx G k0 b f c d e
def Qqz(k0:J4)(a b c d e:V):=B (ja a (A 1)) λf=>Qqy G k0 b f c d e
def Qy7(k0:J4)(a b c d e:V):=Qqz G k0 a b c d e
def Qr0(G:Gt)(a b:V):=B (bin .sub false true .int a b) λc=>K c
def Sd(G:Gt):Nat→V→V→V→V→V→M→R
 |0,_,_,_,_,_,_=>none
 |i+1,a,b,e,c,d,m=>(N (aM 0 b) λf=>E (ji a f) (B (bin .sub false true .int c a) λg=>B (Xi e g) λh=>B (bin .sub false true .int d a) λj=>B (Xi b j) λl=>E (bin .neq false true .int h l) (λm=>none) (B (ja a (A 1)) λn=>(Sd G i) n b e c d)) (Qr0 G c d)) m
def Qr1:=Sd G G.bx a b c d e
def Se:=Qr1 G (A 1) a b c d
def R8(k0:J4)(a b c d:V):=B (Xi a b) λf=>B (Xi c d) λg=>E (bin .neq false true .int f g) (B (ja b (A 1)) λh=>B (gH a (some h) none) λj=>B (Xi c d) λl=>C G IB [j,l] λe=>E (bin .lss true true .int e (A 0)) (K (A (-1))) (B (ja e (A 1)) λn=>B (bin .add false true .int b n) λo=>Se G c a o d)) (Se G c a b d)
def so(G:Gt):Nat→V→V→V→V→M→R
 |0,_,_,_,_,_=>none
 |i+1,a,b,c,d,m=>(N (aM 0 b) λe=>E (ji a e) (R8 G (so G i) b a c d) (Qqw G)) m
def R7:=so G G.bx a b c d
def SM:=R7 G a b c d
def SK:=SM G a b c a
def SJ:=N (aM 0 a) λc=>B (bin .sub true true .int c (A 1)) λd=>SK G d b a
def SH:=L a (K (A (-1))) (H (conv .FD b) λd=>SJ G d c)
def Jh:=L a (H (yb b) λd=>SG G d) (C G Oz [c] λe=>B (un .not e) λf=>SH G f c b)
def Az:=L a (H (conv (.int .u8) c) λd=>C G IB [b,d] λe=>K e) (B (jk c (.int .i32 65533)) λf=>Jh G f b c)
def DY:=E (bin .leq true true .int (.int .i32 0) a) (B (bin .lss true true .int a (.int .i32 128)) λc=>Az G c b a) (Az G jj b a)
def xA:=DY G a b
def Qtt:En:=⟨_,_,func131,by kernel_rfl,_,cT (s:=(λG a b=>xA G b a)) λG a b m=>Xx (r:=v2 (xA G) 1 0) rfl rfl (ts (v2 (DY G) 1 0) (tr (Xo (aJ (f:=v3 (Az G) 160 0 1) (tr (kD (lR) (aJ (f:=v3 (Jh G) 171 0 1) (tr (kD (tr (aJ (f:=v0 (SF G))) (aJ (f:=v1 (SG G) 175) (tr (Xo (bK (λi r m=>AA G i (r 175) m) (λ_ _=>rfl) (λc=>λr m=>by kernel_rfl)))))) (aJ (f:=v3 (SH G) 183 1 0) (tr (kD (lR) (XK (aJ (f:=v2 (SJ G) 7 0) (ts (v3 (SK G) 8 0 7) (ts (v4 (SM G) 9 0 7 8) (ts (v4 (R7 G) 9 0 7 8) (tr (tr (aJ (f:=v0 (Qqw G)) (ts (v5 (Qy6 G) 0 9 8 1 7) (ts (v5 (Qqv G) 0 9 8 1 7) (tr (tr (aJ (f:=v0 (R9 G))) (kD (lR) (XK (aJ (f:=v5 (Qqu G) 7 8 9 0 14) (ts (v6 (Qqt G) 9 0 14 15 7 8) (ts (v6 (Qqs G) 9 0 14 15 7 8) (tr (Xo (bK (λi r m=>vn G i (r 9) (r 0) (r 14) (r 15) (r 7) (r 8) m) (λ_ _=>rfl) (λc=>tr (aJ (f:=v6 (Qqr G (vn G c)) 0 9 14 15 7 8) (tr (tr (aJ (f:=v6 (Sa G (vn G c)) 9 0 14 15 7 8)) (Xo (aJ (f:=v7 (Sc G (vn G c)) 139 7 0 9 8 14 15) (tr (kD (tr (aJ (f:=v2 (Qqp G) 9 8)) (aJ (f:=v7 (Qqq G (vn G c)) 16 7 0 9 8 14 15) (tr (Xo (bK (λi r m=>Sb G (vn G c) i (r 16) (r 7) (r 0) (r 9) (r 8) (r 14) (r 15) m) (λ_ _=>rfl) (λd=>λr m=>by kernel_rfl)))))) (lR)))))))))))))))))))))) (Xo (bK (λi r m=>so G i (r 9) (r 0) (r 7) (r 8) m) (λ_ _=>rfl) (λc=>tr (aJ (f:=v4 (R8 G (so G c)) 0 9 7 8) (tr (Xo (XK (aJ (f:=v4 (Se G) 7 0 9 8) (tr (tr (aJ (f:=v2 (Qr0 G) 9 8) (ts (v5 (Qy7 G (so G c)) 10 9 0 7 8) (ts (v5 (Qqz G (so G c)) 10 9 0 7 8) (ts (v5 (Qqy G (so G c)) 9 10 0 7 8) (ts (v5 (Qqx G (so G c)) 10 9 0 7 8) (ts (v5 (I1 G (so G c)) 98 9 0 7 8))))))) (aJ (f:=v5 (Qr1 G) 12 7 0 9 8) (tr (Xo (bK (λi r m=>Sd G i (r 12) (r 7) (r 0) (r 9) (r 8) m) (λ_ _=>rfl) (λd=>λr m=>by kernel_rfl)))))))))))))))))))))))))))))))))) m⟩
def TO(G:Gt)(a:V):=K (.tuple ⟨[a,(A 0)]⟩)
def AI(G:Gt):Nat→V→V→V→M→R
 |0,_,_,_,_=>none
 |i+1,a,b,c,m=>(E (bin .lss true true .int a (A 4)) (jt 1 b a λe=>C G JI [e,(A 255)] λd=>jg d 0 λf=>jg d 1 λg=>E (un .not g) (K (.tuple ⟨[(.int .u32 0),(A 4)]⟩)) (B (bin .shl true true .int c (.int .u64 8)) λh=>H (conv (.int .u32) f) λj=>B (bin .or false true .int h j) λl=>B (ja a (A 1)) λn=>(AI G i) n b l)) (TO G c)) m
def TT:=AI G G.bx a b c
def TS:=TT G (A 0) a b
def TR:=TS G a (.int .u32 0)
def TQ:=N (aM 1 a) λb=>E (bin .neq true true .int b (A 4)) (K (.tuple ⟨[(.int .u32 0),(A 4)]⟩)) (TR G a)
def TP:=C G D6 [a,(D [46])] λb=>TQ G b
def JR:=TP G a
def Zw:En:=⟨_,_,func135,by kernel_rfl,_,cg (s:=JR) λG a m=>Xx (r:=v1 (JR G) 0) rfl rfl (ts (v1 (TP G) 0) (ts (v1 (TQ G) 4) (ts (v1 (TR G) 4) (ts (v2 (TS G) 4 5) (tr (tr (aJ (f:=v1 (TO G) 5)) (aJ (f:=v3 (TT G) 14 4 5) (tr (Xo (bK (λi r m=>AI G i (r 14) (r 4) (r 5) m) (λ_ _=>rfl) (λb=>λr m=>by kernel_rfl))))))))))) m⟩
def JX:=B (un .xor a) λc=>C G Oc [c] λb=>C G JG [b] λd=>B (un .xor d) λe=>E (bin .neq false true .int e a) (K (.tuple ⟨[(A 0),(A 10)]⟩)) (K (.tuple ⟨[b,(A 0)]⟩))
def ZF:En:=⟨_,_,func136,by kernel_rfl,_,cg (s:=JX) λG a m=>Xk (r:=v1 (JX G) 0) rfl rfl m⟩
def TU:=L a (K (A 1)) (T 0 b λd=>X d λc=>F 1 b λe=>C G JG [e] λf=>jn (O false 1 d c jo) (B (bin .and false true .int c f) λg=>E (bin .neq true true .int g (.int .u32 0)) (K (A 10)) (K (A 0))))
def Qyh:=F 1 a λb=>E (bin .lss true true .int b (A 0)) (TU G jh a) (F 1 a λc=>B (bin .gtr true true .int c (A 32)) λd=>TU G d a)
def JP:=U Qe (Value.cells a).toList λb=>Qyh G b
def Zx:En:=⟨_,_,func137,by kernel_rfl,_,cg (s:=JP) λG a m=>Xk (r:=v1 (JP G) 0) rfl rfl m⟩
def Iq:=U Qe Q9 λb=>C G Qp [a,(D sc)] λc=>L c (B (Xc Q9 [(0,1),(1,1)] []) λd=>jl (Xe 2 b d) λ_=>λm=>ob (ob (X9 true 2 b m) λv=>ob (some []) λl=>some (v::l)) λl=>some (bZ l,m)) (C G Qp [a,(D Cq)] λe=>L e (C G oY [a] λf=>B (Xc Q9 [(0,1),(1,1)] [(0,f),(1,(A 32))]) λg=>jl (Xe 2 b g) λ_=>λm=>ob (ob (X9 true 2 b m) λv=>ob (some []) λl=>some (v::l)) λl=>some (bZ l,m)) (C G oY [a] λh=>C G Aq [a,jh] λj=>C G DT [a,h,j] λn=>jl (Xe 2 b n) λ_=>λm=>ob (ob (X9 true 2 b m) λv=>ob (some []) λl=>some (v::l)) λl=>some (bZ l,m)))
def Qu7:En:=⟨_,_,func138,by kernel_rfl,_,cg (s:=Iq) λG a m=>Xk (r:=v1 (Iq G) 0) rfl rfl m⟩
def DQ:=L a (jd true 2 b λg=>jl (Xe 2 c g) λ_=>λm=>ob (ob (X9 true 2 c m) λv=>ob (some []) λl=>some (v::l)) λl=>some (bZ l,m)) (C G Qp [d,(D [101,113])] λh=>L h (C G Q4 [d,(A 0),(A 65535)] λj=>H (conv (.int .u32) j) λf=>B (Xc mJ [(0,1),(1,1)] [(0,f),(1,f)]) λn=>jl (Xe 2 c n) λ_=>λm=>ob (ob (X9 true 2 c m) λv=>ob (some []) λl=>some (v::l)) λl=>some (bZ l,m)) (C G Qp [d,(D Gc)] λo=>L o (C G Q4 [d,(A 0),(A 65535)] λe=>H (conv (.int .u32) e) λp=>C G Q4 [d,e,(A 65535)] λq=>H (conv (.int .u32) q) λs=>B (Xc mJ [(0,1),(1,1)] [(0,p),(1,s)]) λt=>jl (Xe 2 c t) λ_=>λm=>ob (ob (X9 true 2 c m) λv=>ob (some []) λl=>some (v::l)) λl=>some (bZ l,m)) (jd true 2 b λu=>jl (Xe 2 c u) λ_=>λm=>ob (ob (X9 true 2 c m) λv=>ob (some []) λl=>some (v::l)) λl=>some (bZ l,m))))
def Qqh:=E (bin .neq true true .int a (A 6)) (B (bin .neq true true .int a (A 17)) λe=>DQ G e b c d) (DQ G jj b c d)
def Qqg:=B (Xc mJ [(0,1),(1,1)] [(1,(.int .u32 65535))]) λe=>U Uu mJ λd=>Y 2 d e (Qqh G a d b c)
def Dz:=U Uu mJ λc=>Qqg G a c b
def Qsf:En:=⟨_,_,func139,by kernel_rfl,_,cT (s:=(λG a b=>Dz G b a)) λG a b m=>Xk (r:=v2 (Dz G) 1 0) rfl rfl m⟩
end
end Go.Ab.Sh

set_option maxRecDepth 100000
namespace Go.Ab.Sh
open Go Go.Ab Go.Proofs Go.Proofs.Tryz
noncomputable section
variable (G:Gt)(k0:J3)(a b c d e f g h j l n o p q s t u v w x y z:V)
def Jv:=L a (B (Xc Q9 [(0,1),(1,1)] []) λg=>jl (Xe 2 b g) λ_=>λm=>ob (ob (X9 true 2 b m) λv=>ob (some [(A 4)]) λl=>some (v::l)) λl=>some (bZ l,m)) (B (Xc Q9 [(0,1),(1,1)] [(0,c),(1,d)]) λh=>U Qe Q9 λe=>Y 2 e h (jd true 2 e λj=>C G JO [j] λf=>E (bin .neq true true .int f (A 0)) (B (Xc Q9 [(0,1),(1,1)] []) λn=>jl (Xe 2 b n) λ_=>λm=>ob (ob (X9 true 2 b m) λv=>ob (some [f]) λl=>some (v::l)) λl=>some (bZ l,m)) (jd true 2 e λo=>jl (Xe 2 b o) λ_=>λm=>ob (ob (X9 true 2 b m) λv=>ob (some [(A 0)]) λl=>some (v::l)) λl=>some (bZ l,m))))
def Qsu:=E (un .not a) (Jv G jh d e f) (E (un .not b) (Jv G jh d e f) (B (bin .neq true true .int c (A 0)) λg=>Jv G g d e f))
def Qst:=C G JI [a,(A 32)] λf=>jg f 0 λg=>jg f 1 λh=>Qsu G b h c d e g
def Qss:=C G JQ [a] λe=>jg e 0 λf=>jg e 1 λg=>Qst G b c g d f
def Tc:=C G uc [a,(D [47])] λc=>jg c 0 λd=>jg c 1 λe=>jg c 2 λf=>Qss G d e f b
def Ru:=U Qe Q9 λb=>Tc G a b
def Qv8:En:=⟨_,_,func140,by kernel_rfl,_,cg (s:=Ru) λG a m=>Xk (r:=v1 (Ru G) 0) rfl rfl m⟩
def D8(G:Gt)(a b:V):=L a (K (.tuple ⟨[(.int .u32 0),(A 4)]⟩)) (K (.tuple ⟨[b,(A 0)]⟩))
def Qxs:=E (bin .neq true false .iface a .nilIface) (D8 G jh c) (E (bin .neq true false .iface b .nilIface) (D8 G jh c) (C G TF [c] λe=>B (bin .neq false true .str e d) λf=>D8 G f c))
def Qxr:=H (conv (.int .u32) a) λf=>B (bin .shl true true .int f (.int .u64 16)) λg=>H (conv (.int .u32) b) λh=>B (bin .or false true .int g h) λj=>Qxs G c d j e
def Qxq:=C G Qv [a,(A 10),(A 16)] λe=>jg e 0 λf=>jg e 1 λg=>Qxr G b f c g d
def Qxp:=C G Qv [a,(A 10),(A 16)] λd=>jg d 0 λe=>jg d 1 λf=>Qxq G b e f c
def Qxo:=C G uc [a,(D [58])] λb=>jg b 0 λc=>jg b 1 λd=>jg b 2 λe=>Qxp G c d a
def JF:=Qxo G a
def Qzi:En:=⟨_,_,func141,by kernel_rfl,_,cg (s:=JF) λG a m=>Xk (r:=v1 (JF G) 0) rfl rfl m⟩
def tY(G:Gt)(a:V):=K a
def Ay(G:Gt):Nat→V→V→V→V→M→R
 |0,_,_,_,_,_=>none
 |i+1,f,a,b,c,m=>(L f (je 12 a λd=>X d λe=>C G Q4 [b,(A 1),(A 4294967295)] λg=>jn (O false 1 d e jo) (H (conv (.int .u32) g) λh=>jm sE [(.int .u32 0)] 1 4 e h λj=>Z 12 a j (C G xr [b] λl=>(Ay G i) l a b c))) (tY G c)) m
def Qtf:=Ay G G.bx a b c d
def Tk:=L a (Qtf G jh b c d) (E (P e (D Zs)) (C G I4 [c] λf=>Z 13 b f (tY G d)) (C G Qd [c,(A 130)] λg=>tY G d))
def Tj:=L a (C G Qp [c,(D zB)] λf=>Z 11 b f (C G HR [c] λg=>Z 10 b g (tY G d))) (B (P e (D Zr)) λh=>Tk G h b c d e)
def Ti:=L a (C G Q4 [c,(A 0),(A 16777216)] λf=>Z 9 b f (tY G d)) (B (P e (D Zq)) λg=>Tj G g b c d e)
def Th:=L a (C G Q4 [c,(A 0),(A 16777216)] λf=>Z 8 b f (tY G d)) (B (P e (D lX)) λg=>Ti G g b c d e)
def Tg:=L a (C G Q4 [c,(A 0),(A 16777216)] λf=>Z 7 b f (tY G d)) (B (P e (D Zp)) λg=>Th G g b c d e)
def Tf:=B (P a (D oV)) λe=>Tg G e b c d a
def Te:=Tf G a b c a
def Td:=C G Qr [a] λc=>Te G c b a
def DX:=Td G a b
def Qvf:En:=⟨_,_,func142,by kernel_rfl,_,mU (s:=(λG c a b=>DX G a b)) λG c a b m=>Xx (r:=v2 (DX G) 1 2) rfl rfl (ts (v2 (Td G) 1 2) (ts (v3 (Te G) 7 2 1) (tr (tr (aJ (f:=v1 (tY G) 7)) (aJ (f:=v4 (Tf G) 11 2 1 7) (tr (Xo (aJ (f:=v5 (Tg G) 14 2 1 7 11) (tr (kD (lR) (aJ (f:=v5 (Th G) 21 2 1 7 11) (tr (kD (lR) (aJ (f:=v5 (Ti G) 28 2 1 7 11) (tr (kD (lR) (aJ (f:=v5 (Tj G) 35 2 1 7 11) (tr (kD (lR) (aJ (f:=v5 (Tk G) 47 2 1 7 11) (tr (kD (aJ (f:=v4 (Qtf G) 8 2 1 7) (tr (Xo (bK (λi r m=>Ay G i (r 8) (r 2) (r 1) (r 7) m) (λ_ _=>rfl) (λd=>λr m=>by kernel_rfl))))) (lR))))))))))))))))))))))) m⟩
def TE:=L a (B (Xi c (A 0)) λf=>B (Xi c (A 0)) λg=>C G Qxj [b,f] λh=>C G O8 [h,g] λj=>K j) (C G HA [c] λd=>jg d 0 λl=>jg d 1 λn=>U xE xF λe=>Y 256 e l (L n (C G Ox [b,e] λo=>C G Hs [o,e] λp=>K p) (C G Qwc [b,c] λq=>C G Qo0 [q,c] λs=>K s)))
def Qx9:=N (aM 0 a) λc=>E (jk c (A 1)) (B (Xi a (A 0)) λd=>B (bin .lss true true .int d (.int .u8 128)) λe=>TE G e b a) (TE G jj b a)
def TD:=L a (K b) (Qx9 G c b)
def Qx8:=E (P a (D [])) (TD G jh a b) (B (P b (D [])) λc=>TD G c a b)
def JE:=Qx8 G a b
def Qye:En:=⟨_,_,func144,by kernel_rfl,_,cT (s:=JE) λG a b m=>Xk (r:=v2 (JE G) 0 1) rfl rfl m⟩
def H3(G:Gt)(b a:V):=jd true 4 b λc=>jl (Xe 4 a c) λ_=>λm=>ob (ob (X9 true 4 a m) λv=>ob (some []) λl=>some (v::l)) λl=>some (bZ l,m)
def DA:=C G Qp [a,(D dH)] λd=>L d (C G Qo [a] λe=>jf 3 b e (H3 G b c)) (H3 G b c)
def H4:=L a (jf 2 b (.int .u8 2) (C G Qp [c,(D zy)] λe=>L e (C G Q4 [c,(A 1),(A 2)] λf=>H (conv (.int .u8) f) λg=>jf 2 b g (DA G c b d)) (DA G c b d))) (DA G c b d)
def QW:=C G Qp [a,(D oV)] λe=>L e (C G Q4 [a,(A 0),(A 16777216)] λf=>jf 1 b f (H4 G c b a d)) (H4 G c b a d)
def Qoz:=H (X8 fJ [(.int .u8 0)] 1 3 [(0,(.int .u8 1)),(1,(.int .u8 2)),(2,a)]) λg=>H (ju (D qJ) (D qK) c) λh=>C G nK [b,h] λj=>jt 1 g j λl=>B (Xc ku [(0,1),(1,1),(2,1),(3,1)] [(0,l),(1,(A (-1)))]) λn=>U pY ku λf=>Y 4 f n (QW G b f d e)
def Dm:=U pY ku λe=>Qoz G a b c d e
def Qrh:En:=⟨_,_,func146,by kernel_rfl,_,E9 (s:=(λG a b c d=>Dm G c a b d)) λG a b c d m=>Xk (r:=v4 (Dm G) 2 0 1 3) rfl rfl m⟩
def Jp:=U Qe (Value.cells a).toList λd=>F 0 d λe=>T 1 d λb=>X b λc=>C G AM [e] λf=>jn (O false 1 b c jo) (B (bin .add true true .str f (D [47])) λg=>C G qV [c] λh=>B (bin .add false true .str g h) λj=>K j)
def Qwh:En:=⟨_,_,func147,by kernel_rfl,_,cg (s:=Jp) λG a m=>Xk (r:=v1 (Jp G) 0) rfl rfl m⟩
end
end Go.Ab.Sh

set_option maxRecDepth 100000
namespace Go.Ab.Sh
open Go Go.Ab Go.Proofs Go.Proofs.Tryz
noncomputable section
variable (G:Gt)(k0:J3)(a b c d e f g h j l n o p q s t u v w x y z:V)
def Di:=jp G Qg [a,b]
def HM:=L a (jc 4 b λg=>jd true 6 d λh=>jb 6 g c λj=>Y 6 j h (Di G e f)) (E (bin .lss true true .int c (A 0)) (Z 16 e jh (jq)) (Di G e f))
def HL:=L a (jc 4 b λh=>jd true 6 c λj=>jm sC sx 6 48 h j λl=>Z 4 b l (Di G d e)) (E (bin .geq true true .int f (A 0)) (B (bin .neq true true .int g (A 0)) λn=>HM G n b f c d e) (HM G jj b f c d e))
def wZ:=E (jk a (A 0)) (B (bin .lss true true .int b (A 0)) λg=>HL G g c d e f b a) (HL G jj c d e f b a)
def QB:=E (jk a (A 0)) (X b λj=>C G Q4 [c,(A 1),(A 4294967295)] λn=>jn (O false 1 b j jo) (H (conv (.int .u32) n) λo=>B (Xc sx [(0,1),(1,1),(2,1),(3,1),(4,1),(5,1)] [(0,j),(1,o)]) λp=>Y 6 d p (wZ G a e f d g h))) (E (jk a (A 1)) (C G Qo [c] λl=>H (jr (D cQ) (D ed)) λq=>C G nK [c,q] λs=>E (jk s (A 0)) (jm Qc [(D [])] 1 16 h (D cQ) λt=>jf 2 d l (wZ G a e f d g t)) (jm Qc [(D [])] 1 16 h (D ed) λu=>jf 3 d l (wZ G a e f d g u))) (E (jk a (A 2)) (jf 4 d jh (wZ G a e f d g h)) (jf 5 d jh (wZ G a e f d g h))))
def HN:=X a λl=>H (jx (D jD) (D dH) (D sg) (D si)) λn=>jb 1 n b λh=>X h λj=>C G AM [l] λo=>jn (O false 1 h j jo) (H (ju (D zG) o j) λp=>QB G b a c d e f g p)
def Qnz:=E (bin .geq true true .int a (A 0)) (jc 4 b λh=>jb 6 h a λj=>jd true 6 j λl=>Y 6 c l (HN G d e f c a b g)) (HN G d e f c a b g)
def Qny:=U sC sx λg=>Qnz G a b g c d e f
def Qnx:=H (jx (D jD) (D dH) (D sg) (D si)) λf=>C G nK [a,f] λg=>Qny G b c d g a e
def Qnw:=jc 4 a λe=>C G Gy [e,(.func (.func zQ) ⟨[]⟩ ⟨[b]⟩)] λf=>Qnx G c f a b d
def C7:=C G oY [a] λe=>U XfC [(.int .u32 0)] λd=>Y 1 d e (Qnw G b d a c)
def Qox:En:=⟨_,_,func148,by kernel_rfl,_,mU (s:=(λG a b c=>C7 G b c a)) λG a b c m=>Xk (r:=v3 (C7 G) 1 2 0) rfl rfl m⟩
def R5:=L a (K (A 1)) (T 0 b λd=>X d λc=>H (conv (.int .u64) c) λe=>F 1 b λf=>C G II [f] λg=>jn (O false 1 d c jo) (B (bin .rem false true .int e g) λh=>E (bin .neq true true .int h (.int .u64 0)) (K (A 10)) (K (A 0))))
def Qq0:=F 1 a λb=>E (bin .lss true true .int b (A 0)) (R5 G jh a) (F 1 a λc=>B (bin .gtr true true .int c (A 32)) λd=>R5 G d a)
def HZ:=U Qe (Value.cells a).toList λb=>Qq0 G b
def Qsm:En:=⟨_,_,func154,by kernel_rfl,_,cg (s:=HZ) λG a m=>Xk (r:=v1 (HZ G) 0) rfl rfl m⟩
def O2(G:Gt)(a:V):=B (Xc Q9 [(0,1),(1,1)] []) λb=>jl (Xe 2 a b) λ_=>λm=>ob (ob (X9 true 2 a m) λv=>ob (some [(A 4)]) λl=>some (v::l)) λl=>some (bZ l,m)
def O3:=L a (B (Xc Q9 [(0,1),(1,1)] []) λf=>jl (Xe 2 b f) λ_=>λm=>ob (ob (X9 true 2 b m) λv=>ob (some [(A 4)]) λl=>some (v::l)) λl=>some (bZ l,m)) (B (Xc Q9 [(0,1),(1,1)] [(0,c),(1,d)]) λg=>U Qe Q9 λe=>Y 2 e g (jd true 2 e λh=>C G HY [h] λj=>E (bin .neq true true .int j (A 0)) (B (Xc Q9 [(0,1),(1,1)] []) λn=>jl (Xe 2 b n) λ_=>λm=>ob (ob (X9 true 2 b m) λv=>ob (some [(A 10)]) λl=>some (v::l)) λl=>some (bZ l,m)) (jd true 2 e λo=>jl (Xe 2 b o) λ_=>λm=>ob (ob (X9 true 2 b m) λv=>ob (some [(A 0)]) λl=>some (v::l)) λl=>some (bZ l,m))))
def Qkr:=E (bin .neq true true .int a (A 0)) (O3 G jh c d b) (B (bin .lss true true .int b (A 0)) λe=>O3 G e c d b)
def Qkq:=B (ja b (A 1)) λf=>B (gH a (some f) none) λg=>C G Ar [g,(A 32)] λh=>Qkr G c h d e
def Qkp:=L a (B (gH b none (some c)) λf=>C G H0 [f] λe=>jg e 0 λg=>jg e 1 λh=>Qkq G b c h d g) (B (ja c (A 1)) λj=>k0 j b d)
def Qko:=B (Xi a b) λd=>B (jk d (.int .u8 47)) λe=>Qkp G k0 e a b c
def zU(G:Gt):Nat→V→V→V→M→R
 |0,_,_,_,_=>none
 |i+1,a,b,c,m=>(N (aM 0 b) λd=>E (ji a d) (Qko G (zU G i) b a c) (O2 G c)) m
def Qle:=zU G G.bx a b c
def Qlf:=Qle G (A 0) a b
def Oe:=U Qe Q9 λb=>Qlf G a b
def Qml:En:=⟨_,_,func155,by kernel_rfl,_,cg (s:=Oe) λG a m=>Xx (r:=v1 (Oe G) 0) rfl rfl (ts (v2 (Qlf G) 0 2) (tr (tr (aJ (f:=v1 (O2 G) 2)) (aJ (f:=v3 (Qle G) 4 0 2) (tr (Xo (bK (λi r m=>zU G i (r 4) (r 0) (r 2) m) (λ_ _=>rfl) (λb=>λr m=>by kernel_rfl)))))))) m⟩
def Ry(G:Gt):=K (.tuple ⟨[(.int .u32 0),(A 4)]⟩)
def Rz(G:Gt)(a b c:V):=L a (K (.tuple ⟨[(.int .u32 0),(A 4)]⟩)) (B (bin .mul true true .int (A 65536) b) λd=>B (bin .add false true .int d c) λe=>H (conv (.int .u32) e) λf=>K (.tuple ⟨[f,(A 0)]⟩))
def Qpm:=E (bin .lss true true .int a (A 0)) (Rz G jh a b) (B (bin .lss true true .int b (A 0)) λc=>Rz G c a b)
def Qpl:=B (ja b (A 1)) λd=>B (gH a (some d) none) λe=>C G Ar [e,(A 65535)] λf=>Qpm G c f
def Qpk(k0:J2)(a b c:V):=L a (B (gH b none (some c)) λd=>C G Ar [d,(A 65535)] λe=>Qpl G b c e) (B (ja c (A 1)) λf=>k0 f b)
def Qpj(k0:J2)(a b:V):=B (Xi a b) λc=>B (jk c (.int .u8 58)) λd=>Qpk G k0 d a b
def Aj(G:Gt):Nat→V→V→M→R
 |0,_,_,_=>none
 |i+1,a,b,m=>(N (aM 0 b) λc=>E (ji a c) (Qpj G (Aj G i) b a) (Ry G)) m
def RB:=Aj G G.bx a b
def RA:=RB G (A 0) a
def HT:=RA G a
def Qsk:En:=⟨_,_,func156,by kernel_rfl,_,cg (s:=HT) λG a m=>Xx (r:=v1 (HT G) 0) rfl rfl (ts (v1 (RA G) 0) (tr (tr (aJ (f:=v0 (Ry G))) (aJ (f:=v2 (RB G) 4 0) (tr (Xo (bK (λi r m=>Aj G i (r 4) (r 0) m) (λ_ _=>rfl) (λb=>λr m=>by kernel_rfl)))))))) m⟩
def Qry(G:Gt):=K (.tuple ⟨[(A 0),(A 10)]⟩)
def AD(G:Gt):Nat→V→V→M→R
 |0,_,_,_=>none
 |i+1,a,b,m=>(E (bin .leq true true .int a (A 32)) (C G QU [a] λc=>jg c 0 λd=>jg c 1 λf=>E (bin .eql false true .int d b) (K (.tuple ⟨[a,(A 0)]⟩)) (B (ja a (A 1)) λe=>(AD G i) e b)) (Qry G)) m
def SV:=AD G G.bx a b
def SU:=SV G (A 0) a
def ID:=SU G a
def Qty:En:=⟨_,_,func157,by kernel_rfl,_,cg (s:=ID) λG a m=>Xx (r:=v1 (ID G) 0) rfl rfl (ts (v1 (SU G) 0) (tr (tr (aJ (f:=v0 (Qry G))) (aJ (f:=v2 (SV G) 4 0) (tr (Xo (bK (λi r m=>AD G i (r 4) (r 0) m) (λ_ _=>rfl) (λb=>λr m=>by kernel_rfl)))))))) m⟩
def Jg(G:Gt)(a b:V):=E (bin .gtr false true .int a b) (K (A (-1))) (K a)
def Su(G:Gt)(k0:J4)(c d a b e:V):=L c (K (A (-1))) (B (bin .mul true true .int (A 10) d) λf=>B (Xi a b) λg=>B (bin .sub true true .int g (.int .u8 48)) λh=>H (conv (.int .i64) h) λj=>B (bin .add false true .int f j) λl=>B (ja b (A 1)) λn=>k0 n a l e)
def Qrj(k0:J4)(a b c d:V):=B (Xi a b) λe=>E (bin .lss true true .int e (.int .u8 48)) (Su G k0 jh c a b d) (B (Xi a b) λf=>B (bin .gtr true true .int f (.int .u8 57)) λg=>Su G k0 g c a b d)
def vp(G:Gt):Nat→V→V→V→V→M→R
 |0,_,_,_,_,_=>none
 |i+1,a,b,c,d,m=>(N (aM 0 b) λe=>E (ji a e) (Qrj G (vp G i) b a c d) (Jg G c d)) m
def Qrz:=vp G G.bx a b c d
def Qs0:=Qrz G (A 0) a b c
def Sw:=Qs0 G a (A 0) b
def Aw:=L a (K (A (-1))) (Sw G b c)
def Sv:=E (P a (D [])) (Aw G jh a b) (N (aM 0 a) λc=>E (bin .gtr true true .int c (A 12)) (Aw G jh a b) (N (aM 0 a) λd=>E (bin .gtr true true .int d (A 1)) (B (Xi a (A 0)) λe=>B (jk e (.int .u8 48)) λf=>Aw G f a b) (Aw G jj a b)))
def IF:=Sv G a b
def Qub:En:=⟨_,_,func158,by kernel_rfl,_,cT (s:=IF) λG a b m=>Xx (r:=v2 (IF G) 0 1) rfl rfl (ts (v2 (Sv G) 0 1) (tr (tr (aJ (f:=v2 (Sw G) 0 1) (ts (v3 (Qs0 G) 0 5 1) (tr (tr (aJ (f:=v2 (Jg G) 5 1)) (aJ (f:=v4 (Qrz G) 6 0 5 1) (tr (Xo (bK (λi r m=>vp G i (r 6) (r 0) (r 5) (r 1) m) (λ_ _=>rfl) (λc=>λr m=>by kernel_rfl))))))))) (aJ (f:=v3 (Aw G) 23 0 1))))) m⟩
def IH:=H (conv (.int .i64) a) λb=>B (bin .quo true true .int b (A 16777216)) λc=>C G oX [c] λd=>B (bin .add true true .str d (D [46])) λe=>B (bin .quo true true .int b (A 65536)) λf=>B (bin .rem true true .int f (A 256)) λg=>C G oX [g] λh=>B (bin .add false true .str e h) λj=>B (bin .add true true .str j (D [46])) λl=>B (bin .quo true true .int b (A 256)) λn=>B (bin .rem true true .int n (A 256)) λo=>C G oX [o] λp=>B (bin .add false true .str l p) λq=>B (bin .add true true .str q (D [46])) λs=>B (bin .rem true true .int b (A 256)) λt=>C G oX [t] λu=>B (bin .add false true .str s u) λv=>K v
def Qto:En:=⟨_,_,func159,by kernel_rfl,_,cg (s:=IH) λG a m=>Xk (r:=v1 (IH G) 0) rfl rfl m⟩
end
end Go.Ab.Sh

set_option maxRecDepth 100000
namespace Go.Ab.Sh
open Go Go.Ab Go.Proofs Go.Proofs.Tryz
noncomputable section
variable (G:Gt)(k0:J3)(a b c d e f g h j l n o p q s t u v w x y z:V)
def IC:=C G CF [a,b] λc=>K c
def Qtp:En:=⟨_,_,func167,by kernel_rfl,_,cT (s:=IC) λG a b m=>Xk (r:=v2 (IC G) 0 1) rfl rfl m⟩
def PT(G:Gt)(a:V):=L a (K jh) (K jj)
def PR:=L a (K jh) (E (bin .lss true true .int (.int .i32 57343) b) (B (bin .leq true true .int b (.int .i32 1114111)) λc=>PT G c) (PT G jj))
def Qn4:=E (bin .leq true true .int (.int .i32 0) a) (B (bin .lss true true .int a (.int .i32 55296)) λb=>PR G b a) (PR G jj a)
def Ho:=Qn4 G a
def Qo8:En:=⟨_,_,func168,by kernel_rfl,_,cg (s:=Ho) λG a m=>Xk (r:=v1 (Ho G) 0) rfl rfl m⟩
def Ea(G:Gt)(a b:V):=K (.tuple ⟨[a,b]⟩)
def Qxu:=E (bin .eql true false .iface b .nilIface) (E (bin .geq true true .int a (A 0)) (E (bin .leq false true .int a c) (C G qV [a] λe=>B (bin .eql false true .str e d) λf=>Ea G a f) (Ea G a jj)) (Ea G a jj)) (Ea G a jj)
def Qxt:=C G vw [a] λc=>jg c 0 λd=>jg c 1 λe=>Qxu G d e b a
def JJ:=Qxt G a b
def Qzh:En:=⟨_,_,func171,by kernel_rfl,_,cT (s:=JJ) λG a b m=>Xk (r:=v2 (JJ G) 0 1) rfl rfl m⟩
def GX:=C G Si [a] λb=>B (bin .sub true true .int (A 32) b) λc=>K c
def Qms:En:=⟨_,_,func172,by kernel_rfl,_,cg (s:=GX) λG a m=>Xk (r:=v1 (GX G) 0) rfl rfl m⟩
def JH(G:Gt)(a:V):=B (bin .sub true true .int (A 32) a) λb=>B (bin .shl true true .int (.int .u64 1) b) λc=>B (bin .sub true true .int c (.int .u64 1)) λd=>H (conv (.int .u32) d) λe=>K e
def Qzj:En:=⟨_,_,func173,by kernel_rfl,_,cg (s:=JH) λG a m=>Xk (r:=v1 (JH G) 0) rfl rfl m⟩
def JM:=B (bin .shr true true .int a (.int .u64 16)) λb=>H (conv (.int .i64) b) λc=>C G qV [c] λd=>B (bin .add true true .str d (D [58])) λe=>B (bin .and true true .int a (.int .u32 65535)) λf=>H (conv (.int .i64) f) λg=>C G qV [g] λh=>B (bin .add false true .str e h) λj=>K j
def Zv:En:=⟨_,_,func175,by kernel_rfl,_,cg (s:=JM) λG a m=>Xk (r:=v1 (JM G) 0) rfl rfl m⟩
def PV(G:Gt)(a:V):=K a
def De(G:Gt):Nat→V→V→M→R
 |0,_,_,_=>none
 |i+1,a,b,m=>(N (aM 0 a) λc=>E (bin .gtr true true .int c (A 0)) (N (aM 0 a) λd=>B (bin .sub true true .int d (A 1)) λe=>B (Xi a e) λf=>C G GF [b,f] λg=>E (un .not g) (PV G a) (N (aM 0 a) λh=>B (bin .sub true true .int h (A 1)) λj=>B (gH a none (some j)) λl=>(De G i) l b)) (PV G a)) m
def Qnb:=De G G.bx a b
def Oy:=Qnb G a b
def Qo9:En:=⟨_,_,func178,by kernel_rfl,_,cT (s:=Oy) λG a b m=>Xx (r:=v2 (Oy G) 0 1) rfl rfl (ts (v2 (Qnb G) 0 1) (tr (tr (aJ (f:=v1 (PV G) 0)) (Xo (bK (λi r m=>De G i (r 0) (r 1) m) (λ_ _=>rfl) (λc=>λr m=>by kernel_rfl)))))) m⟩
def ZP(G:Gt):=K (A (-1))
def zM(G:Gt):Nat→V→V→V→V→M→R
 |0,_,_,_,_,_=>none
 |i+1,a,b,c,d,m=>(E (ji a b) (jb 6 d a λe=>jd true 6 e λf=>H (o9 G.dN c [f]) λg=>L g (K a) (B (ja a (A 1)) λh=>(zM G i) h b c d)) (ZP G)) m
def NY:=zM G G.bx a b c d
def NW:=N (aM 1 a) λc=>NY G (A 0) c b a
def Gz:=NW G a b
def ZQ:En:=⟨_,_,func182,by kernel_rfl,_,cT (s:=Gz) λG a b m=>Xx (r:=v2 (Gz G) 0 1) rfl rfl (ts (v2 (NW G) 0 1) (tr (tr (aJ (f:=v0 (ZP G))) (aJ (f:=v4 (NY G) 8 7 1 0) (tr (Xo (bK (λi r m=>zM G i (r 8) (r 7) (r 1) (r 0) m) (λ_ _=>rfl) (λc=>λr m=>by kernel_rfl)))))))) m⟩
def G0(G:Gt)(a b:V):=U sC (Value.cells a).toList λc=>F 0 c λd=>X b λe=>B (bin .eql false true .int d e) λf=>K f
def Qnk:En:=⟨_,_,func183,by kernel_rfl,_,cT (s:=G0) λG a b m=>Xk (r:=v2 (G0 G) 0 1) rfl rfl m⟩
def Sx(G:Gt)(a:V):=K a
def Ax(G:Gt):Nat→V→V→M→R
 |0,_,_,_=>none
 |i+1,a,b,m=>(E (bin .lss true true .int a (A 32)) (B (bin .mul true true .int (.int .u64 2) b) λc=>B (ja a (A 1)) λd=>(Ax G i) d c) (Sx G b)) m
def SC:=Ax G G.bx a b
def Sz:=SC G a b
def Sy:=Sz G a (.int .u64 1)
def IJ:=Sy G a
def Qtx:En:=⟨_,_,func185,by kernel_rfl,_,cg (s:=IJ) λG a m=>Xx (r:=v1 (IJ G) 0) rfl rfl (ts (v1 (Sy G) 0) (ts (v2 (Sz G) 0 3) (tr (tr (aJ (f:=v1 (Sx G) 3)) (aJ (f:=v2 (SC G) 4 3) (tr (Xo (bK (λi r m=>Ax G i (r 4) (r 3) m) (λ_ _=>rfl) (λb=>λr m=>by kernel_rfl))))))))) m⟩
def SS:=L a (K (.tuple ⟨[(.int .u32 0),(A 1)]⟩)) (C G II [b] λc=>B (bin .sub true true .int (.int .u64 4294967296) c) λd=>H (conv (.int .u32) d) λe=>K (.tuple ⟨[e,(A 0)]⟩))
def Qrx:=E (bin .lss true true .int a (A 0)) (SS G jh a) (B (bin .gtr true true .int a (A 32)) λb=>SS G b a)
def IE:=Qrx G a
def Qu8:En:=⟨_,_,func186,by kernel_rfl,_,cg (s:=IE) λG a m=>Xk (r:=v1 (IE G) 0) rfl rfl m⟩
end
end Go.Ab.Sh
