/-
  What the functions of the program answer, at every text and every question. No conditions.
-/
import Derived.Test.YtodhdplpcelokaaGreatDoorA3
import Derived.Test.YtodhdplpcelokaaGreatDoorA2
set_option linter.all false
set_option maxRecDepth 100000
noncomputable section
namespace Go.Ab.Sh
open Go Go.Ab Go.Lib
variable {b:Nat}{k:Key}{l:List Cl}
variable {c:Cx}{G m:Mem}{Q j i7:ay}{J s u i5 S':ao}{o V' A' h Z':Nat}{ts:List Tmp}{x:Option Rs}{i8:Value->Nat->ay->ao->Prop}{v:Value}{cu:Cu}
def ri(p:Nat->Bool)(sz f:Nat):Nat->Nat->Option Nat->Option Nat
 |0,_,a=>a
 |n+1,i,a=>ri p sz f n (i+1) (if p (i*sz+f)=true then some i else a)
def Kx(p sz f):∀n i c,gx p sz f n i=some c->i<=c/\c<i+n/\p (c*sz+f)=true
 |0,i,c,h=>by cases h
 |n+1,i,c,h=>by
  unfold gx at h;split at h
  ·grind
  ·obtain⟨a,b,d⟩:=Kx p sz f n _ c h
   grind
def WJ(p sz f):∀n i,(∀b c,i<=b->b<i+n->i<=c->c<i+n->p (b*sz+f)=true->p (c*sz+f)=true->b=c)->∀a,ri p sz f n i a=match gx p sz f n i with|some b=>some b|none=>a
 |0,i,_,a=>rfl
 |n+1,i,g,a=>by
  have er:gx p sz f (n+1) i=if p _=true then some i else gx p sz f n _:=rfl;unfold ri;rw[WJ p sz f n (i+1) (λb c k l m o=>g b c aa aa aa aa),er];by_cases d:p (i*sz+f)=true
  ·rw[ah d,ah d];cases e:gx p sz f n (i+1)with
   |none=>rfl
   |some b =>
    have ⟨j,g2,g3⟩:=Kx p sz f n _ b e
    grind
  grind
def W.XrW[cG c](h:W c G Q J o m j s ts):∃m1,Xe 1 (pt c.P (0+17) 0) (.bool true) m=some m1/\W c G Q J o m1 j (s.aC [0] 16 [.bool true]) ts:=by
 obtain⟨l,a,b⟩:=h.ps.wt.root;obtain⟨d,x,A⟩:=h.ps.wt.get a rfl (y:=16) aa;obtain⟨z,rfl⟩:∃z,d=.v z:=by
  cases d with
  |v z=>simp
  |s n B=>trivial
 have r:(gy c s l)[5]?=some (.v z):=by rw[gN];unfold ey;rw[x];rfl
 have g:=λt=>aX (z:=([.bool true]).map Cl.v) (by show 16+1<=l.length;omega) t;have e:∀i d,([.bool true])[i]?=some d->dz (bo 0 (16+i)) (.v d):=λi d q=>by
  match i,q with
  |0,q=>cases q;exact fV true
 have ok:mL c (s.aC [0] 16 _):=⟨h.ps.ok.le,h.ps.ok.ee,h.ps.wt.st a rfl (by show 16+1<=l.length;omega) e,h.ps.ok.il,h.ps.ok.ge.to λu w _=>oT (yo h.ps.wt a rfl (by show 16+1<=l.length;omega) e u w).symm⟩
 refine h.B7 a aa r rfl rfl (fp a 16 _) (by rw[show(16+([.bool true]:List ae).length)=16+(([.bool true]:List ae).map Cl.v).length from rfl,EU (by show 16+1<=l.length;omega)];exact b) rfl rfl ?_ ?_ ok
 ·grind
 ·rw[gN,gN];have f:ey (l.take 16++([.bool true]).map Cl.v++l.drop (16+([.bool true]:List ae).length)) 15=ey l 15:=by unfold ey;rw[show(l.take 16++([.bool true]:List ae).map Cl.v++l.drop (16+([.bool true]:List ae).length))[15]?=_ from g 15];rfl
  have k:ey (l.take 16++([.bool true]).map Cl.v++l.drop (16+([.bool true]:List ae).length)) 16=.v (.bool true):=by unfold ey;rw[show(l.take 16++([.bool true]:List ae).map Cl.v++l.drop (16+([.bool true]:List ae).length))[16]?=_ from g 16];rfl
  have p:ey (l.take 16++([.bool true]:List ae).map Cl.v++l.drop (16+([.bool true]:List ae).length)) 17=ey l 17:=by unfold ey;rw[show(l.take 16++([.bool true]:List ae).map Cl.v++l.drop (16+([.bool true]:List ae).length))[17]?=_ from g 17];rfl
  rw[f,k,p];rfl
def LA(s:ao)(b a n i:Nat)(c:Option Nat):Option Nat:=ri (λd=>decide (bI s.X [b*6+4,11,0] d=(a:Int))) 6 0 n i c
def Xnz(h:PS c o m j s)(H:o<=8589934592){b a l}(p:s.X [11,0]=some (.c l))(t:b*6+6<=l.length)(M'):∀n i f d,i+n=au s.X [11,0] (b*6+4)->n<f ->
  wV M' f (I i) (pt (j [11,0]).b (b*6) (j [11,0]).ver) (u32 a) (fU d) (pt c.C 0 0) (pt c.P 0 0) m=GL M' (fU (LA s b a n i d)) (pt (j [11,0]).b (b*6) (j [11,0]).ver) (pt c.C 0 0) (u32 a) (pt c.P 0 0) m
 |n,i,0,d,_,hf=>aa
 |0,i,f+1,d,hn,hf=>by
  have g:bo 16 (b*6+4)=some (.l 18):=by rw[fd_row (r:=16) (sz:=6) rfl b 4 aa];rfl
  have ⟨_,_,ld,_,_⟩:=h.list p iC (y:=b*6+4) aa g;unfold wV;delta E jc N ji;simp only[Xg,X7,X3,ld,dx,Qb,Xf];rw[af aa];rfl
 |n+1,i,f+1,d,hn,hf=>by
  have g:bo 16 (b*6+4)=some (.l 18):=by rw[fd_row (r:=16) (sz:=6) rfl b 4 aa];rfl
  have ⟨_,K,ld,_,L⟩:=h.list p iC (y:=b*6+4) aa g;have hi:i<au s.X [11,0] (b*6+4):=aa;have ⟨l2,w,z,D⟩:=L aa;have ld:X9 _ 1 _ m=some (ax _ _ 6):=ld;have ix:Xd 6 _ (I i)=some _:=eU _ D _ 6 i _ hi;have J:=h.XdS w (fB iC g) rfl z rfl i hi;have ⟨ty,k⟩:=h.aF w (λe=>aq) (λe=>aq);have v:X9 _ 1 (pt _ (i*6+0) _) m=some (.int _ (bI s.X _ (i*6+0))):=Xt k J;have G:bin .add true true .int (I i) (.int .i64 1)=some (I (i+1:Nat)):=by rw[cz];have:((i:Nat):Int)+1=((i+1:Nat):Int):=aa;rw[this,wrap64 _ aa]
  have x:=λd=>Xnz h H (a:=a) p t M' n (i+1) f d aa aa;unfold wV;delta E jc N ji;simp only[Xg,X7,X3,ld,dx,Qb,Xf];rw[ah aa];delta ZR N7 F E jc B jb ja A;simp only[Xg,X7,X3,ld,ix,v,dI,Xf,G];unfold LA ri;by_cases q:bI s.X [b*6+4,11,0] (i*6+0)=(a)
  ·rw[ah q,ah aq];exact x (some i)
  ·rw[af q,af aq];exact x d
def UI[r:cG c](f:o<=8589934592)(hn:s.rs.num<1000000000000)(b:jT s){a}(k:a<4294967296){z kws}(A:kws≠[])(E:z.length<=200000)(d)(h:W c G Q J o m j u ts)(e:u.rs=s.rs)(g:u.cu=i5.cu)
  (i:i5.cu.er.isNone=true->z=Xr [32] kws/\u.df=s.df/\aS u.X=aS s.X/\i5=cX (Xl u (kK::bN a::kws)) s (kK::bN a::kws)) (y:o+1<=V'+Z') :
  aK c G Q J (GM (aH (d+4)) (pt c.P 0 0) (u32 a) (sv z) m) (QR V' Z' (.tuple ⟨[]⟩) i5):=by
 have x:=VJ a k;delta GM C B D jp;have t:TA (d+4) _ [u32 a] m=some _:=XdE a k _ m;generalize bN a=T at *;have e1:bin _ _ _ _ (.string ⟨#[110,101,105,103,104,98,111,114,32]⟩) _=some (sv (Cr++T)):=Qu true true _ (T) Co;have e2:bin _ _ _ _ _ (.string ⟨#[32]⟩)=some (sv (Cr++T++[32])):=Qu true true (Cr++T) _ Co;simp only[t,X4,e1,e2,Qu false true (Cr++T++[32]) z Co,X3];refine h.qv f (by rw[e];exact hn) Co (ws:=kK::T::kws) g (λq=>?_) y _;obtain⟨rfl,l,n,p⟩:=i q;have w:Cr++T++[32]++Xr [32] kws=Xr [32] (kK::T::kws):=by rw[Vd,af ar,Vd,af A];simp
 rw[w];refine⟨b.one e l n _ _ rfl,?_⟩;rw[p];unfold cX iA;rw[<-e];rfl
def Fm[r:cG c](C:o<=8589934592)(hn:s.rs.num<1000000000000)(n:jT s){a b za8 l i yl}(V:a<4294967296){z:ai}{kws}(hk:kws≠[])(hz:z.length<=200000)(x:z≠jD)(d)(h:W c G j s o m j u ts)
  (hl:u.X [11,0]=some (.c l)) (a0:b*6+6<=l.length) (hi:∀g,i=some g->g<au u.X [11,0] (b*6+4)) (B:(za8,0,yl)∈ts) (w:yl.length=6) (H:B3 (ch 18) (yl.map .v)) (F:yl.all one=true) (U:u.rs=s.rs) (p:u.cu=i5.cu)
  (t:i5.cu.er.isNone=true->z=Xr [32] kws/\u.df=s.df/\aS u.X=aS s.X/\i5=match i with|none=>u.aC [0] 16 [.bool true]|some g=>cX (Xl (u.aC [b*6+4,11,0] (g*6) yl) (kK::bN a::kws)) s (kK::bN a::kws)) :
  aK c G j s (Qm (aH (d+4)) (sv z) (fU i) (pt c.P 0 0) (pt (j [11,0]).b (b*6) (j [11,0]).ver) (pt za8 0 0) (u32 a) m) (QR o 2 (.tuple ⟨[]⟩) i5):=by
 have en:bin .neq true true .str (sv z) (.string ⟨#[97,115]⟩)=some (.bool (decide (z≠jD))):=uf true true z jD;delta Qm E jd jc Y Z jb A jh D jq;simp only[en,X3,yC];rw[bj x,X6];cases i with
 |none =>simp only[F8,X6,Xg,X7,X3];have ⟨m1,u1,J⟩:=h.XrW;simp only[u1,Xj];exact J.kj aa p λq=>(t q).2.2.2.symm
 |some g =>
  have L:=hi g rfl;have hf:bo 16 (b*6+4)=some (.l 18):=by rw[fd_row (r:=16) (sz:=6) rfl b 4 aa];rfl
  have ⟨_,_,k,_,q5⟩:=h.ps.list hl iC (y:=b*6+4) aa hf;have ⟨l2,O,Q,R⟩:=q5 aa;have k:X9 _ 1 _ m=some (ax _ _ 6):=k;have I:Xd 6 _ (fU (some g))=some _:=eU _ R _ 6 g _ L;have K:X9 _ 6 _ m=some (.agg ⟨yl⟩):=h.fi (y:=0) B aa aq;have f:=oN (sz:=aN 18) L;have f:g*6+6<=l2.length:=by rw[Q];exact f
  simp only[Option.isNone_some,X5,Xg,X7,X3,k,K,I];refine h.stn O (fB iC hf) w f F (λe=>jA) (λq g8 M=>?_) λm1 J=>?_
  ·have hq:q<6:=by rw[<-w];exact(dO.mp M).1
   rw[fd_row (sz:=6) rfl g q hq];exact dJ H q _ (by rw[gX,M];rfl)
  ·refine UI C hn n V hk hz d J U p (λq=>?_) aa;obtain⟨S,g2,g3,T⟩:=t q;exact⟨S,g2,(kA _ _ (λe=>aq)).trans g3,T⟩
def mS(s:ao)(b:Nat)(i:Option Nat)(y:Nat)(yl:List ae)(ws:List ai):ao:=match i with
 |none=>if y=0 then cX (Xl (s.app [11,0] (b*6+4) (yl.map .v)) ws) s ws else s.aC [0] 16 [.bool true]
 |some a=>cX (Xl (if y=0 then s else s.aC [b*6+4,11,0] (a*6) yl) ws) s ws
def tw(c:Cx)(s:ao)(b:Nat)(a:Nat)(i:Option Nat)(y:Nat)(g8:List ae):ao:=
 let n:=Xb c s.cu 1 4294967295;let g:=bB c s.cu;let p:=aP c g.2 [cQ,ed];let ws:List ai:=[kK,bN a]
 if y=0 then mS (s.at n.2) b i y [u32 a,.int .u32 n.1,sv [],sv [],.bool false,.bool false] (ws++[jD])
 else if y=1 then(if p.1=0 then mS (s.at p.2) b i y (g8.set 2 (sv g.1)) (ws++[dH,cQ])else mS (s.at p.2) b i y (g8.set 3 (sv g.1)) (ws++[dH,ed]))
 else if y=2 then mS s b i y (g8.set 4 (.bool true)) (ws++[sg])
 else mS s b i y (g8.set 5 (.bool true)) (ws++[si])
def xX(c:Cx)(s:ao):ao:=
 let a:=Xy c s.cu;let b:=au s.X [0] 11-1;let i:=kX s.X [11,0] (b*6+4) 6 0 (a.1:Int);let y:=aP c a.2 kJ
 tw c (s.at y.2) b a.1 i y.1 (match i with|some d=>(List.range 6).map λq=>dm s.X [b*6+4,11,0] (d*6+q)|none=>eC 0 0 [] [] false false)
def XaX[r:cG c](a8:o+1<=8589934592)(a4:∀w∈c.ws,w.1≠[])(hn:s.rs.num<1000000000000)(g:jT s){a b za8 l i}(K:a<4294967296){A z0 z1 t2 t3 F I}(h2:t2.length<=SB)(h3:t3.length<=SB)
  (h:W c G j s o m j (s.at A) [(za8,0,eC z0 z1 t2 t3 F I)]) (O:s.X [11,0]=some (.c l)) (u:b*6+6<=l.length) (hi:∀i6,i=some i6->i6<au s.X [11,0] (b*6+4)) (d:Nat) :
  aK c G j s (GN (aH (d+4)) (pt c.C 0 0) (fU i) (pt (j [11,0]).b (b*6) (j [11,0]).ver) (u32 a) (pt c.P 0 0) (pt za8 0 0) m) (QR o 2 (.tuple ⟨[]⟩) (tw c (s.at (aP c A kJ).2) b a i (aP c A kJ).1 (eC z0 z1 t2 t3 F I))):=by
 have a9:(Xa c A).1.length<=65536:=fL h.ps;delta GN C;refine h.cl (nV h.ps (d+3)) λm1 t=>?_;rw[bL]at t|-;have hp:(Xa c A).2.er.isNone=true->1<=(Xa c A).2.pl:=λq=>nZ q;have o0:(Xa c A).1=jD->aP c A kJ=(0,(Xa c A).2):=λe=>by unfold aP de;rw[ah e]
 have o1:(Xa c A).1=dH->aP c A kJ=(1,(Xa c A).2):=λe=>Ns;have o2:(Xa c A).1=sg->aP c A kJ=(2,(Xa c A).2):=λe=>XeW;have o3:(Xa c A).1=si->aP c A kJ=(3,(Xa c A).2):=λe=>by unfold aP de de de de;rw[af aq,af aq,af Ze,ah e]
 have o4:(Xa c A).1≠jD->(Xa c A).1≠dH->(Xa c A).1≠sg->(Xa c A).1≠si->aP c A kJ=(0,cA c (Xa c A).2 130):=λe0 e1 e2 e3=>by unfold aP de de de de de;rw[af e0,af e1,af e2,af e3]
 generalize Xa c A=U at *;have t:W c G j s o m1 j (s.at U.2) [(za8,0,eC z0 z1 t2 t3 F I)]:=t;have es:∀x,bin .eql true true .str (sv U.1) (.string ⟨⟨x⟩⟩)=some (.bool (decide (U.1=x))):=λx=>Qh true true U.1 x;delta ZU H C E jc B Z jm jf A P jh D;simp only[es,X3,yC];have hf:bo 16 (b*6+4)=some (.l 18):=by rw[fd_row (r:=16) (sz:=6) rfl b 4 aa];rfl
 refine Xh (λf=>?_) (λf=>?_)
 ·have f:=aT f;rw[o0 f]at *;unfold tw;refine t.cl (ky t.ps a4 1 4294967295 4294967295 rfl aa (d+2)) λm2 v=>?_;rw[bL]at v|-;have a5:(Xb c U.2 1 4294967295).2.er.isNone=true->eQ c U.2 1 4294967295=(Xb c U.2 1 4294967295).1:=λq=>j7 q;have a3:=EE c U.2 1 4294967295 aa;generalize eQ c U.2 1 _=z at *;generalize Xb c U.2 1 _=N at *;have en:bin .neq true true .str (sv U.1) (.string ⟨#[97,115]⟩)=some (.bool false):=by
   rw[show(Value.string ⟨#[97,115]⟩)=sv jD from rfl,uf,f];rfl
  cases i with
  |none =>simp only[F8,X6];have T:(s.at N.2).X [11,0]=some (.c l):=O;have ⟨_,_,a6,_,_⟩:=v.ps.list T iC (y:=b*6+4) aa hf;have eb:Xc sx [(0,1),(1,1),(2,1),(3,1),(4,1),(5,1)] [(0,u32 a),(1,.int _ z)]=some (.agg ⟨eC a z [] [] _ _⟩):=aU rfl rfl;simp only[Xg,X7,X3,a6,a3,X4,eb];refine v.bO (cs:=eC a z [] [] _ _) rfl ak λb2 m3 Q=>?_;refine Q.rF aa T iC aa hf rfl rfl rfl (dJ (rk c7 c7)) ak λA' m4 i7 a7 _ k4=>?_;delta Qm E D;simp only[en,X3,X5];refine UI aa hn g K (kws:=[jD]) ar aa d k4 rfl rfl (λq=>?_) aa;rw[a5 q];exact⟨ve,rfl,kU (po _ ak (λe=>aq) _),rfl⟩
  |some i6 =>delta Qm E D;simp only[en,X3,X5];refine UI aa hn g K (kws:=[jD]) ar aa d v rfl rfl (λq=>?_) aa;trivial
 have nA:=aV f;refine Xh (λf=>?_) (λf=>?_)
 ·have f:=aT f;rw[o1 f]at *;unfold tw;dsimp only;rw[af ak,ah rfl];have V:(bB c U.2).1.length<=65536:=fL t.ps;refine t.cl (nU t.ps _) λm2 v=>?_;rw[bL]at v|-;generalize bB c U.2=N at *;have ab:(Xa c N.2).1.length<=65536:=fL v.ps;refine v.cl (mM v.ps _ _ _ ak ak ak _) λm3 Q=>?_;rw[bL]at Q|-;have J:=λq=>Bg (c:=c) (cu:=N.2) (a:=cQ) (b:=ed) ak q;have a0:(aP c N.2 [cQ,ed]).2.er.isNone=true->(Xa c N.2).1≠cQ->(Xa c N.2).1=ed:=λq n=>by
   refine M7 λn2=>?_;rw[mN aq,fY]at q;cases q
  rw[ux]at Q;generalize aP c N.2 _=P at *;generalize (Xa c N.2).1=z at *;have ez:bin _ _ _ _ _ (.string ⟨#[105,110]⟩)=some _:=Qh true true z _;have a2:bin _ _ _ _ _ (.string ⟨#[32]⟩)=some (sv (U.1++[32])):=Qu true true U.1 _ cF;simp only[a2,Qu _ _ (U.1++[32]) z aq,ez,X3,X7,aQ];have S:U.1++[32]++z≠jD:=λe=>by grind
  have a1:(U.1++[32]++z).length<=200000:=cF;refine Xh (λk=>?_) (λk=>?_)
  ·have k:=aT k;refine Q.aC (l1:=[]) (za6:=eC z0 z1 N.1 t3 F I) rfl rfl aW rfl λm6 L=>?_;refine Fm aa hn g (yl:=eC z0 z1 N.1 t3 F I) K (kws:=[dH,cQ]) ar a1 S d L O u hi ar rfl (rk (aO V ak) h3) rfl rfl (by split<;>(cases i<;>rfl)) (λq=>?_);have q:P.2.er.isNone=true:=by revert q;split<;>(cases i<;>exact id)
   have R:=J q;rw[bj k]at R;rw[ah (aT R.symm)];exact⟨by rw[f,k,oF],rfl,rfl,bY⟩
  ·have k:=aV k;refine Q.aC (l1:=[]) (za6:=eC z0 z1 t2 N.1 F I) rfl rfl aW rfl λm6 L=>?_;refine Fm aa hn g (yl:=eC z0 z1 t2 N.1 F I) K (kws:=[dH,ed]) ar a1 S d L O u hi ar rfl (rk h2 (aO V ak)) rfl rfl (by split<;>(cases i<;>rfl)) (λq=>?_);have q:P.2.er.isNone=true:=by revert q;split<;>(cases i<;>exact id)
   have R:=J q;rw[bJ k]at R;rw[af (aV R.symm)];exact⟨by rw[f,a0 q k,oF],rfl,rfl,bY⟩
 have nR:=aV f;refine Xh (λf=>?_) (λf=>?_)
 ·have f:=aT f;rw[o2 f]at *;unfold tw;dsimp only;refine t.aC (l1:=[]) (za6:=eC z0 z1 t2 t3 _ I) rfl rfl aW rfl λm6 L=>?_;refine Fm aa hn g (yl:=eC z0 z1 t2 t3 true I) K (kws:=[sg]) ar aa nA d L O u hi ar rfl (rk h2 h3) rfl rfl (by cases i<;>rfl) (λq=>?_);trivial
 have nC:=aV f;refine Xh (λf=>?_) (λf=>?_)
 ·have f:=aT f;rw[o3 f]at *;unfold tw;dsimp only;refine t.aC (l1:=[]) (za6:=eC z0 z1 t2 t3 F _) rfl rfl aW rfl λm6 L=>?_;refine Fm aa hn g (yl:=eC z0 z1 t2 t3 F true) K (kws:=[si]) ar aa nA d L O u hi ar rfl (rk h2 h3) rfl rfl (by cases i<;>rfl) (λq=>?_);trivial
 ·rw[o4 nA nR nC (aV f)]at *;unfold tw;rw[ah rfl,bL];refine t.cl (kS t.ps (λq=>hp q) 130 ak _) λm2 v=>?_;have Y:(Xb c _ 1 4294967295).2=cA c U.2 130:=xY (fY _ _ _) _ _;refine Fm aa hn g (i:=i) (yl:=eC z0 z1 t2 t3 F I) K (kws:=[jD]) ar aa nA d v O u hi ar rfl (rk h2 h3) rfl rfl (by rw[Y];cases i<;>rfl) (λq=>?_);have q:(cA c U.2 130).er.isNone=true:=by rw[Y]at q;revert q;cases i<;>exact id
  rw[fY]at q;cases q
def Xk1[r:cG c](h:PS c o m j s)(F:∀w∈c.ws,w.1≠[])(B:o+1<=8589934592)(hn:s.rs.num<1000000000000)(n:jT s){b l}(K:s.X [11,0]=some (.c l))(u:b*6+6<=l.length)(J:au s.X [0] 11-1=b)
  (hu:∀f H,f<au s.X [11,0] (b*6+4)->H<au s.X [11,0] (b*6+4)->bI s.X [b*6+4,11,0] (f*6+0)=bI s.X [b*6+4,11,0] (H*6+0)->f=H) (d:Nat) :
  mH c o 2 m j s (TA (d+5) N1 [pt c.P 0 0,pt c.C 0 0,pt (j [11,0]).b (b*6) (j [11,0]).ver] m) (.tuple ⟨[]⟩) (xX c s):=by
 refine h.tB (X4n _ _ _ _ _) λG k=>?_;unfold xX;dsimp only;rw[J];have ha:=uo c s.cu;delta Cz C;refine k.cl (uh k.ps (d+1)) λm1 Q=>?_;generalize Xy c _=A at *;have p:(s.at A.2).X [11,0]=some (.c l):=K;have hf:bo 16 (b*6+4)=some (.l 18):=by rw[fd_row (r:=16) (sz:=6) rfl b 4 aa];rfl
 have ⟨_,L,a0,_,S⟩:=Q.ps.list p iC (y:=b*6+4) aa hf;have S:au s.X [11,0] (b*6+4)≠0->∃l',s.X [b*6+4,11,0]=some (.c l')/\l'.length=au s.X [11,0] (b*6+4)*aN 18/\(j [b*6+4,11,0]).r<2:=S;have lp:=Xnz Q.ps aa (a:=A.1) p u (aH (d+4)) (au s.X [11,0] (b*6+4)) 0 18446744073709551616 none (aQ _) (by have:au s.X [11,0] (b*6+4)<=o:=L;omega);delta Of Og Oh A;have lp:wV (aH (d+4)) 18446744073709551616 (.int .i64 0) (pt (j [11,0]).b (b*6) (j [11,0]).ver) (.int .u32 (A.1:Int)) (.int .i64 (-1)) (pt c.C 0 0) (pt c.P 0 0) m1=_:=lp;rw[lp];have t:LA (s.at A.2) b A.1 (au s.X [11,0] (b*6+4)) 0 none=kX s.X [11,0] (b*6+4) 6 0 (A.1:Int):=by
  unfold LA kX;rw[WJ _ _ _ _ _ (λf H _ h2 _ h4 p1 p2=>hu f H aa aa ((aT p1).trans (aT p2).symm))];cases hr:gx (λf=>decide (bI s.X [b*6+4,11,0] f=(A.1:Int))) 6 0 (au s.X [11,0] (b*6+4)) 0 with
  |none=>rw[show(s.at A.2).X=s.X from rfl,hr]
  |some f=>rw[show(s.at A.2).X=s.X from rfl,hr]
 rw[t];have hi:∀f,kX s.X [11,0] (b*6+4) 6 0 (A.1:Int)=some f->f<au s.X [11,0] (b*6+4):=λf D=>by have:=vI _ _ _ _ _ _ D;omega
 generalize kX s.X [11,0] (b*6+4) 6 0 (A.1:Int)=i at hi|-;delta GL ZV E jd jc Y U jb A;refine Q.new λa5 m2 I=>?_;simp only[UJ,X3];cases i with
 |none =>exact XaX B F hn n ha (z0:=0) (z1:=0) (t2:=[]) (t3:=[]) c7 c7 I K u hi d
 |some f =>
  have D:=hi f rfl;have ⟨l2,a1,W,a3⟩:=S aa;have ⟨_,_,v,_,_⟩:=I.ps.list p iC (y:=b*6+4) aa hf;have v:X9 false 1 (pt (j [11,0]).b (b*6+4) (j [11,0]).ver) m2=some (ax (j [b*6+4,11,0]) (au s.X [11,0] (b*6+4)) (aN 18)):=v;have O:Xd 6 (ax (j [b*6+4,11,0]) (au s.X [11,0] (b*6+4)) (aN 18)) (fU (some f))=some (pt (j [b*6+4,11,0]).b (f*6) (j [b*6+4,11,0]).ver):=eU _ a3 _ 6 f .i64 D;have x:(s.at A.2).X [b*6+4,11,0]=some (.c l2):=a1;obtain⟨v1,v2⟩:=I.ps.XeH (sz:=6) (N:=au s.X [11,0] (b*6+4)) x (fB iC hf) rfl W (λq hq r'=>by have:q=0\/q=1\/q=2\/q=3\/q=4\/q=5:=aa;rcases this with rfl|rfl|rfl|rfl|rfl|rfl<;>(intro e;cases e)) (i:=f) D
  have ⟨ty,z⟩:=I.ps.aF x (λe=>aq) (λe=>aq);have g:=oN (sz:=aN 18) D;have g:f*6+6<=l2.length:=by rw[W];exact g
  have R:X9 _ 6 _ m2=some (.agg ⟨(List.range 6).map (λq=>dm s.X _ _)⟩):=Xw z (by rw[gM];exact g) v1;have ⟨T,V,t2,t3,Z,b5,M,h2,h3⟩:=pe_row v2;have M:(List.range 6).map (λq=>dm s.X _ _)=eC T V t2 t3 Z b5:=M;simp only[Xg,X7,X3,v,O,R];rw[M];refine I.aC (l1:=[]) (za6:=eC T V t2 t3 Z b5) rfl rfl aW rfl λm7 k7=>?_;exact XaX B F hn n ha h2 h3 k7 K u hi d
def Xr2(h:PS c o m j s)(H' fr T'):(uw c s.cu H' fr T').2.2.2.length<=65536:=by
 show(iN c _).1.length<=65536;have key:∀cu,(iN c cu).1.length<=65536:=λcu=>by
  unfold iN;split
  ·show(Xa c _).1.length<=65536;unfold Xa;split
   ·rename_i a;exact(h.wl.ze _ (jO (vV (qe (s:={ s with cu:=(bh c cu _).2 }) a)))).1
   ·simp
  ·simp
 grind
def W.XeD(d)(h:W c G j s o m j u ts)(n:∀w∈c.ws,w.1≠[])(I:o<=8589934592){r p y}(D:u.X k=some (.c l))(v:kt k=some r)(t:p+y<l.length)(hf:bo r (p+y)=some (.l 15))(H':ai)(H:H'≠[])(fr:Nat)(T')(J:decide (H'=dZ)=T') :
  aK c G j s (bp (aI (Xu (pt (j k).b p (j k).ver)) m) λx m=>bp (aI (Xm y x) m) λe m=>bp (aI (X9 false 1 e m) m) λf m =>
   bp (TA (d+3) CG [pt c.C 0 0,sv H',.int .u8 (fr:Int)] m) λA m =>
   tb (again (aI (X9 false 1 e m) m) f&&true)
    (bp (X8 pY ku 4 1 [(0,A)] m) λg8 m =>
   bp (dn pY 4 40 f g8 m) λB m =>
   bp (aI (Xu (pt (j k).b p (j k).ver)) m) λx m=>bp (aI (Xm y x) m) λg8 m=>bp (bP (Xe 1 g8 B m)) λ_ m =>
   some (.tuple ⟨[]⟩,m))) (QR o 1 (.tuple ⟨[]⟩) ((u.at (ib c u.cu H' fr T').2).app k (p+y) (wG (ib c u.cu H' fr T').1))):=by
 subst J;obtain⟨_,_,ld,_,_⟩:=h.ps.list D v t hf;simp only[Xg,X7,X3];rw[ld,X3];have i:=Xr2 h.ps H' fr (decide (H'=dZ));refine h.cl (Xqt h.ps n _ H fr d) λM E=>?_;have K:=λq=>Xyk (c:=c) (cu:=u.cu) (H':=H') (fr:=fr) (T':=decide (H'=dZ)) q;generalize uw c _ _ fr _=Z at *;generalize ib c _ _ fr _=R at *;have a:(u.at R.2).X k=some _:=D;have ⟨_,_,ld1,_,_⟩:=E.ps.list a v t hf;have ld1:X9 _ 1 _ M=some (ax _ (au u.X k _) _):=ld1;rw[ld1,o6,fO,Xv];refine E.bO (cs:=gV Z.1 _ _ _) rfl ak λF N z=>?_;have z:W c G j s o N j _ ((F,0,(wG Z).map Cl.raw)::ts):=z;refine z.rF I a v t hf rfl rfl rfl (dJ (by repeat' (first|exact trivial|exact bR _ _|exact eJ (aO i ak)|apply And.intro))) ak λO Q P g _ L=>?_
 exact L.kj g rfl λq=>by rw[K q]
def qk(c:Cx)(J:ao):ao:=
 let w:=Xa c J.cu;let s:=J.at w.2;let b:=(au s.X [0] 11-1)*6
 if w.1=pU then
  let a:=Xy c s.cu
  cX (Xl ((s.at a.2).aC [11,0] (b+2) [u32 a.1]) [w.1]) s [w.1]
 else if w.1=ND then
  let a:=Xy c s.cu;let m:=c8 c a.2 false;let d:=cX (Xl (s.at (iX c m.2 a.1 m.1)) [w.1,kb a.1 (m.1:Int)]) s [w.1,kb a.1 (m.1:Int)]
  d.app [11,0] (b+3) [.v (u32 a.1),.v (I m.1)]
 else if w.1=zG then xX c s
 else if w.1=qL then
  let r:=ib c s.cu gZ 4 false
  (s.at r.2).app [11,0] (b+5) (wG r.1)
 else fu c s 130
def XnX(h:WT s.X)(ws)(b:k≠[0])(c:k≠[2]):(Xl s ws).X k=s.X k:=by obtain⟨d,a,_⟩:=h.root;unfold Xl Xz;dsimp only;rw[NX.aE _ _ c,fp a,NX.aE _ _ b]
def XhD(c cu w):(gU c cu w).1.1<4294967296/\(gU c cu w).1.2<=32:=by
 refine⟨uo c cu,?_⟩;show lL c _ w 0<=32;unfold lL;split
 ·exact Xut c _ w
 omega
def Xq8[r:cG c](i:o<=8589934592){w ws}(A:w.length<=1000000000)(d)(h:W c G Q J o m j u ts)(hn:u.rs.num<1000000000000)(l:u.cu.er.isNone=true->((kd u.rs.num++w)∈u.rs.bM↔Xr [32] ([cQ,u.df,[46]]++ws)∈aS u.X)){K:aj->Option Rs}
  (g:∀A' m1 i7 b,A'<=o+1->(∀k,k≠[15,0]->i7 k=j k)->W c G Q J A' m1 i7 b ts->b.cu=u.cu->(∀k,k≠[0]->k≠[2]->b.X k=u.X k)->(u.cu.er.isNone=true->b=iA (Xl u ws) (kd u.rs.num++w))->aK c G Q J (K m1) i8) :
  aK c G Q J (bp (TA (d+3) Qj [pt c.P 0 0,sv w] m) λ_ m=>K m) i8:=by
 obtain⟨E,m1,A',i7,b,y,a,p,⟨rfl,s,rfl⟩,t⟩:=Xh4 h.ps i hn w A d;rw[y,X4];cases q:u.cu.er.isNone with
 |true =>
  have e:aL c (iA (Xl u ws) _)=aL c (K1 u w):=Vt (ye u _).symm (V6 u _).symm (λk z=>Kq h.ps.wt (l q) k z);have C:W c G Q J _ m1 i7 (iA (Xl u ws) _) ts:=h.go ⟨by rw[e];exact a.nr,a.wl,by rw[e];exact a.nb,a.pC,a.pP,a.pO,KX (KG h.ps.ok _) _⟩ (by rw[e];exact p)
  exact g _ m1 i7 _ s t C rfl (λk f v=>XnX h.ps.wt ws f v) λ_=>rfl
 |false =>
  refine g _ m1 i7 _ s t (h.go a p) (ye _ _) (λk f v=>?_) λx=>by rw[q]at x;cases x
  unfold K1 kW iA;split
  ·obtain⟨D,n,_⟩:=h.ps.wt.root;show bF u.X [0] 15 [.bool true] k=u.X k;rw[fp n,NX.aE _ _ f]
  ·rfl
def XiG[r:cG c](h:PS c o m j s)(F:∀w∈c.ws,w.1≠[])(a3:o+1<=8589934592)(hn:s.rs.num<1000000000000)(g:jT s){b l}(S:s.X [11,0]=some (.c l))(a4:b*6+6<=l.length)(t:au s.X [0] 11-1=b)
  (hu:∀i6 j',i6<au s.X [11,0] (b*6+4)->j'<au s.X [11,0] (b*6+4)->bI s.X [b*6+4,11,0] (i6*6+0)=bI s.X [b*6+4,11,0] (j'*6+0)->i6=j') (d:Nat) :
  mH c o 2 m j s (TA (d+6) Oo [pt c.P 0 0,pt c.C 0 0,pt (j [11,0]).b (b*6) (j [11,0]).ver] m) (.tuple ⟨[]⟩) (qk c s):=by
 refine h.tB (X6u _ _ _ _ _) λG k=>?_;have am:(Xa c s.cu).1.length<=65536:=fL k.ps;have hp:(Xa c s.cu).2.er.isNone=true->1<=(Xa c s.cu).2.pl:=λq=>nZ q;delta CS C;refine k.cl (nV k.ps (d+4)) λm1 i=>?_;unfold qk;dsimp only;rw[Yb,t];generalize Xa c s.cu=V at *;have es:∀a,bin .eql true true .str (sv V.1) (.string ⟨⟨a⟩⟩)=some (.bool (decide (V.1=a))):=λa=>Qh true true V.1 a;delta O jo E jn jd X je jc B Y Z U jj jm A P D jp jq;simp only[es,X3];refine Xh (λf=>?_) (λf=>?_)
 ·have f:=aT f;rw[ah f];refine i.cl (uh i.ps _) λm2 n=>?_;simp only[Xg,X7,X3];refine n.st1 S iC aa rfl rfl ak (by rw[fd_row (sz:=6) rfl b 2 aa];exact bR _ _) λm3 l3 ac ag k3=>?_;have R:(.string ⟨#[114,111,117,116,101,114,45,105,100]⟩)=sv V.1:=by rw[f];rfl
  rw[R];exact W.yO aa hn g (d+2) aa k3 rfl rfl (λq=>⟨rfl,(nt _).symm,rfl,kA _ _ ak⟩) aa
 rw[af (aV f)];refine Xh (λf=>?_) (λf=>?_)
 ·have f:=aT f;rw[ah f];have ⟨ha,a8⟩:=XhD c V.2 false;have hv:=λq=>Uw (c:=c) (cu:=V.2) (w:=false) q;have u:(gU c V.2 false).2=iX c (c8 c (Xy c V.2).2 false).2 (Xy c V.2).1 ((c8 c (Xy c V.2).2 false).1:Int):=by unfold gU;dsimp only
  refine i.cl (Wv i.ps false d) λm2 n=>?_;rw[show(s.at V.2).cu=V.2 from rfl]at n|-;rw[<-u];generalize Xy c V.2=A at *;generalize c8 c A.2 _=M at *;generalize gU c V.2 _=N at *;refine n.new λa0 m3 k3=>?_;refine k3.aC (l1:=[]) (y:=0) (g8:=dL N.1.1 (N.1.2:Int)) (za6:=[u32 N.1.1,I N.1.2]) rfl rfl aW rfl λm4 k4=>?_;have a7:X9 true 2 (pt a0 0 0) m4=some (dL N.1.1 (N.1.2:Int)):=k4.fi (y:=0) br ar rfl;have ct:TA (d+5) GY [dL N.1.1 (N.1.2:Int)] m4=some (sv (kb N.1.1 (N.1.2:Int)),m4):=XqF N.1.1 ha (N.1.2:Int) (AX aa) (d+1) m4;have al:(kb N.1.1 (N.1.2:Int)).length<=65536:=by
   have h1:=xW N.1.1 ha;have h2:=KK (N.1.2:Int) (AX aa);have e:kb N.1.1 (N.1.2:Int)=bN N.1.1++47::itoa (N.1.2:Int):=by simp[kb]
   rw[e,fy,iq];omega
  have a5:N.2.er.isNone=true->kb N.1.1 (N.1.2:Int)=kb A.1 (M.1:Int):=λq=>by rw[hv q]
  generalize kb _ (N.1.2)=T at *;have e1:bin .add true true .str (.string ⟨#[110,101,116,119,111,114,107,32]⟩) (sv T)=some (sv (NF++T)):=Qu true true NF T cF;simp only[a7,X3,ct,X4,e1];have R:NF++T=Xr [32] [V.1,T]:=by rw[oF,f];rfl
  rw[R];have a2:(kd ((s.at V.2).at N.2).rs.num++Xr [32] [V.1,T])∈((s.at V.2).at N.2).rs.bM↔Xr [32] ([cQ,((s.at V.2).at N.2).df,[46]]++[V.1,T])∈aS ((s.at V.2).at N.2).X:=g [V.1,T] ar;refine Xq8 (w:=Xr [32] [V.1,T]) (ws:=[V.1,T]) aa (by rw[<-R];simp;omega) (d+2) k4 hn (λq=>a2) λA' m5 i7 s5 a9 J k5 x a1 H=>?_;have z:s5.X [11,0]=some (.c l):=by rwa[a1 _ ak ak]
  have hf:bo 16 (b*6+3)=some (.l 17):=by rw[fd_row (r:=16) (sz:=6) rfl b 3 aa];rfl
  have ⟨_,_,a6,_,_⟩:=k5.ps.list z iC (y:=b*6+3) aa hf;rw[<-J _ ak];have K:X9 _ 2 _ m5=some (dL _ (N.1.2)):=k5.fi (y:=0) br ar rfl;simp only[Xg,X7,X3,a6,K];refine k5.bO (cs:=[u32 _,I _]) rfl ak λb2 m6 k6=>?_;have k6:W c G j s _ m6 i7 s5 ((b2,0,[Cl.v (u32 _),.v (I _)].map Cl.raw)::_):=k6;refine k6.rF aa z iC aa hf rfl rfl rfl (dJ (And.intro (bR _ _) (And.intro (bR _ _) trivial))) ak λQ m7 L ab _ k7=>?_;refine k7.kj aa x λq=>?_;rw[H q,hv q,a5 q];rfl
 rw[af (aV f)];refine Xh (λf=>?_) (λf=>?_)
 ·rw[ah (aT f)];exact i.tf (Xk1 i.ps F a3 hn g S a4 t hu d) aa
 rw[af (aV f)];refine Xh (λf=>?_) (λf=>?_)
 ·rw[ah (aT f)];have:=i.XeD (d+2) F aa S iC (p:=b*6) (y:=5) aa (by rw[fd_row (sz:=6) rfl b 5 aa];rfl) gZ ak 4 false ak;obtain⟨v',m2,Q,L,s2,w1,w2,w3,rfl,w4,w5,w6⟩:=this;exact⟨_,m2,Q,L,s2,w1,w2,w3,rfl,aa,w5,w6⟩
 ·rw[af (aV f)];refine i.cl (kS i.ps (λq=>hp q) 130 ak _) λm2 n=>?_;exact n.kj aa rfl λ_=>rfl
def Xvt{c cu}(h:cu.er.isNone=false)(p):(fR c cu p).2=cu:=by rw[<-Xon,KN h]
def XiD(x:∀w∈c.ws,w.1≠[])(d){n p J f a}(hp:u.cu.er.isNone=true->p=J/\f=a)(hc:o<=8589934592)(h:W c G j s o m j u ((n,0,jN p f 0 0 0 0 0 0 0 0)::ts))(hl:u.X [4,0]=some (.c l))(hb:b*2+2<=l.length) :
  aK c G j s (vh (aH (d+6)) (pt c.C 0 0) (pt n 0 0) (pt (j [4,0]).b (b*2) (j [4,0]).ver) m) (QR o 1 (.tuple ⟨[]⟩) (lM c u b J a)):=by
 delta vh C T F jd jc Y Z jm jq;refine h.cl (Xot h.ps d) λm1 k1=>?_;generalize L:pg c u.cu=A at k1;simp only[X7,X3,aQ];refine k1.aC (l1:=[]) (y:=2) (g8:=dL A.1.1 (A.1.2:Int)) (za6:=jN p f A.1.1 A.1.2 0 0 0 0 0 0) rfl rfl aW rfl λm2 Q=>?_;have a0:X9 false 1 (pt n 1 0) m2=some (.int .i64 f):=Q.ld br rfl;simp only[a0,X3];refine Q.cl (Xl9 Q.ps x f (d+3)) λm3 R=>?_;rw[bL]at R|-;generalize hB:kV c A.2 f=B at R|-;refine R.aC (l1:=[]) (y:=6) (g8:=nB B.1.1 B.1.2) (za6:=jN p f A.1.1 A.1.2 0 0 B.1.1 B.1.2 0 0) rfl rfl aW rfl λm4 k4=>?_;refine k4.cl (Xot k4.ps d) λm5 S=>?_;rw[bL]at S|-;generalize M:pg c B.2=D at S|-;refine S.aC (l1:=[]) (y:=4) (g8:=dL D.1.1 (D.1.2:Int)) (za6:=jN p f A.1.1 A.1.2 D.1.1 D.1.2 B.1.1 B.1.2 0 0) rfl rfl aW rfl λm6 U=>?_;have a1:X9 false 1 (pt n 1 0) m6=some (.int .i64 f):=U.ld br rfl;simp only[a1,X3];refine U.cl (Xl9 U.ps x f (d+3)) λm7 V=>?_;rw[bL]at V|-;generalize N:kV c D.2 f=E at V|-;refine V.aC (l1:=[]) (y:=8) (g8:=nB E.1.1 E.1.2) (za6:=jN p f A.1.1 A.1.2 D.1.1 D.1.2 B.1.1 B.1.2 E.1.1 E.1.2) rfl rfl aW rfl λm8 k8=>?_;have t:((((u.at A.2).at B.2).at D.2).at E.2).X [4,0]=some (.c l):=hl;have hf:bo 3 (b*2+1)=some (.l 4):=by rw[fd_row (r:=3) (sz:=2) rfl b 1 aa];rfl
 obtain⟨_,_,a2,_,_⟩:=k8.ps.list t ME aa hf;have a3:X9 true 10 (pt n 0 0) m8=some (.agg ⟨jN p f A.1.1 A.1.2 D.1.1 D.1.2 B.1.1 B.1.2 E.1.1 E.1.2⟩):=k8.fi (y:=0) br ar rfl;simp only[Xg,X7,X3,a2,a3];refine k8.bO (cs:=jN p f A.1.1 A.1.2 D.1.1 D.1.2 B.1.1 B.1.2 E.1.1 E.1.2) rfl ak λb2 m9 k9=>?_;have k9:W c G j s o m9 j ((((u.at A.2).at B.2).at D.2).at E.2) ((b2,0,[Cl.v (.bool p),.v (.int .i64 f),.v (u32 A.1.1),.v (I A.1.2),.v (u32 D.1.1),.v (I D.1.2),.v (.int .u32 B.1.1),.v (.int .u32 B.1.2),.v (.int .u32 E.1.1),.v (.int .u32 E.1.2)].map Cl.raw)::_):=k9;refine k9.rF hc t ME aa hf (sz:=10) rfl rfl rfl (dJ XeV) ak λA' a5 i7 O _ P=>?_;have c1:(iy c u.cu).2=A.2:=by rw[<-Xv8,L]
 have i:A.2.er.isNone=true->u.cu.er.isNone=true:=λq=>kG (λe=>by rw[<-L];exact Xsp e) q;have pq:∀cu,(cu.er.isNone=true->u.cu.er.isNone=true)->(fR c cu a).2=(kV c cu f).2:=λcu g=>by
  cases q:cu.er.isNone with
  |true=>rw[(hp (g q)).2,Xon]
  |false=>rw[Xvt q,KN q]
 have c2:(fR c A.2 a).2=B.2:=by rw[pq _ i,hB]
 have z:B.2.er.isNone=true->A.2.er.isNone=true:=λq=>kG (λe=>by rw[<-hB];exact KN e f) q;have c3:(iy c B.2).2=D.2:=by rw[<-Xv8,M]
 have H:D.2.er.isNone=true->B.2.er.isNone=true:=λq=>kG (λe=>by rw[<-M];exact Xsp e) q;have c4:(fR c D.2 a).2=E.2:=by rw[pq _ (λq=>i (z (H q))),N]
 have a4:E.2.er.isNone=true->D.2.er.isNone=true:=λq=>kG (λe=>by rw[<-N];exact KN e f) q;have hS:lM c u b J a=(u.at E.2).app [4,0] (b*2+1) [.v (.bool J),.v (.int .i64 a),.v (u32 (iy c u.cu).1.1),.v (I (iy c u.cu).1.2),.v (u32 (iy c B.2).1.1),.v (I (iy c B.2).1.2),.v (.int .u32 (fR c A.2 a).1.1),.v (.int .u32 (fR c A.2 a).1.2),.v (.int .u32 (fR c D.2 a).1.1),.v (.int .u32 (fR c D.2 a).1.2)]:=by unfold lM;dsimp only;rw[c1,c2,c3,c4]
 rw[hS];refine P.kj O rfl λq=>?_;have q:E.2.er.isNone=true:=q;have qB:=H (a4 q);obtain⟨rfl,rfl⟩:=hp (i (z qB));have v1:A.1=(iy c u.cu).1:=by rw[<-L];exact Xzz aq
 have v2:B.1=(fR c A.2 f).1:=by rw[<-hB];exact Xrk aq
 have v3:D.1=(iy c B.2).1:=by rw[<-M];exact Xzz aq
 have v4:E.1=(fR c D.2 f).1:=by rw[<-N];exact Xrk aq
 rw[<-v1,<-v2,<-v3,<-v4];rfl
def Xyu(h:PS c o m j s)(x:∀w∈c.ws,w.1≠[])(hc:o<=8589934592)(v:s.X [4,0]=some (.c l))(N:b*2+2<=l.length)(K:au s.X [0] 4-1=b)(d) :
  mH c o 1 m j s (TA (d+7) Oa [pt c.P 0 0,pt c.C 0 0,pt (j [4,0]).b (b*2) (j [4,0]).ver] m) (.tuple ⟨[]⟩) (nk c s):=by
 refine h.tB (X65 _ _ _ _ _) λG k=>?_;delta CL C B Y U P D;refine k.cl (mM k.ps _ _ _ ak ak ak (d+4)) λm1 Q=>?_;have z:nk c s=(let y:=aP c s.cu [dq,dP]
   let R:=bh c y.2 sc;let T:=bh c R.2 Gf;let V:=bh c T.2 Gg;let Z:=bh c V.2 Gh;let n:=Xb c Z.2 0 255;let P:=decide (y.1=0);let b:=au s.X [0] 4-1
   if R.1=true then lM c (s.at R.2) b P (-1)else if T.1=true then lM c (s.at T.2) b P 6 else if V.1=true then lM c (s.at V.2) b P 17 else if Z.1=true then lM c (s.at Z.2) b P 1 else lM c (s.at n.2) b P n.1):=by
  unfold nk;dsimp only;split
  ·rfl
  ·split
   ·rfl
   ·split
    ·rfl
    ·split<;>rfl
 rw[z];dsimp only;rw[K];rw[ux]at Q;have g:=λq=>Bg (c:=c) (cu:=s.cu) (a:=dq) (b:=dP) ak q;generalize hO:aP c _ _=O at Q g|-;have e0:bin _ _ _ _ _ (.string ⟨#[112,101,114,109,105,116]⟩)=some _:=Qh true true (Xa c s.cu).1 _;generalize decide ((Xa c _).1=dq)=p at e0 g;generalize decide (O.1=0)=p' at g|-;have eb:Xc sy [(0,1),(1,1),(2,2),(4,2),(6,2),(8,2)] [(0,.bool p)]=some (.agg ⟨jN p 0 0 0 0 0 0 0 0 0⟩):=aU rfl rfl;simp only[e0,eb,X3];refine Q.new λJ m3 k3=>?_;refine k3.aC (l1:=[]) (za6:=jN p 0 0 0 0 0 0 0 0 0) rfl rfl aW rfl λm4 k4=>?_;delta Qju C L jf A D;have fin:∀I r S u,(u.cu.er.isNone=true->O.2.er.isNone=true/\I=r)->u.X [4,0]=some (.c l)->W c G j s o S j u [(J,0,jN p 0 0 0 0 0 0 0 0 0)] ->
   aK c G j s (bp (bP (Xe 1 (pt J 1 0) (.int .i64 I) S)) λ_ m=>vh (aH (d+6)) (pt c.C 0 0) (pt J 0 0) (pt (j [4,0]).b (b*2) (j [4,0]).ver) m) (QR o 1 (.tuple ⟨[]⟩) (lM c u b p' r)):=λI r S u hp M k'=>by
  refine k'.aC (l1:=[]) (za6:=jN p I 0 0 0 0 0 0 0 0) rfl rfl aW rfl λm5 t=>?_;exact XiD x d (λq=>⟨g (hp q).1,(hp q).2⟩) hc t M N
 have f:∀cu w,(bh c cu w).2.er.isNone=true->cu.er.isNone=true:=λcu w q=>kG (λe=>by rw[rA e]) q;refine k4.cl (kT k4.ps _ (d+4)) λm5 t=>?_;rw[bL]at t|-;simp only[X7,X3,aQ];refine Xh (λi=>?_) (λi=>?_)
 ·rw[ah i];exact fin _ _ m5 _ (λq=>⟨f _ _ q,rfl⟩) v t
 rw[af aq];refine t.cl (kT t.ps _ _) λm6 E=>?_;rw[bL]at E|-;refine Xh (λi=>?_) (λi=>?_)
 ·rw[ah i];exact fin 6 6 m6 _ (λq=>⟨f _ _ (f _ _ q),rfl⟩) v E
 rw[af aq];refine E.cl (kT E.ps _ _) λm7 F=>?_;rw[bL]at F|-;refine Xh (λi=>?_) (λi=>?_)
 ·rw[ah i];exact fin 17 17 m7 _ (λq=>⟨f _ _ (f _ _ (f _ _ q)),rfl⟩) v F
 rw[af aq];refine F.cl (kT F.ps _ _) λm8 H=>?_;rw[bL]at H|-;refine Xh (λi=>?_) (λi=>?_)
 ·rw[ah i];exact fin 1 1 m8 _ (λq=>⟨f _ _ (f _ _ (f _ _ (f _ _ q))),rfl⟩) v H
 rw[af aq];refine H.cl (ky H.ps x 0 255 255 rfl aa _) λm9 k9=>?_;rw[bL]at k9|-;exact fin _ _ m9 _ (λq=>⟨f _ _ (f _ _ (f _ _ (f _ _ (VC q)))),j7 q⟩) v k9
def BC(c:Cx)(J:ao):ao:=
 let w:=Xa c J.cu;let s:=J.at w.2;let b:=(au s.X [0] 10-1)*3
 if w.1=pU then
  let a:=Xy c s.cu
  cX (Xl ((s.at a.2).aC [10,0] (b+1) [u32 a.1]) [w.1]) s [w.1]
 else if w.1=qL then
  let r:=ib c s.cu dZ 8 true
  (s.at r.2).app [10,0] (b+2) (wG r.1)
 else fu c s 130
abbrev mR:ai:=sf
abbrev od:ai:=jC
abbrev dj:ai:=dH
abbrev oq:ai:=gZ
abbrev iZ:ai:=dZ
def sM(c:Cx)(s:ao):ao:=if s.rs.bt=mR then wg c s else if s.rs.bt=od then nk c s else if s.rs.bt=dj then wz c s else if s.rs.bt=oq then BC c s else if s.rs.bt=iZ then qk c s else s
def Pu(X:NX)(b:Nat):Prop:=∀a c,a<au X [11,0] (b*6+4)->c<au X [11,0] (b*6+4)->bI X [b*6+4,11,0] (a*6+0)=bI X [b*6+4,11,0] (c*6+0)->a=c
structure NH (s:ao):Prop where
 i3:s.rs.bt=mR->0<au s.X [0] 3
 i4:s.rs.bt=od->0<au s.X [0] 4
 i9:s.rs.bt=dj->Fk s.X
 i10:s.rs.bt=oq->0<au s.X [0] 10
 i11:s.rs.bt=iZ->0<au s.X [0] 11/\Pu s.X (au s.X [0] 11-1)
def Xtn[r:cG c](h:PS c o m j s)(g:0<=bI s.X [0] 17):X9 false 1 (pt c.P (12+2) 0) m=some (I ((bI s.X [0] 17).toNat:Nat)):=by
 obtain⟨l,a,f⟩:=h.wt.root;obtain⟨d,k,b⟩:=h.wt.get a rfl (y:=17) aa;have b:dz (some _) d:=b;cases d with
 |s n q=>trivial
 |v p =>
  obtain⟨z,rfl⟩:=b;have e:bI s.X [0] 17=z:=by unfold bI dm;rw[cU a,k];rfl
  have:=h.rr a (i:=2) aa (by rw[gN];show some (ey l 17)=_;unfold ey;rw[k];rfl);rw[this,e];rw[e]at g;rw[Y2 g]
def Xse[r:cG c](h:PS c o m j s)(t:∀w∈c.ws,w.1≠[])(R:s.cu.pl=0)(a7:o+c.ws.length+3<=8589934592)(hn:s.rs.num<1000000000000)(g:jT s)(hi:NH s)(d) :
  mH c o (c.ws.length+3) m j s (TA (d+8) N4 [pt c.P 0 0,pt c.C 0 0] m) (.tuple ⟨[]⟩) (sM c s):=by
 refine h.tB (X5p _ _ _ _) λG k=>?_;have lb:X9 false 1 (pt c.P (0+12) 0) G=some (sv s.rs.bt):=k.ps.XeB;have es:∀a,bin .eql true true .str (sv s.rs.bt) (.string ⟨⟨a⟩⟩)=some (.bool (decide (s.rs.bt=a))):=λa=>Qh true true s.rs.bt a;unfold sM;delta GJ O C jo F E jn X je jc B N Z jb jm A P D jp jq;simp only[Xg,X7,X3,lb,es];refine Xh (λe=>?_) (λe=>?_)
 ·have e:=aT e;rw[ah e];obtain⟨l,u,_,n,ld,sb,ix⟩:=k.ps.last aa (f:=3) (r':=2) (sz:=11) rfl aa rfl (hi.i3 e);have ld:X9 _ 1 (pt c.P (0+0+3) 0) G=some _:=ld;simp only[X3,ld,dx,sb,ix];exact k.tf (i5:=wg c s) (Xuc k.ps t R aa hn g u n rfl (d+2)) aa
 rw[af (aV e)];refine Xh (λe=>?_) (λe=>?_)
 ·have e:=aT e;rw[ah e];obtain⟨l,u,_,n,ld,sb,ix⟩:=k.ps.last aa (f:=4) (r':=3) (sz:=2) rfl aa rfl (hi.i4 e);have ld:X9 _ 1 (pt c.P (0+0+4) 0) G=some _:=ld;simp only[X3,ld,dx,sb,ix];exact k.tf (i5:=nk c s) (Xyu k.ps t aa u n rfl d) aa
 rw[af (aV e)];refine Xh (λe=>?_) (λe=>?_)
 ·have e:=aT e;rw[ah e];obtain⟨K,J,Q⟩:=hi.i9 e;have lp:=Xtn k.ps K;have eK:mn s.X=[(bI s.X [0] 17).toNat*3+1,9,0]:=rfl;have eB:sY s.X=(au s.X _ _-1)*15:=rfl;generalize (bI s.X [0] 17).toNat=p at *;obtain⟨⟨lr,ab,a6⟩,q2,T,_,q5⟩:=k.ps.dev (f:=9) (sz:=3) rfl aa rfl;obtain⟨l9,a1,a2,a3⟩:=q5 aa;have a5:=oN (sz:=3) J;have hf:bo 12 (p*3+1)=some (.l 13):=by rw[fd_row (r:=12) (sz:=3) rfl p 1 aa];rfl
  obtain⟨l,u,_,n,ld,sb,ix⟩:=k.ps.Yt aa a1 wC aa hf (sz:=15) rfl Q;have S:Xd 3 _ (I p)=some _:=eU _ a3 _ 3 p _ J;have T:X9 _ 1 (pt c.P (0+0+9) 0) G=some _:=T;have lp:X9 _ 1 (pt c.P (0+14) 0) G=some _:=lp;simp only[X7,X3,T,lp,S,ld,dx,sb,ix];exact k.tf (i5:=wz c s) (XhM k.ps t aa hn g eK eB u (fB wC hf) n (d+1)) aa
 rw[af (aV e)];refine Xh (λe=>?_) (λe=>?_)
 ·have e:=aT e;rw[ah e];obtain⟨l,u,_,n,ld,sb,ix⟩:=k.ps.last aa (f:=10) (r':=14) (sz:=3) rfl aa rfl (hi.i10 e);have ld:X9 _ 1 (pt c.P (0+0+10) 0) G=some _:=ld;simp only[Xg,X7,X3,ld,dx,sb,ix];have ac:=fL k.ps;refine k.cl (mM k.ps _ _ _ ak ak ak _) λm1 H=>?_;rw[ux]at H;unfold BC;dsimp only;rw[Yb];have z:=λh=>sO (c:=c) (cu:=s.cu) (l:=[pU,qL]) h;have x:=λh=>mN (c:=c) (cu:=s.cu) (l:=[pU,qL]) h;generalize aP c _ _=O at H z x;generalize Xa c _=V at *;generalize au s.X [0] 10-1=b at *;have g:jT (s.at V.2):=g;have hn:(s.at V.2).rs.num<1000000000000:=hn;have L:∀a,bin _ _ _ _ _ (.string _)=some _:=λa=>Qh true true V.1 a;simp only[L,X3];refine Xh (λi=>?_) (λi=>?_)
  ·have i:=aT i;rw[ah i];rw[z aq]at H;refine H.cl (uh H.ps _) λm2 k2=>?_;rw[show(s.at V.2).cu=V.2 from rfl]at k2|-;generalize Xy c V.2=A at *
   try simp only[Xg,X7,X3]
   refine k2.st1 u MD aa rfl rfl ak (by rw[fd_row (sz:=3) rfl b 1 aa];exact bR _ _) λm3 l3 a8 a9 k3=>?_;have L:(.string ⟨#[114,111,117,116,101,114,45,105,100]⟩)=sv V.1:=by rw[i];rfl
   rw[L];exact W.yO aa hn g _ aa k3 rfl rfl (λq=>⟨rfl,(nt _).symm,rfl,kA _ _ ak⟩) aa
  ·rw[af (aV i)];have:=H.XeD (d+4) t aa u MD (p:=b*3) (y:=2) aa (by rw[fd_row (sz:=3) rfl b 2 aa];rfl) dZ ak 8 true ak;obtain⟨v',m2,a4,a0,s2,w1,w2,w3,rfl,w4,Y,w6⟩:=this;refine⟨_,m2,a4,a0,s2,w1,w2,w3,rfl,aa,?_⟩;by_cases M:V.1=qL
   ·rw[ah M];rw[z (by simp[M])]at Y w6;trivial
   ·rw[af M];rw[x aq]at Y;refine⟨Y.trans (Xrp (fY _ _ _) dZ 8 true),λq=>?_⟩;have q:(cA c V.2 130).er.isNone=true:=q;rw[fY]at q;cases q
 rw[af (aV e)];refine Xh (λe=>?_) (λe=>?_)
 ·have e:=aT e;rw[ah e];obtain⟨l,u,_,n,ld,sb,ix⟩:=k.ps.last aa (f:=11) (r':=16) (sz:=6) rfl aa rfl (hi.i11 e).1;have ld:X9 _ 1 (pt c.P (0+0+11) 0) G=some _:=ld;simp only[X3,ld,dx,sb,ix];exact k.tf (XiG k.ps t aa hn g u n rfl (hi.i11 e).2 _) aa
 ·rw[af (aV e)];exact k.kj rZ rfl λ_=>rfl
end Go.Ab.Sh
namespace Go.Ab
open Go
variable {X:NX}{o:Nat}{cs I' l:List Cl}{k:Key}{m:Mem}{ty2 tyL:Option Nat}{g8:Value}{j:ay}
def NR.renew(h:NR o m j X)(w:X k=some (.c ((cs.map Cl.raw).map .v)))(hn:cs.all Cl.new=true)(B:∀i,X (i::k)=none):NR o m j (X.set k (some (.c cs))):=by
 have l:∀(i:Nat) d,cs[i]?=some d->d.new=true:=λi d hd=>cL.mp hn d (jO hd);have hd:∀a,X.set k (some (.c cs)) a≠none->X a≠none:=λa f=>by
  by_cases e:a=k
  ·rw[e,w];simp
  ·rwa[NX.aE _ _ e]at f
 have z:cells j k cs=cells j k ((cs.map Cl.raw).map .v):=by
  apply fk;intro i;rw[Xn,Xn,gX,gX];cases hi:cs[i]? with
  |none=>rfl
  |some d =>
   have g:=l i d hi;cases d with
   |v x=>rfl
   |s n A =>
    have:n=0:=by simp[Cl.new]at g;exact g.1
    subst this;rfl
 exact{
  inj:=λa b f y e=>h.inj a b (hd a f) (hd b y) e
  hi:=λa f=>h.hi a (hd a f)
  r2:=λa f=>h.r2 a (hd a f)
  at':=λa ob f=>by
   by_cases e:a=k
   ·subst e;rw[NX.aR]at f;cases f;obtain⟨ty,q⟩:=h.at' _ _ w;exact⟨ty,aq⟩
   ·rw[NX.aE _ _ e]at f;exact h.at' a ob f
  ok:=λa l2 f=>by
   by_cases e:a=k
   ·subst e;rw[NX.aR]at f;cases f;rw[cL];intro d r;have:=cL.mp hn d r;cases d with
    |v x=>trivial
    |s n A=>rfl
   ·rw[NX.aE _ _ e]at f;exact h.ok a l2 f
  ow:=λa l2 p n s f u=>by
   by_cases e:a=k
   ·subst e;rw[NX.aR]at f;cases f;rw[NX.aE _ _ (fQ p a)];have g:=l p _ u;simp[Cl.new]at g
    grind
   ·rw[NX.aE _ _ e]at f;obtain⟨q1,q2,t⟩:=h.ow a l2 p n s f u;refine⟨q1,q2,?_⟩;by_cases e2:p::a=k
    ·rw[e2,NX.aR]
     grind
    ·rw[NX.aE _ _ e2];exact t
  par:=λi p a f=>by
   obtain⟨l2,n,s,q1,q2,t⟩:=h.par i p a (hd _ f);by_cases e:p::a=k
   ·grind
   ·exact⟨l2,n,s,by rwa[NX.aE _ _ e],q2,t⟩ }
def NR.XoG(h:NR o m j X){y n e bytes b2 J' L}(R:X k=some (.c l))(S:l[y]?=some (.s n 2))(h2:m.get b2=some (.cells [g8,ax L 1 J'] 0 0 false ty2))(hy:one g8=true)(hL:m.get L.b=some (.cells (I'.map Cl.raw) L.ver 0 false tyL))(F:L.r<2)(C:L.b<m.next)(w:∀f,X f≠none->(j f).b≠L.b)(a0:I'.length=J')(K:0<J')(Q:I'.all Cl.new=true)(hb:fits (n+1) bytes=true) :
  ∃E m1 m2 u,dn e 2 bytes (ax (j (y::k)) n 2) (.slice (some ⟨b2,0,some 2⟩) 1 1) m=some (E,m1)/\Xe 1 (pt (j k).b y (j k).ver) E m1=some m2 /\
   NR (max (max o (n+1)) 1) m2 (u.set ((n*2+1)::y::k) L) ((((X.set (y::k) (some (.c (bz X (y::k)++[.v g8,.v (ax L 1 J')])))).set k (some (.c (l.set y (.s (n+1) 2))))).set (y::k) (some (.c (bz X (y::k)++[.v g8,.s 1 J'])))).set ((n*2+1)::y::k) (some (.c I'))) /\
   Wk m j X m2 u ((X.set (y::k) (some (.c (bz X (y::k)++[.v g8,.v (ax L 1 J')])))).set k (some (.c (l.set y (.s (n+1) 2))))) /\
   (∀f,f≠y::k->u f=j f)/\m2.low<=(j k).b/\X ((n*2+1)::y::k)=none/\m2.get L.b=m.get L.b:=by
 obtain⟨E,m1,m2,u,p1,p2,V,D,p5,_,p6,p7⟩:=h.app (e:=e) (cs:=[.v g8,.v (ax L 1 J')]) R S h2 rfl (by simp[Cl.new,hy,nX]) hb;obtain⟨W,Z,w3⟩:=h.ow k l y n 2 R S;have a:(bz X (y::k)).length=n*2:=by
  unfold bz;by_cases hz:n=0
  ·grind
  ·grind
 have p:X ((n*2+1)::y::k)=none:=by
  cases t:X ((n*2+1)::y::k)with
  |none=>rfl
  |some ob =>
   obtain⟨l5,n5,O,P,z2,z3⟩:=h.par _ y k (by rw[t];simp)
   grind
 generalize hO:bz X _=old at *;have M:((X.set (y::k) (some (.c (old++[.v g8,.v (ax L 1 J')])))).set k (some (.c (l.set y (.s (n+1) 2))))) (y::k)=some (.c (old++[.v g8,.v (ax L 1 J')])):=by rw[NX.aE _ _ (fQ y k),NX.aR]
 have A:(old++[.v g8,.v (ax L 1 J')])[n*2+1]?=some (.v (ax L 1 J')):=by rw[lB aa,a,pQ];rfl
 have x:=D.get L.b C w;have g:((X.set (y::k) (some (.c (old++[.v g8,.v (ax L 1 J')])))).set k (some (.c (l.set y (.s (n+1) 2))))) ((n*2+1)::y::k)=none:=by rw[NX.aE _ _ (uq _ y k),NX.aE _ _ (fQ _ _)];exact p
 have T:=V.own M A aa K g (λf I=>by
  rcases D.nw f I with q|⟨k0,W,Z⟩
  ·omega
  ·rw[<-Z];exact w k0 W) (dU C D.next) F (by rwa[x]) (by rw[gB];omega) (by
   rw[cL];intro y' N;obtain⟨d,hd,rfl⟩:=mz.mp N;have:=cL.mp Q d hd;cases d with
   |v z=>exact this
   |s n' a1=>rfl)
 have hs:(old++[Cl.v g8,.v (ax L 1 J')]).set (n*2+1) (.s 1 J')=old++[.v g8,.s 1 J']:=by rw[Y1 _ _ aa,a,pQ];rfl
 rw[hs]at T;have J:(n*2+1)::y::k≠y::k:=fQ _ _;have U:=T.renew (k:=(n*2+1)::y::k) (cs:=I') (by rw[NX.aE _ _ J,NX.aR]) Q (λi=>by
  have G:i::(n*2+1)::y::k≠(n*2+1)::y::k:=fQ _ _;have B:i::(n*2+1)::y::k≠y::k:=uq _ _ _;have H:i::(n*2+1)::y::k≠k:=λe=>by have:=jQ List.length e;simp at this;omega
  rw[NX.aE _ _ B,NX.aE _ _ G,NX.aE _ _ H,NX.aE _ _ B];cases t:X (i::(n*2+1)::y::k)with
  |none=>rfl
  |some ob =>obtain⟨l5,n5,O,P,z2,z3⟩:=h.par i (n*2+1) (y::k) (by rw[t];simp);rw[p]at P;cases P)
 have e5:∀Y:NX,((Y.set ((n*2+1)::y::k) (some (.c ((I'.map Cl.raw).map .v)))).set (y::k) (some (.c (old++[.v g8,.s 1 J'])))).set ((n*2+1)::y::k) (some (.c I'))=(Y.set (y::k) (some (.c (old++[.v g8,.s 1 J'])))).set ((n*2+1)::y::k) (some (.c I')):=λY=>by
  funext q;unfold NX.set;by_cases e:q=(n*2+1)::y::k
  ·simp[e]
  ·simp[e]
 rw[e5]at U;exact⟨E,m1,m2,u,p1,p2,U,D,p5,p6,p,x⟩
end Go.Ab
namespace Go.Ab.Sh
open Go Go.Ab Go.Lib
variable {K:Key}{L:Lc}{N a N' b b2 be bytes zb1 f g i k kf r' r2 J':Nat}{I' l:List Cl}{dc p pf pm:Bool}{e t:Int}{m1 m2:Mem}{n name w:ai}{za3:List Value}{own:List Tmp}{s2:ao}{zb8:List Nat}{za2:ay}
variable {c:Cx}{G m:Mem}{Q j i7:ay}{J s u i5 S':ao}{o V' A' h Z':Nat}{ts:List Tmp}{x:Option Rs}{i8:Value->Nat->ay->ao->Prop}{v:Value}{cu:Cu}
def W.fin(h:W c G Q J o m j s (own++ts))(nr:NR zb1 m2 za2 (aL c s2))(w:Wk G Q (aL c J) m2 za2 (aL c s2))(i:m.next<=m2.next)(f:∀b,b<m.next->(∀k,aL c s k≠none->(j k).b≠b)->m2.get b=m.get b)(l:za2 [0]=j [0]/\za2 [1]=j [1]/\za2 [2]=j [2])(d:∀b,b<m.next->b∉own.map (·.1)->(∀v,aL c s v≠none->(j v).b≠b)->∀u,aL c s2 u≠none->(za2 u).b≠b)(ok:mL c s2):W c G Q J zb1 m2 za2 s2 ts:=by
 have p:c.wb∉own.map (·.1):=λe=>by obtain⟨t,a,e2⟩:=mz.mp e;have:=(h.lt t (List.mem_append_left _ a)).1;have:=h.wb;omega
 have g:=h.nd;rw[uY,YW]at g;have n:∀t∈ts,t.1∉own.map _:=λt a e=>g.2.2 _ e _ (M6 a) rfl;obtain⟨y,r,cs,fro,ro,ty,g1,g2,g3⟩:=h.ps.wl.at';exact{
  ps:={
   nr:=nr
   wl:={ h.ps.wl with
    lt:=dU h.ps.wl.lt i
    at':=⟨y,r,cs,fro,ro,ty,g1,by rw[f _ h.ps.wl.lt h.ps.nb];exact g2,g3⟩ }
   nb:=d c.wb h.ps.wl.lt p h.ps.nb
   pC:=by rw[l.2.1];exact h.ps.pC
   pP:=by rw[l.1];exact h.ps.pP
   pO:=by rw[l.2.2];exact h.ps.pO
   ok:=ok }
  wk:=w
  wb:=h.wb
  lt:=λt a=>by have:=h.lt t (Ci _ a);omega
  nx:=λt a=>d t.1 (h.lt t (Ci _ a)).2 (n t a) (h.nx t (Ci _ a))
  at':=λt a=>by obtain⟨ty,q⟩:=h.at' t (Ci _ a);exact⟨ty,by rwa[f _ (h.lt t (Ci _ a)).2 (h.nx t (Ci _ a))]⟩
  nd:=g.2.1 }
def UK(a:s.X [0]=some (.c l))(g:l.length=18)(h:f<12)(hf:bo 0 f=some (.l r'))(o:l[f]?=some (.s N 2))(d:(bz s.X [f,0]).length=N*2)(m:s.X [N*2+1,f,0]=none)(i:au s.X [0] f=N)(k:I'.length=J') :
  ((s.app [0] f [.v (sv n),.s 0 J']).app [f,0] (au s.X [0] f*2+1) I').X=(((s.X.set [f,0] (some (.c (bz s.X [f,0]++[.v (sv n),.s 0 J'])))).set [0] (some (.c (l.set f (.s (N+1) 2))))).set [N*2+1,f,0] (some (.c I'))).set [f,0] (some (.c (bz s.X [f,0]++[.v (sv n),.s 1 J']))):=by
 show bg (bg s.X [0] f _) _ _ I'=_;rw[i,pa a o [.v (sv n),.s 0 J'] rfl];generalize p:bz s.X _=old at *;have j:((s.X.set [f,0] (some (.c (old++[.v (sv n),.s 0 J'])))).set [0] (some (.c (l.set f (.s (N+1) 2))))) [f,0]=some (.c (old++[.v (sv n),.s 0 J'])):=by rw[NX.aE _ _ (fQ f [0]),NX.aR]
 have e:(old++[Cl.v (sv n),.s 0 J'])[N*2+1]?=some (.s 0 J'):=by rw[lB aa,d,pQ];rfl
 rw[pa j e I' k];have b:bz ((s.X.set [f,0] (some (.c (old++[.v (sv n),.s 0 J'])))).set [0] (some (.c (l.set f (.s (N+1) 2))))) [N*2+1,f,0]=[]:=by unfold bz;rw[NX.aE _ _ (uq _ f [0]),NX.aE _ _ (fQ _ _),m]
 rw[b,my,Y1 _ _ aa,d,pQ];rfl
def XaE(w:WT s.X)(a:s.X [0]=some (.c l))(z:l.length=18)(A:f<12)(hf:bo 0 f=some (.l r'))(j:aN r'=2)(p:(ch r')[0]?=some .s)(h:(ch r')[1]?=some (.l r2))(o:aN r2=J')(hn:n.length<=SB)(r:l[f]?=some (.s N 2))(e:(bz s.X [f,0]).length=N*2)(C:s.X [N*2+1,f,0]=none)(B:au s.X [0] f=N)(x:I'.length=J')(q:∀(i:Nat)(d),I'[i]?=some d->dz ((ch r2)[i]?) d):WT ((s.app [0] f [.v (sv n),.s 0 J']).app [f,0] (au s.X [0] f*2+1) I').X/\∀k y,au s.X k y<=au ((s.app [0] f [.v (sv n),.s 0 J']).app [f,0] (au s.X [0] f*2+1) I').X k y:=by
 subst o;have t:l[f]?=some (.s N (aN r')):=by rw[j];exact r
 have D:WT (bg s.X [0] f [.v (sv n),.s 0 (aN r2)]):=w.ap a rfl hf t (by rw[j];exact e) (by rw[j];rfl) (λi d hd=>by
  match i,hd with
  |0,hd=>cases hd;rw[p];exact eJ hn
  |1,hd=>cases hd;rw[h];exact rfl)
 have e1:=pa a r [.v (sv n),.s 0 (aN r2)] rfl;generalize E:bz s.X _=old at *;have u:(bg s.X [0] f [.v (sv n),.s 0 (aN r2)]) [f,0]=some (.c (old++[.v (sv n),.s 0 (aN r2)])):=by rw[e1,NX.aE _ _ (fQ f [0]),NX.aR]
 have g:(old++[Cl.v (sv n),.s 0 (aN r2)])[N*2+1]?=some (.s 0 (aN r2)):=by rw[lB aa,e,pQ];rfl
 have b:bz (bg s.X [0] f [.v (sv n),.s 0 (aN r2)]) [N*2+1,f,0]=[]:=by rw[e1];unfold bz;rw[NX.aE _ _ (uq _ f [0]),NX.aE _ _ (fQ _ _),C]
 have m:bo r' (N*2+1)=some (.l r2):=by rw[fd_row j N 1 aa];exact h
 rw[B];refine⟨D.ap u (fB rfl hf) m g (by rw[b];simp) x q,λk y=>?_⟩;exact aO (Ll a r _ rfl k y) (Ll u g _ x k y)
def W.apX{e}(h:W c G Q J o m j s ((b2,0,[sv n,ax L 1 J'])::(L.b,L.ver,I'.map Cl.raw)::ts))(Z:L.r<2)(a9:o<=8589934592)(w:f<12)(hf:bo 0 f=some (.l r'))(hs:aN r'=2)(C:I'.length=J')(a6:0<J')(h1:I'.all Cl.new=true)(hb:bytes<=256) :
  ∃U m1 m2 za2 zb1,dn e 2 bytes (ax (j [f,0]) (au s.X [0] f) 2) (.slice (some ⟨b2,0,some 2⟩) 1 1) m=some (U,m1)/\Xe 1 (pt c.P f 0) U m1=some m2/\zb1<=o+1 /\
   NR zb1 m2 za2 (aL c ((s.app [0] f [.v (sv n),.s 0 J']).app [f,0] (au s.X [0] f*2+1) I'))/\Wk G Q (aL c J) m2 za2 (aL c ((s.app [0] f [.v (sv n),.s 0 J']).app [f,0] (au s.X [0] f*2+1) I'))/\m.next<=m2.next/\(∀b,b<m.next->(∀k,aL c s k≠none->(j k).b≠b)->m2.get b=m.get b) /\
   (za2 [0]=j [0]/\za2 [1]=j [1]/\za2 [2]=j [2])/\(∀b,b<m.next->b≠L.b->(∀z,aL c s z≠none->(j z).b≠b)->∀d,aL c ((s.app [0] f [.v (sv n),.s 0 J']).app [f,0] (au s.X [0] f*2+1) I') d≠none->(za2 d).b≠b) /\
   (∃l N,s.X [0]=some (.c l)/\l.length=18/\l[f]?=some (.s N 2)/\(bz s.X [f,0]).length=N*2/\s.X [N*2+1,f,0]=none/\au s.X [0] f=N)/\(∃z,aL c J z≠none/\m2.low<=(Q z).b):=by
 obtain⟨l,a,i⟩:=h.ps.wt.root;obtain⟨R,q2,_,_,_⟩:=h.ps.list a rfl aa hf;have M:=fB (k:=[0]) (r:=0) rfl hf;obtain⟨_,y,a3⟩:=K6 h.ps a rfl hf R;rw[hs]at R y;generalize hN:au s.X [0] f=N at *;have g:aL c s [0]=some (.c (dt c s l)):=lF a;have a4:(dt c s l)[f]?=some (.s N 2):=by rw[yi i f (.inl w)];exact R
 have ⟨ab,a0⟩:=h.at' (b2,0,[sv n,ax L 1 J']) ar;have ⟨ac,a1⟩:=h.at' (L.b,L.ver,I'.map Cl.raw) ar;have F:=h.lt (L.b,L.ver,I'.map Cl.raw) ar;obtain⟨U,m1,m2,H1,p1,p2,V,A,p5,p6,p7,p8⟩:=h.ps.nr.XoG (e:=e) (bytes:=bytes) (g8:=sv n) g a4 a0 rfl a1 Z F.2 (h.nx (L.b,L.ver,I'.map Cl.raw) ar) C a6 h1 (uv aa hb);rw[h.ps.pP]at p2;have D:([f,0])≠[1]:=λe=>jA;have x:([f,0])≠[0]:=λe=>jA;have I:([N*2+1,f,0])≠[1]:=λe=>jA;have H:([N*2+1,f,0])≠[0]:=λe=>jA;have u:([N*2+1,f,0])≠[15,0]/\([N*2+1,f,0])≠[2]:=⟨(λe=>by injection e with e1 e2;injection e2 with Y e4;cases e4),(λe=>jA)⟩
 have K:s.X [N*2+1,f,0]=none:=by rwa[<-jI I H u]
 rw[a3]at V A;have hX:=UK (n:=n) a i w hf R y K hN C;rw[hN]at hX;generalize hO:bz s.X _=old at *;generalize hS:(s.app [0] f _).app _ _ I'=T at *;have a5:T={ s with X:=T.X }:=by rw[<-hS];rfl
 have B:((((aL c s).set [f,0] (some (.c (old++[.v (sv n),.v (ax L 1 J')])))).set [0] (some (.c ((dt c s l).set f (.s (N+1) 2))))).set [f,0] (some (.c (old++[.v (sv n),.s 1 J'])))).set [N*2+1,f,0] (some (.c I'))=aL c T:=by
  rw[a5,hX];have t1:=um (c:=c) (s:=s) (a:=[f,0]) (some (.c (old++[.v (sv n),.s 0 J']))) D x (gT M);have t4:=um (c:=c) (s:={ s with X:=((s.X.set [f,0] (some (.c (old++[.v (sv n),.s 0 J'])))).set [0] (some (.c (l.set f (.s (N+1) 2))))).set [N*2+1,f,0] (some (.c I')) }) (a:=[f,0]) (some (.c (old++[.v (sv n),.s 1 J']))) D x (gT M);rw[<-t4,<-um (c:=c) (s:={ s with X:=(s.X.set [f,0] (some (.c (old++[.v (sv n),.s 0 J'])))).set [0] (some (.c (l.set f (.s (N+1) 2)))) }) (a:=[N*2+1,f,0]) (some (.c I')) I H u,<-VP (c:=c) (s:={ s with X:=s.X.set [f,0] (some (.c (old++[.v (sv n),.s 0 J']))) }) (l':=l.set f (.s (N+1) 2)) rfl,<-t1,Xp2 i f _ aa (.inl w)];have er:dt c { s with X:=s.X.set [f,0] (some (.c (old++[.v (sv n),.s 0 J']))) } (l.set f (.s (N+1) 2))=dt c s (l.set f (.s (N+1) 2)):=rfl;rw[er];funext q;unfold NX.set;by_cases S:q=[f,0]
  ·simp[S]
  ·simp[S]
 rw[B]at V;have t:∀d,aL c T d≠none->d=[N*2+1,f,0]\/((aL c s).set _ (some _)).set [0] _ d≠none:=λd p=>by
  rw[<-B]at p;by_cases e1:d=[N*2+1,f,0]
  ·exact .inl e1
  ·refine .inr λe2=>p ?_;rw[NX.aE _ _ e1];by_cases Y:d=[f,0]
   ·subst Y;rw[NX.aE _ _ x,NX.aR]at e2;cases e2
   ·rw[NX.aE _ _ Y];exact e2
 have E:=h.wk.Ys (by rw[g];simp) p6 A.low;have WF:=(h.wk.trans A).own F.1 E t;have O:∀q,q≠[N*2+1,f,0]->(H1.set _ L) q=H1 q:=λq S=>ay.aE _ _ S;refine⟨U,m1,m2,_,_,p1,p2,aa,V,WF,A.next,A.get,⟨?_,?_,?_⟩,λb hb a8 a7 d p=>?_,⟨l,N,a,i,R,y,K,rfl⟩,E⟩
 ·grind
 ·grind
 ·grind
 ·by_cases e1:d=[N*2+1,f,0]
  ·rw[e1,ay.aR];omega
  ·rw[O _ e1];rcases t d p with e2|e2
   ·grind
   ·rcases A.nw d e2 with q|⟨z,w1,w2⟩
    ·omega
    grind
def W.apq{e}(h:W c G Q J o m j s ((b2,0,[sv n,ax L 1 J'])::(L.b,L.ver,I'.map Cl.raw)::ts))(z:L.r<2)(hn:n.length<=SB)(E:o<=8589934592)(p:f<12)(hf:bo 0 f=some (.l r'))(R:aN r'=2)(I:(ch r')[0]?=some .s)(M:(ch r')[1]?=some (.l r2))(t:aN r2=J')(q:I'.length=J')(S:I'.all Cl.new=true)(O:∀(i:Nat)(d),I'[i]?=some d->dz ((ch r2)[i]?) d)(A:bytes<=256){K:aj->Option Rs}(g:∀A' m1 i7,A'<=o+1->W c G Q J A' m1 i7 ((s.app [0] f [.v (sv n),.s 0 J']).app [f,0] (au s.X [0] f*2+1) I') ts->aK c G Q J (K m1) i8) :
  aK c G Q J (bp (dn e 2 bytes (ax (j [f,0]) (au s.X [0] f) 2) (.slice (some ⟨b2,0,some 2⟩) 1 1) m) λx m=>bp (bP (Xe 1 (pt c.P f 0) x m)) λ_ m=>K m) i8:=by
 obtain⟨v',m1,Y,a0,a1,Z,p2,D,V,p4,p5,p6,p7,p8,⟨l,N,a,u,q1,F,H,T⟩,_⟩:=h.apX (e:=e) z E p hf R q (by rw[<-t];exact KJ r2) S A;obtain⟨U,w⟩:=XaE (n:=n) (I':=I') (J':=J') h.ps.wt a u p hf R I M t hn q1 F H T q O;rw[Z,X4,p2,Xj];exact g _ Y _ D (W.fin (own:=[(b2,0,[sv n,ax L 1 J']),(L.b,L.ver,I'.map Cl.raw)]) h V p4 p5 p6 p7 (λb A C B=>p8 b A (λe=>C (by rw[e];simp)) B) ⟨h.ps.ok.le,h.ps.ok.ee,U,h.ps.ok.il,h.ps.ok.ge.to λk y _=>w k y⟩)
def W.apm{d t e}(h:W c G Q J o m j s ((b2,0,[sv n,ax L 1 2])::(L.b,L.ver,[.bool pm,ax d t 1])::(d.b,d.ver,za3)::ts))(a8:L.r<2)(Y:d.r<2)(hn:n.length<=SB)(ag:o<=8589934592)(an:za3.length=t)(h0:t≠0)(hv:∀v∈za3,∃z,v=.int .u32 z)(hb:bytes<=256){K:aj->Option Rs}(g:∀A' m1 i7,A'<=o+1+t->W c G Q J A' m1 i7 (((s.app [0] 8 [.v (sv n),.s 0 2]).app [8,0] (au s.X [0] 8*2+1) [.v (.bool pm),.s 0 1]).iV [au s.X [0] 8*2+1,8,0] 1 za3) ts->aK c G Q J (K m1) i8) :
  aK c G Q J (bp (dn e 2 bytes (ax (j [8,0]) (au s.X [0] 8) 2) (.slice (some ⟨b2,0,some 2⟩) 1 1) m) λx m=>bp (bP (Xe 1 (pt c.P 8 0) x m)) λ_ m=>K m) i8:=by
 have a3:za3.all one=true:=by rw[cL];intro g8 hy;obtain⟨z,rfl⟩:=hv g8 hy;rfl
 obtain⟨v',m1,m2,a5,b5,p1,p2,b1,V,p4,p5,p6,p7,p8,⟨l,N,a,H,q1,R,C,Z⟩,am⟩:=W.apX (I':=[.v _,.v (ax d t 1)]) (e:=e) h a8 ag (f:=8) aa rfl rfl rfl aa (by simp[Cl.new,nX];rfl) hb;obtain⟨hW,a7⟩:=XaE (n:=n) (I':=[.v (.bool pm),.s 0 1]) (J':=2) h.ps.wt a H (f:=8) aa rfl rfl rfl rfl rfl hn q1 R C Z rfl (dJ (And.intro (fV _) (And.intro (jM 11 0) trivial)));rw[p1,X4,p2,Xj];rw[Z]at V p4 p8 hW a7 g;have ha:=UK (n:=n) (I':=[.v (.bool pm),.v (ax d t 1)]) (J':=2) a H aa rfl q1 R C Z rfl;have M:=UK (n:=n) (I':=[.v (.bool pm),.s 0 1]) (J':=2) a H aa rfl q1 R C Z rfl;rw[Z]at ha M;generalize hA:(s.app [0] 8 _).app _ _ [.v _,.v _]=w at *;generalize hB:(s.app [0] 8 _).app _ _ _=T at *;have av:w={ s with X:=w.X }:=by rw[<-hA];rfl
 have aw:T={ s with X:=T.X }:=by rw[<-hB];rfl
 have B:([N*2+1,8,0])≠[1]:=λe=>jA;have A:([N*2+1,8,0])≠[0]:=λe=>jA;have p:([N*2+1,8,0])≠[15,0]/\([N*2+1,8,0])≠[2]:=⟨(λe=>by injection e with e1 e2;injection e2 with e3 e4;cases e4),(λe=>jA)⟩
 have a4:([N*2+1,8,0])≠[8,0]:=fQ _ _;have S:([1,N*2+1,8,0])≠[1]:=λe=>jA;have D:([1,N*2+1,8,0])≠[0]:=λe=>jA;have u:([1,N*2+1,8,0])≠[15,0]/\([1,N*2+1,8,0])≠[2]:=⟨(λe=>by injection e with e1 e2;injection e2 with e3 e4;cases e4),(λe=>jA)⟩
 have U:w.X [N*2+1,8,0]=some (.c [.v (.bool pm),.v (ax d t 1)]):=by rw[ha,NX.aE _ _ a4,NX.aR]
 have I:T.X [N*2+1,8,0]=some (.c [.v (.bool pm),.s 0 1]):=by rw[M,NX.aE _ _ a4,NX.aR]
 have a6:w.X [1,N*2+1,8,0]=none:=by
  rw[ha,NX.aE _ _ (uq _ _ _),NX.aE _ _ (fQ _ _),NX.aE _ _ D,NX.aE _ _ (uq _ _ _)];cases aA:s.X [1,N*2+1,8,0]with
  |none=>rfl
  |some ob =>obtain⟨l5,n5,b3,z1,z2,z3⟩:=h.ps.nr.par 1 _ _ (by rw[jI S D u,aA];simp);rw[jI B A p,C]at z1;cases z1
 have ⟨b4,al⟩:=h.at' (d.b,d.ver,za3) ar;have i:=h.lt (d.b,d.ver,za3) ar;have E:=h.nx (d.b,d.ver,za3) ar;have a1:=h.nd;simp only[lx,zl,eF]at a1;have a2:d.b≠L.b:=λe=>a1.2.1 (.inl e.symm);have o1:=V.own (y:=1) (by rw[jI B A p];exact U) rfl h0 aa (by rwa[jI S D u]) (p8 _ i.2 a2 E) (dU i.2 p5) Y (by rwa[p6 _ i.2 E]) aa a3;have hC:T.iV [N*2+1,8,0] 1 za3={ s with X:=(T.X.set [1,N*2+1,8,0] (some (.c (za3.map .v)))).set [N*2+1,8,0] (some (.c [.v (.bool pm),.s t 1])) }:=by unfold ao.iV;rw[vY I,an,aw];rfl
 have a0:((aL c w).set [1,N*2+1,8,0] (some (.c (za3.map .v)))).set [N*2+1,8,0] (some (.c [.v (.bool pm),.s t 1]))=aL c (T.iV [N*2+1,8,0] 1 za3):=by
  rw[hC];rw[um (c:=c) (s:=w) (a:=[1,N*2+1,8,0]) (some (.c (za3.map .v))) S D u,um (c:=c) (s:={ w with X:=w.X.set [1,N*2+1,8,0] (some (.c (za3.map .v))) }) (a:=[N*2+1,8,0]) (some (.c [.v (.bool pm),.s t 1])) B A p,ha,M,av];congr 2;funext q;unfold NX.set;by_cases hq:q=[N*2+1,8,0]
  ·simp[hq]
  ·simp[hq]
 have o1:NR _ m2 _ (((aL c w).set _ _).set _ (some (.c [.v _,.s t 1]))):=o1;rw[a0]at o1;have ab:∀F,aL c _ F≠none->F=[1,N*2+1,8,0]\/aL c w F≠none:=λF O=>by
  rw[<-a0]at O;by_cases e1:F=[1,N*2+1,8,0]
  ·exact .inl e1
  ·refine .inr λe2=>O ?_;by_cases e3:F=[N*2+1,8,0]
   ·subst e3;rw[jI B A p,U]at e2;cases e2
   ·rw[NX.aE _ _ e3,NX.aE _ _ e1];exact e2
 have aB:∀q,q≠[1,N*2+1,8,0]->(a5.set _ d) q=a5 q:=λq hq=>ay.aE _ _ hq;have a9:WT (T.iV _ 1 _).X:=hW.iV I (fB rfl (by rw[fd_row (r:=9) (sz:=2) rfl N 1 aa];rfl)) rfl rfl hv;refine g _ m2 _ aa (W.fin (own:=[(b2,0,[sv n,ax L 1 2]),(L.b,L.ver,[.bool pm,ax d t 1]),(d.b,d.ver,za3)]) h o1 (p4.own i.1 am ab) p5 p6 ⟨?_,?_,?_⟩ (λb hb ac b0 F O=>?_) ⟨?_,?_,a9,?_,h.ps.ok.ge.to λk y hk=>?_⟩)
 ·grind
 ·grind
 ·grind
 ·simp at ac;by_cases e1:F=[1,N*2+1,8,0]
  ·rw[e1,ay.aR];omega
  grind
 ·rw[hC];exact h.ps.ok.le
 ·rw[hC];exact h.ps.ok.ee
 ·rw[hC];exact h.ps.ok.il
 ·show au s.X k y<=au (iz _ _ 1 _) k y;rw[Lj I _ _ k y aq aq]
  grind
variable [gF c]
abbrev d7(d:Nat):Gt:=(aH (d+7))
abbrev gL(seq:Int)(N':Nat):List Cl:=[.v (.int .i64 seq),.v (.int .u8 (N':Int)),.v (sv []),.v (sv []),.v (.int .i64 (-1)),.v (.int .i64 (-1)),.v (.int .i64 (-1)),.v (.int .i64 (-1)),.v (.int .i64 (-1)),.v (.int .i64 (-1)),.s 0 1,.v (.bool false),.s 0 1,.v (u32 0),.v (.int .i64 0)]
abbrev YI:ai:=dH
omit [gF c] in
def xS(h:W c G Q J o m j s ts){sz}(hf:bo 0 f=some (.l r'))(d:f<18)(n:aN r'=sz)(g:K≠[0])(i:∀a,aL c s a≠none->a≠K->m1.get (j a).b=m.get (j a).b) :
  X9 false 1 (pt c.P f 0) m1=some (ax (j [f,0]) (au s.X [0] f) sz):=by
 obtain⟨⟨l,k,_⟩,_,q,_⟩:=h.ps.dev hf d n;have p:aL c s [0]≠none:=by rw[lF k];simp
 have e:=i [0] p (bq g);rw[h.ps.pP]at e;rwa[Xoj e]
def XdI{A' i7}{g q:Nat}(h:W c G j s A' m i7 u ((g,0,[sv name])::ts))(a4:A'<=o+1)(a6:o+2<=8589934592)(hi:i<au u.X [0] 9)(hq:q<=65535)(n:name.length<=65536)(d) :
  aK c G j s (H2 (d7 d) (pt c.P 0 0) (I i) (pt c.P 0 0) (.int .i64 (q:Int)) (.int .u8 (N':Int)) (pt g 0 0) m) (gG o 2 (.tuple ⟨[]⟩) (mj ((u.aC [0] 17 [I i]).app [9,0] (i*3+1) (gL q N')) kH [YI,name,bN q])):=by
 delta H2 O H C jo F jn X je jc B Z jb ju jm jf A D jp
 try simp only[Xg,X7,X3,aQ]
 refine h.MW rfl rfl aa (.inr ⟨aa,gF.rf⟩) (by exact bR _ _) λm1 x=>?_;obtain⟨lr,p,S⟩:=h.ps.wt.root;have hN:au (u.aC [0] 17 [I i]).X [0] 9=au _ [0] 9:=yo h.ps.wt p rfl cF (λi6 g8 t=>by
  match i6,t with
  |0,t=>cases t;exact bR _ _) [0] 9
 have hi:i<au (u.aC [0] 17 [I i]).X [0] 9:=aa;obtain⟨_,q2,q3,_,q5⟩:=x.ps.dev (f:=9) (sz:=3) rfl aa rfl;have ⟨l9,R,a2,Y⟩:=q5 aa;have hf:bo 12 (i*3+1)=some (.l 13):=by rw[fd_row (r:=12) (sz:=3) rfl i 1 aa];rfl
 have ⟨_,_,E,_,_⟩:=x.ps.list R wC aa hf;have v:Xd 3 _ (I i)=some _:=eU _ Y _ 3 i _ hi;have eb:Xc qW [(0,1),(1,1),(2,1),(3,1),(4,1),(5,1),(6,1),(7,1),(8,1),(9,1),(10,1),(11,1),(12,1),(13,1),(14,1)] [(0,.int _ (q)),(1,.int .u8 (N')),(4,.int _ _),(5,.int _ _),(6,.int _ _),(7,.int _ _),(8,.int _ _),(9,.int _ _)]=some (.agg ⟨(gL q N').map Cl.raw⟩):=aU rfl rfl;simp only[q3,X3,v,X7,E,eb];refine x.bO (cs:=(gL q N').map _) rfl ak λb2 m2 U=>?_;refine U.Fs aa R wC aa hf (sz:=15) rfl rfl rfl (dJ (by repeat' (first|exact trivial|exact bR _ _|exact fV _|exact eJ c7|exact jM _ _|apply And.intro))) ak (K:=λm=>bp (aI (X9 false 1 (pt g 0 0) m) m) λb m =>
  bp (conv (.int .u32) (.int .i64 (q:Int)) m) λM m =>
  bp (TA (d+7) AM [M] m) λN m =>
  tb (again (aI (X9 false 1 (pt g 0 0) m) m) b&&true)
   (bp (X8 Qc [.string ⟨#[]⟩] 1 3 [(0,sv YI),(1,b),(2,N)] m) λQ m =>
  bp (TA (d+7) vo [pt c.P 0 0,.func (.func DR) ⟨[pt c.P 0 0]⟩ ⟨[]⟩,Q] m) λa7 m =>
  some (.tuple ⟨[]⟩,m))) (λv' a hg=>by simp only[xS U (f:=9) (sz:=3) rfl aa rfl (λe=>aq) hg,o6,fO,Xv,];rfl) λa9 a a8 a5 _ V=>?_
 have k:conv (.int .u32) (.int .i64 (q)) a=some (.int .u32 (q),a):=by grind[dS,IntWalk.u32_in]
 have ct:TA (d+7) _ _ a=some _:=Yg q aa _ a;simp only[V.ld (y:=0) br rfl,X3,k,X4,ct,sG,fO,Xv];refine V.bO (cs:=[YI,name,bN q].map sv) rfl ak λb3 m4 z=>?_;have a0:=VJ q aa;refine z.cs (EH z.ps (z.iE br) ar (λw T=>by
  simp only[eF,Na,or_false]at T;rcases T with rfl|rfl|rfl
  ·decide
  ·exact n
  ·omega) kH ak _) λm5 k5=>?_
 exact k5.iM aa
def Xvs(h:PS c o m j s)(g:o+2<=8589934592)(name)(e:name.length<=65536)(N' q:Nat)(z:q<=65535)(d):eM c o 2 m j s (TA (d+8) Pq [pt c.P 0 0,sv name,.int .u8 (N':Int),.int .i64 (q:Int)] m) (.tuple ⟨[]⟩) (vO s name N' q):=by
 refine h.pad (X91 _ _ _ _ _ _) λG k=>?_;delta Dk U;refine k.new λI T b=>?_;obtain⟨⟨S,a,l⟩,Y,F,_,q5⟩:=b.ps.dev (f:=9) (sz:=3) rfl aa rfl;have ix:=XpN b.ps aa a rfl aa rfl _ ((b.lt _ br).2) (b.at' _ br) (d+5);delta Qos Qot C je jc;simp only[Xg,X7,X3,aQ,F,ix,X4];delta Qou E X jc B N Z jm A;unfold vO rowOf;simp only[yC,X3,pI];have hi:∀n,fq s.X [0] 9 3 0 name=some n->n<au s.X [0] 9:=λn L=>by have:=vI _ _ _ _ _ _ L;omega
 generalize fq s.X [0] 9 3 0 _=i at hi|-;cases i with
 |some n =>exact XdI b zv g (hi n rfl) z e d
 |none =>
  simp only[F8,X6];have J:Xc sq [(0,1),(1,1),(2,1)] [(0,sv name)]=some _:=aU rfl rfl;simp only[F,dx,X3,Xg,X7,aQ,b.ld (y:=0) br rfl,J];refine b.bO (cs:=[sv _,.slice _ 0 0,.bool _]) rfl ak λH O w=>?_;have w:W c G j s o O j s ((H,0,[Cl.v (sv _),.s 0 15,.v _].map Cl.raw)::[(I,0,[sv _])]):=w;refine w.ml aa (y:=9) aa rfl rfl rfl rfl (dJ (And.intro (eJ (aO e ak)) (And.intro (jM _ _) (And.intro (fV _) trivial)))) ak λQ V R t _ M=>?_;have K:au s.X [0] 9<au (s.app [0] 9 [.v (sv name),.s 0 15,.v (.bool false)]).X [0] 9:=by show _<au (bg s.X [0] 9 _) [0] 9;obtain⟨D,_⟩:=b.ps.list a (r:=0) rfl (y:=9) aa (r':=12) rfl;rw[pa a D _ rfl];unfold au;rw[lI,du,ah rfl,ah l,cU a,D];show au s.X [0] 9<au s.X [0] 9+1;omega
  exact XdI M t g K z e d
def Xtq(h:PS c o m j s)(L:o+2<=8589934592)(d):eM c o 1 m j s (TA (d+8) Ps [pt c.P 0 0,pt c.C 0 0] m) (.tuple ⟨[]⟩) (vK c s):=by
 refine h.pad (X8w _ _ _ _) λG k=>?_;delta HG H C E je jc B Z jr ju jk jm A D jq;unfold vK
 try simp only[Xg,X7,X3,aQ]
 refine k.bO (cs:=[gZ,dZ].map sv) rfl ak λY m1 x=>?_;refine x.cl (qj x.ps (x.iE (ws:=[gZ,dZ]) br) ar _) λm2 i=>?_;generalize aP c _ _=O at i|-;have e0:bin _ _ _ _ _ (.int _ 0)=some _:=nW O.1 0;simp only[e0,X3];refine Xh (λu=>?_) (λu=>?_)
 ·rw[ah (aT u)];have e:=Bp i.ps;rw[bL]at e;refine i.cl (XU i.ps _) λS a=>?_;rw[bL]at a|-;generalize dG c O.2=V at a e|-;refine a.bO (cs:=[lW,gZ,V.1].map sv) rfl ak λK T g=>?_;refine g.cs (EH g.ps (ws:=[lW,gZ,V.1]) (g.iE br) ar (λw M=>by
   grind) oz ak _) λU l=>?_
  obtain⟨_,_,z,_,_⟩:=l.ps.dev (f:=10) (sz:=3) rfl aa rfl;have t:Xc AQ [(0,1),(1,1),(2,1)] [(0,sv V.1)]=some (.agg ⟨[sv V.1,u32 0,.slice _ 0 0]⟩):=aU rfl rfl;simp only[X3,z,t];refine l.bO (cs:=[sv V.1,u32 0,.slice _ 0 0]) rfl ak λr F n=>?_;have n:W c G j s o F j _ ((r,0,[Cl.v (sv V.1),.v (u32 0),.s 0 4].map Cl.raw)::_):=n;refine n.ml aa (y:=10) aa rfl rfl rfl rfl (dJ (And.intro (eJ (aO e ak)) (And.intro (bR _ _) (And.intro (jM _ _) trivial)))) ak λJ I Q b _ q=>?_;exact q.iM b
 ·rw[af (aV u)];refine i.cl (kz i.ps 1 _ 4294967295 rfl aa _) λS a=>?_;rw[bL]at a|-;have p:=Bk c O.2 1 4294967295 aa;generalize Xb c O.2 1 _=N at a p|-;have e:=Bp a.ps;rw[bL]at e;refine a.cl (XU a.ps _) λT g=>?_;rw[bL]at g|-;generalize dG c N.2=V at g e|-;refine g.bO (cs:=[lW,dZ,V.1].map sv) rfl ak λK U l=>?_;refine l.cs (EH l.ps (ws:=[lW,dZ,V.1]) (l.iE br) ar (λw M=>by
   grind) mo ak _) λF n=>?_
  obtain⟨_,_,z,_,_⟩:=n.ps.dev (f:=11) (sz:=6) rfl aa rfl;have t:Xc sD [(0,1),(1,1),(2,1),(3,1),(4,1),(5,1)] [(0,sv V.1),(1,.int _ N.1)]=some (.agg ⟨[sv V.1,.int .u32 N.1,u32 0,.slice _ 0 0,.slice _ 0 0,.slice _ 0 0]⟩):=aU rfl rfl;simp only[X3,z,p,X4,t];refine n.bO (cs:=[sv V.1,.int _ N.1,u32 0,.slice _ 0 0,.slice _ 0 0,.slice _ 0 0]) rfl ak λr I q=>?_;have q:W c G j s o I j _ ((r,0,[Cl.v (sv V.1),.v _,.v (u32 0),.s 0 2,.s 0 6,.s 0 4].map Cl.raw)::_):=q;refine q.ml aa (y:=11) aa rfl rfl rfl rfl (dJ (And.intro (eJ (aO e ak)) (And.intro (bR _ _) (And.intro (bR _ _) (And.intro (jM _ _) (And.intro (jM _ _) (And.intro (jM _ _) trivial))))))) ak λJ m8 Q b _ R=>?_;exact R.iM b
variable {c:Cx}{G m:Mem}{Q j i7:ay}{J s u i5 S':ao}{o V' A' h Z':Nat}{ts:List Tmp}{x:Option Rs}{i8:Value->Nat->ay->ao->Prop}{v:Value}{cu:Cu}
def mu(s:ao)(n:ai)(cs:List Cl):ao:=(rowOf s 7 2 n [.v (sv n),.s 0 5]).2.app [7,0] ((rowOf s 7 2 n [.v (sv n),.s 0 5]).1*2+1) cs
def YE(s:ao)(n:ai)(cs:List Cl)(y:Option Nat):ao:=match y with
 |some a=>s.app [7,0] (a*2+1) cs
 |none=>(s.app [0] 7 [.v (sv n),.s 0 5]).app [7,0] (au s.X [0] 7*2+1) cs
def Xzc(s n cs):mu s n cs=YE s n cs (fq s.X [0] 7 2 0 n):=by unfold mu rowOf YE;cases fq s.X [0] 7 2 0 n<;>rfl
def Xze(p)(a b:Nat)(g l):∀(i:Nat)(d),[Cl.v (.bool p),.v (u32 a),.v (I b),.v (.int .i64 g),.v (.int .i64 l)][i]?=some d->dz ((ch 8)[i]?) d:=dJ (And.intro (fV _) (And.intro (bR _ _) (And.intro (bR _ _) (And.intro (bR _ _) (And.intro (bR _ _) trivial)))))
def Xok(M')(Q:o+1<=8589934592){be n p a b g e}(hn:n.length<=65536)(k:W c G j s o m j u ((be,0,dT p a b g e)::ts)):∀N i f,i+N=au u.X [0] 7->N<f ->
  aK c G j s (zN M' f (I i) (pt c.P 0 0) (sv n) (pt be 0 0) m) (QR o 1 (.tuple ⟨[]⟩) (YE u n [.v (.bool p),.v (u32 a),.v (I b),.v (.int .i64 g),.v (.int .i64 e)] (gx (λJ=>decide (di u.X [7,0] J=n)) 2 0 N i)))
 |N,i,0,_,hf=>aa
 |0,i,f+1,hN,hf=>by obtain⟨_,q2,C,_,q5⟩:=k.ps.dev (f:=7) (sz:=2) rfl aa rfl;have t:X9 _ 5 _ m=some (.agg ⟨dT p a b g e⟩):=k.fi (y:=0) br ar rfl;unfold zN;delta E F je N ji;simp only[Xg,X7,X3,aQ,C,dx,Qb,Xf];rw[af aa];delta Oi H F jd je B jm jf jq;simp only[Xg,X7,X3,aQ,C,t];refine k.bO (cs:=dT p a b g e) rfl ak λM m1 k1=>?_;have eb:Xc vu [(0,1),(1,1)] [(0,sv n),(1,.slice (some ⟨M,0,some 5⟩) 1 1)]=some _:=aU rfl rfl;simp only[eb,X3];refine k1.bO (cs:=[sv n,.slice _ 1 1]) rfl ak λb2 m2 d=>?_;have d:W c G j s o m2 j u ((b2,0,[sv n,ax ⟨M,0,1⟩ 1 5])::(M,0,[Cl.v _,.v (u32 a),.v (I b),.v _,.v _].map Cl.raw)::(be,0,dT p a b g e)::ts):=d;refine W.apq d (by show 1<2;omega) (aO hn ak) aa aa rfl rfl rfl rfl rfl rfl rfl (Xze p a b g e) ak λzb1 Z za2 h S=>?_;exact S.kj h rfl λ_=>rfl
 |N+1,i,f+1,hN,hf=>by
  obtain⟨⟨lr,a0,Y⟩,q2,C,_,q5⟩:=k.ps.dev (f:=7) (sz:=2) rfl aa rfl;obtain⟨l7,D,a2,a3⟩:=q5 aa;have hi:i<au u.X [0] 7:=aa;have q:Xd 2 _ (I i)=some _:=eU _ a3 _ 2 i _ hi;obtain⟨ty,x⟩:=k.ps.aF D ak ak;have U:X9 _ 1 (pt _ (i*2+0) _) m=some (sv (di _ _ (i*2+0))):=Xt x (k.ps.BY D rfl rfl a2 rfl i hi);have es:bin _ _ _ _ (sv (di u.X [7,0] (i*2+0))) (sv n)=some _:=Qh false true _ _;have ea:bin .add true true .int (I i) (.int .i64 1)=some (I (i+1:Nat)):=by rw[cz];have:((i:Nat):Int)+1=((i+1:Nat):Int):=aa;rw[this,wrap64 _ aa]
  have er:gx (λJ=>decide (di u.X [7,0] J=n)) 2 0 (N+1) i=if decide _=true then some i else gx (λJ=>decide _) 2 0 N _:=rfl;unfold zN;delta O jo T F E jn jd X je B N jb ja jm jf A ji jq;simp only[Xg,X7,X3,aQ,C,dx,Qb,Xf];rw[ah aa,er];simp only[q,U,es,X7,X3,Xf];by_cases R:di u.X [7,0] (i*2+0)=n
  ·rw[ah R,ah (bj R)];have V:=oN (sz:=2) hi;have z:bo 7 (i*2+1)=some (.l 8):=by rw[fd_row (r:=7) (sz:=2) rfl i 1 aa];rfl
   obtain⟨_,_,w,_,_⟩:=k.ps.list D rfl aa z;have w:X9 _ 1 _ m=some (ax _ _ 5):=w;have t:X9 _ 5 _ m=some (.agg ⟨dT p a b g e⟩):=k.fi (y:=0) br ar rfl;simp only[C,q,X7,w,t,X3];refine k.bO (cs:=dT p a b g e) rfl ak λb2 m2 d=>?_;have d:W c G j s o m2 j u ((b2,0,[Cl.v _,.v (u32 a),.v (I b),.v _,.v _].map Cl.raw)::_):=d;refine d.Fs aa D rfl aa z rfl rfl rfl (Xze p a b g e) ak (K:=λm=>some (.tuple ⟨[]⟩,m)) (λv' Z hg=>by simp only[xS d (f:=7) (r':=7) (sz:=2) rfl aa rfl (K:=(i*2+1)::[7,0]) (λe=>aq) hg,o6,fO,Xv,q,X3,X7]) λzb1 Z za2 h _ S=>?_
   exact S.kj h rfl λ_=>rfl
  ·rw[af R,af aq];simp only[ea,X3];exact Xok M' Q hn k N _ f aa aa
def XbQ(d)(h:o+1<=8589934592){g}(hn:n.length<=65536)(k:W c G j s o m j u ((be,0,dT p a b g e)::ts)) :
  aK c G j s (CC (aH d) (pt c.P 0 0) (sv n) (pt be 0 0) m) (QR o 1 (.tuple ⟨[]⟩) (mu u n [.v (.bool p),.v (u32 a),.v (I b),.v (.int .i64 g),.v (.int .i64 e)])):=by
 rw[Xzc];obtain⟨_,i,_,_,_⟩:=k.ps.dev (f:=7) (sz:=2) rfl aa rfl;delta CC Oj A;exact Xok _ h hn k _ 0 18446744073709551616 (aQ _) aa
def aK.qr(a:aK c G Q J x (QR o h v i5))(e:i5.cu=S'.cu)(f:S'.cu.er.isNone=true->i5=S'):aK c G Q J x (QR o h v S'):=by obtain⟨r,g,d,b,i,j,k,l,rfl,m,n,p⟩:=a;exact⟨_,g,d,b,i,j,k,l,rfl,m,n.trans e,λq=>(p aq).trans (f q)⟩
def Lz(s n cs):(mu s n cs).cu=s.cu:=by rw[Xzc];cases fq s.X [0] 7 2 0 n<;>rfl
def Xxz{c cu}(h:(Xa c cu).2.er.isNone=false):(Xa c cu).1=[]:=by
 unfold Xa at h|-;split at h
 ·rename_i a;unfold cH at a
  grind
 grind
def Le{c cu}(h:(bh c cu w).1=true):cu.er.isNone=true:=by
 cases q:cu.er.isNone with
 |true=>rfl
 |false=>rw[rA q]at h;cases h
def KP{c cu}(h:(bh c cu w).1=false):(bh c cu w).2=cu:=by
 unfold bh at h|-
 grind
def XaT(d)(e:o+1<=8589934592)(r:∀w∈c.ws,w.1≠[]){g l f x}(hn:n.length<=65536)(y:u.cu.er.isNone=true->p=pf/\g=f/\l=x)(k:W c G j s o m j u ((be,0,dT p a b g l)::ts)) :
  aK c G j s (CD (aH (d+5)) (pt c.C 0 0) (pt be 0 0) (pt c.P 0 0) (sv n) m) (QR o 1 (.tuple ⟨[]⟩) (mu (u.at (lQ c u.cu f x).2) n [.v (.bool pf),.v (u32 a),.v (I b),.v (.int .i64 f),.v (.int .i64 (lQ c u.cu f x).1)])):=by
 delta CD C F L jf A D;unfold lQ;refine k.cl (kT k.ps zx (d+3)) λH i=>?_;refine Xh (λh=>?_) (λh=>?_)
 ·rw[ah h];obtain⟨rfl,rfl,rfl⟩:=y (Le h);have ld:X9 _ 1 (pt be 3 0) H=some _:=i.ld br rfl;simp only[X7,X3,aQ,ld];refine i.cl (ky i.ps r g 32 32 rfl aa _) λK B=>?_;rw[bL]at B|-;have t:=λq=>j7 (c:=c) (cu:=(bh c u.cu zx).2) (lo:=g) (hi:=32) q;generalize eQ c _ g 32=z at *;refine B.aC (l1:=[]) (za6:=dT p a b g z) rfl rfl aW rfl λM E=>?_;refine(XbQ _ e hn E).qr bY λq=>?_;rw[Lz]at q;rw[t q];rfl
 ·rw[af aq];refine(XbQ _ e hn i).qr (by rw[Lz,Lz]) λq=>?_;rw[Lz]at q;rw[KP h]at q;obtain⟨rfl,rfl,rfl⟩:=y q;rfl
def XlW(d)(f:o+1<=8589934592)(e:∀w∈c.ws,w.1≠[])(hn:n.length<=65536)(r:u.cu.er.isNone=true->p=pf)(k:W c G j s o m j u ((be,0,dT p a b b b)::ts)) :
  aK c G j s (GO (aH (d+5)) (pt c.C 0 0) (pt be 0 0) (pt c.P 0 0) (sv n) m) (QR o 1 (.tuple ⟨[]⟩) (mu (u.at (lQ c (eA c u.cu b).2 (eA c u.cu b).1.1 (eA c u.cu b).1.2).2) n [.v (.bool pf),.v (u32 a),.v (I b),.v (.int .i64 (eA c u.cu b).1.1),.v (.int .i64 (lQ c (eA c u.cu b).2 (eA c u.cu b).1.1 (eA c u.cu b).1.2).1)])):=by
 delta GO C T F L jf A D;unfold eA;refine k.cl (kT k.ps _ (d+3)) λH h=>?_;refine Xh (λg=>?_) (λg=>?_)
 ·rw[ah g];have ld:X9 _ 1 (pt be 2 0) H=some _:=h.ld br rfl;simp only[X7,X3,aQ,ld];refine h.cl (ky h.ps e (b) 32 32 rfl aa _) λJ t=>?_;rw[bL]at t|-;have i:=λq=>j7 (c:=c) (cu:=(bh c u.cu zw).2) (lo:=(b)) (hi:=32) q;generalize eQ c _ b 32=z at *;refine t.aC (l1:=[]) (za6:=dT p a b z b) rfl rfl aW rfl λK B=>?_;refine B.aC (za6:=dT p a b z 32) rfl rfl aW rfl λM E=>?_;have:=XaT d f e hn (λq=>⟨r (Le g),i q,rfl⟩) E;trivial
 ·rw[af aq];have:=XaT d f e hn (λq=>⟨r (by rwa[bL,KP g]at q),rfl,rfl⟩) h;trivial
def XbX(d)(e:o+1<=8589934592)(f:∀w∈c.ws,w.1≠[])(hn:n.length<=65536)(i:u.cu.er.isNone=true->p=pf)(k:W c G j s o m j u ((be,0,dT p a b 0 0)::ts)) :
  aK c G j s (CE (aH (d+5)) (pt be 0 0) (pt c.C 0 0) (pt c.P 0 0) (sv n) m) (QR o 1 (.tuple ⟨[]⟩) (mu (u.at (lQ c (eA c u.cu b).2 (eA c u.cu b).1.1 (eA c u.cu b).1.2).2) n [.v (.bool pf),.v (u32 a),.v (I b),.v (.int .i64 (eA c u.cu b).1.1),.v (.int .i64 (lQ c (eA c u.cu b).2 (eA c u.cu b).1.1 (eA c u.cu b).1.2).1)])):=by
 delta CE Q9c T F jf;have ld:X9 _ 1 (pt be 2 0) m=some _:=k.ld br rfl;simp only[X7,X3,aQ,ld];refine k.aC (l1:=[]) (za6:=dT p a b b 0) rfl rfl aW rfl λq h=>?_;have ld:X9 _ 1 (pt be 2 0) q=some _:=h.ld br rfl;simp only[ld,X3];refine h.aC (za6:=dT p a b b b) rfl rfl aW rfl λr l=>?_;exact XlW d e f hn i l
def Xjs(h:PS c o m j s)(u:o+1<=8589934592)(x:∀w∈c.ws,w.1≠[])(d):mH c o 1 m j s (TA (d+6) N2 [pt c.P 0 0,pt c.C 0 0] m) (.tuple ⟨[]⟩)
  (mu (s.at (j9 c (bB c s.cu).2).2) (bB c s.cu).1 [.v (.bool (j9 c (bB c s.cu).2).1.1),.v (u32 (j9 c (bB c s.cu).2).1.2.1),.v (I (j9 c (bB c s.cu).2).1.2.2.1),.v (.int .i64 (j9 c (bB c s.cu).2).1.2.2.2.1),.v (.int .i64 (j9 c (bB c s.cu).2).1.2.2.2.2)]):=by
 refine h.tB (X4q _ _ _ _) λG k=>?_;have F:(bB c _).1.length<=65536:=fL k.ps;refine k.cl (nU k.ps (d+3)) λm1 k1=>?_;generalize bB c _=N at *;delta Ol C B Y U P D;refine k1.cl (mM k1.ps _ _ _ ak ak ak (d+3)) λm2 X=>?_;rw[bL]at X|-;rw[ux]at X;unfold j9;have i:=λq=>Bg (c:=c) (cu:=N.2) (a:=dq) (b:=dP) ak q;generalize aP c N.2 _=O at *;have e0:bin _ _ _ _ _ (.string ⟨#[112,101,114,109,105,116]⟩)=some _:=Qh true true (Xa c N.2).1 _;generalize decide ((Xa c N.2).1=dq)=p at e0 i;dsimp only;generalize decide (O.1=0)=K at i|-;have eb:Xc mI [(0,1),(1,2),(3,1),(4,1)] [(0,.bool p)]=some (uK p 0 0 0 0):=aU rfl rfl;simp only[e0,eb,X3];refine X.new λM m3 k3=>?_;refine k3.aC (l1:=[]) (za6:=dT p 0 0 0 0) rfl rfl aW rfl λm4 Z=>?_;delta Om C;have V:(Xa c O.2).1.length<=65536:=fL Z.ps;refine Z.cl (nV Z.ps (d+4)) λm5 H=>?_;rw[bL]at H|-;have hp:(Xa c O.2).2.er.isNone=true->1<=(Xa c O.2).2.pl:=λq=>nZ q;have hO:(Xa c O.2).2.er.isNone=true->O.2.er.isNone=true:=λq=>kG (λe=>sI e) q;have z:=λq=>Xxz (c:=c) (cu:=O.2) q;delta On jc B jk A;have lq:X9 _ 1 _ m5=some (I (Xa c O.2).2.e):=H.ps.lq;unfold YC;rcases H.ps.er with⟨n,g2⟩|⟨n,g2⟩
 ·have n:(Xa c O.2).2.e=0:=n;have Q:bin .eql true true .int (I (Xa c O.2).2.e) (.int .i64 0)=some (.bool true):=by rw[dI,n];rfl
  simp only[Xg,X7,X3,lq,Q];delta GI C L Y U jg;rw[X6];simp only[XqE _ (aO V ak) d m5,X4,Bv,dy,dK,X3];generalize hq:pj _=q at *;refine H.new λb2 m8 k8=>?_;refine k8.aC (l1:=[]) (za6:=[.int _ (q.1),.int _ (q.2.1)]) rfl rfl aW rfl λm9 k9=>?_;have e0:∀e:Nat,bin _ true true _ (I q.2.2) (.int _ (e))=some (.bool (decide (q.2.2=e))):=λe=>by rw[dI];congr 2;simp only[gW];omega
  have e1:bin _ _ _ _ _ (.int _ 0)=some _:=Xta q.2.2 0;have e2:bin _ _ _ _ _ (.int _ 10)=some _:=e0 10;have fin:∀S C,(C.er.isNone=true->p=K)->W c G j s o S j (s.at C) ((b2,0,[.int .u32 (q.1:Int),.int .i64 (q.2.1:Int)])::(M,0,dT p 0 0 0 0)::[]) ->
    aK c G j s (CA (aH (d+5)) (pt b2 0 0) (pt M 0 0) (pt c.C 0 0) (pt c.P 0 0) (sv N.1) S) (QR o 1 (.tuple ⟨[]⟩) (mu (s.at (lQ c (eA c C q.2.1).2 (eA c C q.2.1).1.1 (eA c C q.2.1).1.2).2) N.1 [.v (.bool K),.v (u32 q.1),.v (I q.2.1),.v (.int .i64 (eA c C q.2.1).1.1),.v (.int .i64 (lQ c (eA c C q.2.1).2 (eA c C q.2.1).1.1 (eA c C q.2.1).1.2).1)])):=λS C hC k'=>by
   delta CA T jd Y;have lp:X9 _ 2 _ S=some (dL _ _):=k'.fi (y:=0) br ar rfl;simp only[lp,X3,X7,aQ];refine k'.aC (l1:=[_]) (za6:=dT p q.1 _ 0 0) rfl rfl aW rfl λl f=>?_;have f:W c G j s o l j _ [(M,0,dT p q.1 q.2.1 0 0)]:=f.sub ar;have t:=XbX d u x F hC f;assumption
  delta ZS C E jk A;simp only[e1,e2,X3];refine Xh (λr=>?_) (λr=>?_)
  ·have r:=aT r;rw[af aa,ah r];exact k9.cl (kS k9.ps hp 10 ak _) λl f=>fin l _ (λe=>by rw[fY]at e;cases e) f
  ·refine Xh (λg=>?_) (λg=>?_)
   ·have g:=aT g;rw[af g,af (aV r)];exact k9.cl (kS k9.ps hp 130 ak _) λl f=>fin l _ (λe=>by rw[fY]at e;cases e) f
   ·have g:=aV g;rw[ah aa];exact fin m9 _ (λe=>i (hO e)) k9
 ·have n:(Xa c O.2).2.e≠0:=n;have g2:(Xa c O.2).2.er.isNone=false:=g2;have Q:bin .eql true true .int (I (Xa c O.2).2.e) (.int .i64 0)=some (.bool false):=by rw[dI,bJ n]
  simp only[Xg,X7,X3,lq,Q];delta GI C L Y U jg;rw[X5,z g2];have ep:pj []=(0,0,4):=rfl;rw[ep,af ak,af ak,jW g2];have t:=XbX d u x F (pf:=K) (λe=>by rw[bL]at e;rw[g2]at e;cases e) H;assumption
variable [gF c]
def kt7:kt [7,0]=some 7:=rfl
def FF:kt [8,0]=some 9:=rfl
abbrev fM(v:ai)(a:Nat)(k:Nat)(h:Nat)(d:Bool)(e t:Int):List ae:=[sv v,u32 a,I k,u32 h,.bool d,.int .i64 e,.int .i64 t]
theorem Xzs(p:o+2<=8589934592)(q:w.length<=65536)(h:W c G j s o m j u ((b,0,fM w a k g dc e t)::ts))(d) :
  aK c G j s (Jx (d7 d) (pt c.P 0 0) (pt b 0 0) m) (gG o (c.ws.length+3) (.tuple ⟨[]⟩) (u.app [0] 6 ((fM w a k g dc e t).map .v))):=by
 delta Jx jd jc Z jm jq;obtain⟨_,_,z,_,_⟩:=h.ps.dev (f:=6) (sz:=7) rfl aa rfl;have ld:X9 _ 7 _ m=some (.agg ⟨fM w a k g dc e t⟩):=h.fi (y:=0) br ar rfl;simp only[Xg,X7,X3,aQ,z,ld];refine h.bO (cs:=fM w a k g dc e t) rfl ak λl x i=>?_;have i:W c G j s o x j u ((l,0,((fM w a k g dc e t).map Cl.v).map Cl.raw)::_):=i;refine i.ml aa (y:=6) aa rfl rfl rfl rfl (dJ (And.intro (eJ (aO q ak)) (And.intro (bR _ _) (And.intro (bR _ _) (And.intro (bR _ _) (And.intro (fV _) (And.intro (bR _ _) (And.intro (bR _ _) trivial)))))))) ak λA C B n _ r=>?_;exact r.iM aa
def za(c:Cx)(s:ao)(w:ai)(a k g:Nat)(dc:Bool)(e:Int):ao:=
 let g8:=bh c s.cu lX;let n:=Xb c g8.2 0 16777216
 if g8.1=true then(s.at n.2).app [0] 6 ((fM w a k g dc e n.1).map .v)else(s.at g8.2).app [0] 6 ((fM w a k g dc e 0).map .v)
def Xzy(f:o+2<=8589934592)(n:w.length<=65536)(h:W c G j s o m j u ((b,0,fM w a k g dc e 0)::ts))(d) :
  aK c G j s (Jy (d7 d) (pt c.C 0 0) (pt b 0 0) (pt c.P 0 0) m) (gG o (c.ws.length+3) (.tuple ⟨[]⟩) (za c u w a k g dc e)):=by
 delta Jy C L jf A D;unfold za
 try dsimp only
 refine h.cl (kF h.ps _ _) λt i=>?_;refine Xh (λl=>?_) (λl=>?_)
 ·rw[ah l];refine i.cl (kz i.ps 0 _ 16777216 rfl aa _) λv p=>?_;refine p.aC (l1:=[]) (za6:=fM w a k g dc e (Xb c (bh c _ _).2 0 _).1) rfl rfl aW rfl λx q=>?_;exact Xzs f n q d
 ·rw[af aq];exact Xzs f n i d
def yZ(c:Cx)(s:ao)(w:ai)(a k g:Nat)(dc:Bool):ao:=
 let x:=bh c s.cu se;let n:=Xb c x.2 1 255
 if x.1=true then za c (s.at n.2) w a k g dc n.1 else za c (s.at x.2) w a k g dc 1
def Xuu(e:o+2<=8589934592)(l:w.length<=65536)(h:W c G j s o m j u ((b,0,fM w a k g dc 1 0)::ts))(d) :
  aK c G j s (Jz (d7 d) (pt c.C 0 0) (pt b 0 0) (pt c.P 0 0) m) (gG o (c.ws.length+3) (.tuple ⟨[]⟩) (yZ c u w a k g dc)):=by
 delta Jz C L jf A D;unfold yZ
 try dsimp only
 refine h.cl (kF h.ps _ _) λr f=>?_;refine Xh (λi=>?_) (λi=>?_)
 ·rw[ah i];refine f.cl (kz f.ps 1 255 255 rfl aa _) λt n=>?_;refine n.aC (l1:=[]) (za6:=fM w a k g dc (Xb c (bh c _ _).2 1 255).1 0) rfl rfl aW rfl λv p=>?_;exact Xzy e l p d
 ·rw[af aq];exact Xzy e l f d
def B6(c:Cx)(s:ao)(w:ai)(a k:Nat):ao:=
 let x:=bh c s.cu Gd;let h:=ll c x.2
 if x.1=true then yZ c (s.at x.2) w a k 0 true else yZ c (s.at h.2) w a k h.1 false
def XlS(f:o+2<=8589934592)(l:w.length<=65536)(h:W c G j s o m j u ((b,0,fM w a k 0 false 1 0)::ts))(d) :
  aK c G j s (Tq (d7 d) (pt c.C 0 0) (pt b 0 0) (pt c.P 0 0) m) (gG o (c.ws.length+3) (.tuple ⟨[]⟩) (B6 c u w a k)):=by
 delta Tq C F E jf D;unfold B6
 try dsimp only
 refine h.cl (kF h.ps _ _) λt n=>?_;generalize bh c _ _=X at n|-
 try simp only[X7,X3,aQ]
 refine n.aC (l1:=[]) (za6:=fM w a k 0 X.1 1 0) rfl rfl aW rfl λr e=>?_;have ld:X9 _ 1 (pt b 4 0) r=some _:=e.ld br rfl;simp only[ld,X3,re];cases i:X.1 with
 |true =>rw[i]at e;exact Xuu f l e d
 |false =>simp only[pJ,X6];rw[i]at e;refine e.cl (XaI e.ps _) λv p=>?_;refine p.aC (za6:=fM w a k _ _ 1 0) rfl rfl aW rfl λx q=>?_;exact Xuu f l q d
def Xlf(c s):og c s=(let v:=dG c s.cu
  let a:=Xy c v.2;let k:=c8 c a.2 false
  B6 c (s.at (iX c k.2 a.1 k.1)) v.1 a.1 k.1):=by
 unfold og B6 yZ za
 try dsimp only
 generalize dG c _=V;generalize Xy c V.2=A;generalize c8 c A.2 _=M;rw[bL];generalize bh c (iX c M.2 A.1 M.1) _=X;by_cases e:X.1=true
 ·by_cases d:(bh c X.2 se).1=true
  ·by_cases b:(bh c (Xb c (bh c X.2 se).2 1 255).2 lX).1=true
   ·simp only[e,d,b,↓reduceIte,bL];rfl
   ·simp only[e,d,b,↓reduceIte,bL,dp];rfl
  ·by_cases b:(bh c (bh c X.2 se).2 lX).1=true
   ·simp only[e,d,b,↓reduceIte,bL,dp];rfl
   ·simp only[e,d,b,↓reduceIte,bL,dp];rfl
 ·by_cases d:(bh c (ll c X.2).2 se).1=true
  ·by_cases b:(bh c (Xb c (bh c (ll c X.2).2 se).2 1 255).2 lX).1=true
   ·simp only[e,d,b,↓reduceIte,bL,dp];rfl
   ·simp only[e,d,b,↓reduceIte,bL,dp];rfl
  ·by_cases b:(bh c (bh c (ll c X.2).2 se).2 lX).1=true
   ·simp only[e,d,b,↓reduceIte,bL,dp];rfl
   ·simp only[e,d,b,↓reduceIte,bL,dp];rfl
theorem XbK{A' i7 g}(h:W c G j s A' m i7 u ((be,0,dT pm a k g e)::ts))(A:A'<=o+1)(C:o+c.ws.length+3<=8589934592)(hi:i<au u.X [0] 7)(d) :
  aK c G j s (Jr (d7 d) (pt c.P 0 0) (I i) (pt be 0 0) m) (gG o (c.ws.length+3) (.tuple ⟨[]⟩) (u.app [7,0] (i*2+1) [.v (.bool pm),.v (u32 a),.v (I k),.v (.int .i64 g),.v (.int .i64 e)])):=by
 delta Jr O jo F jn jd X je jc jb jm jf jq;obtain⟨_,T,L,_,M⟩:=h.ps.dev (f:=7) (sz:=2) rfl aa rfl;obtain⟨S,t,R,x⟩:=M aa;have hf:bo 7 (i*2+1)=some (.l 8):=by rw[fd_row (r:=7) (sz:=2) rfl i 1 aa];rfl
 have ⟨_,_,q,_,_⟩:=h.ps.list t kt7 aa hf;have b:Xd 2 _ (I i)=some _:=eU _ x _ 2 i _ hi;have p:X9 _ 5 _ m=some (.agg ⟨dT pm a k g e⟩):=h.fi (y:=0) br ar rfl;simp only[Xg,X7,X3,aQ,L,b,q,p];refine h.bO (cs:=dT pm a k g e) rfl ak λz H n=>?_;have n:W c G j s _ H i7 u ((z,0,[Cl.v _,.v (u32 a),.v (I k),.v _,.v _].map Cl.raw)::_):=n;refine n.Fs aa t kt7 aa hf rfl rfl rfl (dJ (And.intro (fV _) (And.intro (bR _ _) (And.intro (bR _ _) (And.intro (bR _ _) (And.intro (bR _ _) trivial)))))) ak (K:=λm=>some (.tuple ⟨[]⟩,m)) (λV J D=>by simp only[xS n (f:=7) (r':=7) (sz:=2) rfl aa rfl (K:=(i*2+1)::[7,0]) (λe=>aq) D,o6,fO,Xv,b,X3,X7]) λQ J N B _ E=>?_
 exact E.iM aa
theorem XdJ{A' i7 bm n}(h:W c G j s A' m i7 u ((bm,0,[.bool pm,ax L n 1])::(L.b,L.ver,zb8.map u32)::ts))(k:L.r<2)(hn:zb8.length=n)(p:n≠0)(H:n<=c.ws.length+1)(B:A'<=o+1)(D:o+c.ws.length+3<=8589934592)(hi:i<au u.X [0] 8)(d) :
  aK c G j s (Js (d7 d) (pt c.P 0 0) (I i) (pt bm 0 0) m) (gG o (c.ws.length+3) (.tuple ⟨[]⟩) (u.nl [8,0] (i*2+1) [.v (.bool pm)] (zb8.map u32))):=by
 delta Js O jo F jn jd X je jc jb jm jf jq;obtain⟨_,Z,Q,_,R⟩:=h.ps.dev (f:=8) (sz:=2) rfl aa rfl;obtain⟨Y,w,U,z⟩:=R aa;have hf:bo 9 (i*2+1)=some (.l 10):=by rw[fd_row (r:=9) (sz:=2) rfl i 1 aa];rfl
 have ⟨_,_,t,_,_⟩:=h.ps.list w FF aa hf;have a:Xd 2 _ (I i)=some _:=eU _ z _ 2 i _ hi;have q:X9 _ 2 _ m=some (.agg ⟨[.bool pm,ax L n 1]⟩):=h.fi (y:=0) br ar rfl;simp only[Xg,X7,X3,aQ,Q,a,t,q];refine h.bO (cs:=[.bool pm,ax L n 1]) bY ak λA M g=>?_;have g:W c G j s _ M i7 u ((A,0,[.bool pm]++[ax L n 1])::(L.b,L.ver,zb8.map u32)::ts):=g.sub (List.Sublist.cons_cons _ (List.Sublist.cons _ (M9 _)));refine g.apo k aq p (λv V=>by grind) aa w FF ak aa hf rfl rfl rfl (dJ (And.intro (fV _) (And.intro (jM 11 0) trivial))) rfl ak (K:=λm=>some (.tuple ⟨[]⟩,m)) (λv' N E=>by simp only[xS g (f:=8) (r':=9) (sz:=2) rfl aa rfl (K:=(i*2+1)::[8,0]) (λe=>aq) E,o6,fO,Xv,a,X3,X7]) λT N S C J=>?_
 exact J.iM aa
theorem Xp9(h:PS c o m j s)(hf:bo 0 f=some (.l r'))(d:f<18)(cs)(g:cs.length=aN r'):au s.X [0] f<au (s.app [0] f cs).X [0] f:=by
 obtain⟨l,a,b⟩:=h.wt.root;obtain⟨i,_⟩:=h.list a rfl aa hf;show _<au (bg s.X [0] f cs) [0] f;rw[pa a i _ g];have e:au ((s.X.set [f,0] (some (.c (bz s.X [f,0]++cs)))).set [0] (some (.c (l.set f (.s (au s.X [0] f+1) (aN r')))))) [0] f=au s.X [0] f+1:=by
  show(match cl _ [0] f with|.s n _=>n|_=>0)=_
  rw[lI,du,ah rfl,ah aa];rfl
 grind
def XmV(h:PS c o m j s)(S:o+c.ws.length+3<=8589934592)(d):eM c o (c.ws.length+3) m j s (TA (d+8) Sf [pt c.P 0 0,pt c.C 0 0] m) (.tuple ⟨[]⟩) (rK c s):=by
 refine h.pad (Xcz _ _ _ _) λG k=>?_;delta Jn je
 try simp only[Xg,X7,X3,aQ]
 delta Qti C;refine k.cl (mO k.ps (d+5)) λm1 q=>?_;delta Qtj B P D;unfold rK
 try dsimp only
 generalize s.at _=s1 at q|-
 try simp only[fC,Qh,X3]
 delta Qtk C L B Y U A P D;refine Xh (λl=>?_) (λl=>?_)
 ·rw[ah (aT l),Xlf]
  try dsimp only
  have hv:=Bp q.ps;refine q.cl (XU q.ps _) λm2 t=>?_;generalize dG c _=V at t hv|-;have z:Xc sr [(0,1),(1,2),(3,1),(4,1),(5,1),(6,1)] [(0,sv V.1),(4,.int _ 1)]=some (.agg ⟨fM V.1 0 0 0 _ 1 0⟩):=aU rfl rfl;simp only[z,X3];refine t.new λb m3 u=>?_;refine u.aC (l1:=[]) (za6:=fM V.1 0 0 0 _ 1 0) rfl rfl aW rfl λm4 x=>?_;delta Qtl C;have ha:=uo c V.2;refine x.cl (qZ x.ps (d+2)) λm5 n=>?_
  try rw[bL]at n|-
  generalize Xy c V.2=A at n ha|-;delta Qtm C T Y jj;refine n.cl (Ls n.ps _ (d+1)) λm6 e=>?_
  try rw[bL]at e|-
  generalize c8 c A.2 _=M at e|-;refine e.cl (W7 e.ps A.1 ha (M.1) (d+4)) λm7 g=>?_;refine g.aC (za6:=fM V.1 A.1 M.1 0 _ 1 0) rfl rfl aW rfl λm8 R=>?_;exact XlS aa hv R d
 rw[af (aV l)]
 try simp only[fC,Qh,X3]
 delta Qtn H C L jc B Z jr jm P D jq;refine Xh (λl=>?_) (λl=>?_)
 ·rw[ah (aT l)];have a:=j6 q.ps;refine q.cl (nY q.ps (d+2)) λm2 t=>?_;generalize bB c _=N at t a|-;refine t.bO (cs:=[jC,N.1].map sv) rfl ak λb2 m3 u=>?_;refine u.cs (EH u.ps (ws:=[jC,N.1]) (u.iE br) ar (λw hw=>by
   grind) ni ak (d+5)) λm4 x=>?_
  obtain⟨_,_,q3,_,_⟩:=x.ps.dev (f:=4) (sz:=2) rfl aa rfl;have z:Xc vy [(0,1),(1,1)] [(0,sv N.1)]=some _:=aU rfl rfl;simp only[Xg,X7,X3,aQ,q3,z];refine x.bO (cs:=[sv N.1,.slice _ 0 0]) rfl ak λb3 m5 n=>?_;have n:W c G j s o m5 j _ ((b3,0,[Cl.v (sv N.1),.s 0 10].map Cl.raw)::_):=n;refine n.ml aa (y:=4) aa rfl rfl rfl rfl (dJ (And.intro (eJ (aO a ak)) (And.intro (jM _ _) trivial))) ak λA' m6 i7 F _ e=>?_;exact e.iM aa
 rw[af (aV l)]
 try simp only[fC,Qh,X3]
 delta Qs4 C L B Y U P D;refine Xh (λl=>?_) (λl=>?_)
 ·rw[ah (aT l)];have a:=j6 q.ps;refine q.cl (nY q.ps (d+2)) λm2 t=>?_;generalize bB c _=N at t a|-;refine t.new λbn m3 u=>?_;refine u.aC (l1:=[]) (za6:=[sv N.1]) rfl rfl aW rfl λm4 x=>?_;delta Qs5 C Y U;refine x.cl (Xxm x.ps d) λm5 n=>?_
  try rw[bL]at n|-
  generalize j9 c N.2=E at n|-;refine n.new λbe m6 e=>?_;refine e.aC (l1:=[]) (za6:=dT _ _ _ _ _) rfl rfl aW rfl λm7 g=>?_;delta Qs6 C jc;have hx:((s1.at N.2).at E.2).X=s1.X:=rfl;generalize hS:(s1.at N.2).at E.2=J at g hx;have a1:s1.at E.2=J:=by rw[<-hS];rfl
  rw[a1];obtain⟨⟨lr,a4,a8⟩,q2,q3,_,q5⟩:=g.ps.dev (f:=7) (sz:=2) rfl aa rfl;have a2:=(g.lt (bn,0,[sv N.1]) ar).2;have a3:=g.at' (bn,0,[sv N.1]) ar;have ix:=XpM g.ps aa a4 rfl aa rfl N.1 a2 a3 (d+5);simp only[Xg,X7,X3,q3,ix,X4];delta Qs7 E X jc B N Z jm A;unfold rowOf;simp only[yC,X3];have hi:∀K,fq J.X [0] 7 2 0 N.1=some K->K<au J.X [0] 7:=λK hj=>by have:=vI _ _ _ _ _ _ hj;omega
  generalize fq J.X [0] 7 2 0 N.1=i at hi|-;cases i with
  |some K =>exact XbK g zv S (hi K rfl) d
  |none =>simp only[F8,X6];have a6:X9 _ 1 (pt bn 0 0) m7=some _:=g.ld (cs:=[sv N.1]) ar rfl;have z:Xc vu [(0,1),(1,1)] [(0,sv N.1)]=some _:=aU rfl rfl;simp only[q3,dx,X3,Xg,X7,aQ,a6,z];refine g.bO (cs:=[sv N.1,.slice _ 0 0]) rfl ak λb2 m8 R=>?_;have R:W c G j s o m8 j J ((b2,0,[Cl.v (sv N.1),.s 0 5].map Cl.raw)::_):=R;refine R.ml aa (y:=7) aa rfl rfl rfl rfl (dJ (And.intro (eJ (aO a ak)) (And.intro (jM _ _) trivial))) ak λA' m9 i7 F _ k9=>?_;exact XbK k9 F S (Xp9 g.ps rfl aa _ rfl) d
 rw[af (aV l)]
 try simp only[fC,Qh,X3]
 delta Qs8 H C L E jd jc B Y Z U jr jk jm jf A P D jp jq;refine Xh (λl=>?_) (λl=>?_)
 ·rw[ah (aT l)];have a:=j6 q.ps;refine q.cl (nY q.ps (d+2)) λm2 t=>?_;generalize bB c _=N at t a|-;refine t.new λbn m3 u=>?_;refine u.aC (l1:=[]) (za6:=[sv N.1]) rfl rfl aW rfl λm4 x=>?_;delta Qs9 H C B Y U jr jk A D;refine x.bO (cs:=[dq,dP].map sv) rfl ak λbs m5 n=>?_;refine n.cl (qj n.ps (n.iE (ws:=[dq,dP]) br) ar (d+4)) λm6 e=>?_
  try rw[bL]at e|-
  generalize aP c N.2 _=O at e|-;have e:=e.tl;have e0:bin _ _ _ _ _ (.int _ 0)=some _:=nW O.1 0;simp only[e0,X3];generalize decide (O.1=0)=pm;have ⟨L,m7,e7,g,a7⟩:=Xpu e.ps (d+3);have e7:TA (d+7) _ _ m6=some (ax L (cM c _ O.2).1.length 1,m7):=e7;have g:W c G j s o m7 j (((s1.at N.2).at O.2).at (cM c _ O.2).2) [(L.b,L.ver,(cM c _ O.2).1.map u32),(bn,0,[sv N.1])]:=e.join g;have I:=Et c (c.ws.length+1) O.2;have a0:=Ez c c.ws.length O.2;rw[e7,X4];generalize cM c _ O.2=M at g I a0|-;have a9:ax L _ 1=.slice _ _ _:=af a0;have z:Xc ss [(0,1),(1,1)] [(0,.bool pm),(1,ax L M.1.length 1)]=some (.agg ⟨[.bool pm,ax L M.1.length 1]⟩):=by rw[a9];exact aU rfl rfl
  simp only[z,X3];refine g.new λbm m8 R=>?_;refine R.aC (l1:=[]) (za6:=[.bool pm,ax L _ 1]) rfl (by rw[a9];rfl) aW rfl λm9 k9=>?_;delta Qsa C jc;generalize hS:((s1.at N.2).at O.2).at M.2=J at k9;have a1:s1.at M.2=J:=by rw[<-hS];rfl
  rw[a1];obtain⟨⟨lr,a4,a8⟩,q2,q3,_,q5⟩:=k9.ps.dev (f:=8) (sz:=2) rfl aa rfl;have ix:=XpK k9.ps aa a4 rfl aa rfl N.1 ((k9.lt (bn,0,[sv N.1]) ar).2) (k9.at' (bn,0,[sv N.1]) ar) (d+5);simp only[Xg,X7,X3,q3,ix,X4];delta Qsb E X jc B N Z jm A;unfold rowOf;simp only[yC,X3];have hi:∀K,fq J.X [0] 8 2 0 N.1=some K->K<au J.X [0] 8:=λK hj=>by have:=vI _ _ _ _ _ _ hj;omega
  generalize fq J.X [0] 8 2 0 N.1=i at hi|-;cases i with
  |some K =>exact XdJ k9 a7 rfl a0 I zv S (hi K rfl) d
  |none =>simp only[F8,X6];have a6:X9 _ 1 (pt bn 0 0) m9=some _:=k9.ld (cs:=[sv N.1]) ar rfl;have z:Xc tZ [(0,1),(1,1)] [(0,sv N.1)]=some _:=aU rfl rfl;simp only[q3,dx,X3,Xg,X7,aQ,a6,z];refine k9.bO (cs:=[sv N.1,.slice _ 0 0]) rfl ak λb2 ab r=>?_;have r:W c G j s o ab j J ((b2,0,[Cl.v (sv N.1),.s 0 2].map Cl.raw)::_):=r;refine r.ml aa (y:=8) aa rfl rfl rfl rfl (dJ (And.intro (eJ (aO a ak)) (And.intro (jM _ _) trivial))) ak λA' ac i7 F _ Q=>?_;exact XdJ Q a7 rfl a0 I F S (Xp9 k9.ps rfl aa _ rfl) d
 rw[af (aV l)]
 try simp only[fC,Qh,X3]
 refine Xh (λl=>?_) (λl=>?_)
 ·rw[ah (aT l)];refine q.bO (cs:=[zz,tP].map sv) rfl ak λbs m2 t=>?_;refine t.cl (qj t.ps (t.iE (ws:=[zz,tP]) br) ar _) λm3 u=>?_;generalize aP c _ _=O at u|-;have e0:bin _ _ _ _ _ (.int _ 1)=some _:=nW O.1 1;generalize decide (O.1=1)=ds at e0|-;have z:Xc vx [(0,1),(1,1),(2,1)] [(0,.bool ds)]=some (.agg ⟨[.bool ds,sv [],u32 0]⟩):=aU rfl rfl;simp only[e0,z,X3];refine u.new λb m4 x=>?_;refine x.aC (l1:=[]) (za6:=[.bool ds,sv [],u32 0]) rfl rfl aW rfl λm5 n=>?_;refine n.cl (Xtp n.ps _ _) λm6 e=>?_;have e1:(s1.at O.2).cu=O.2:=rfl
  try rw[e1]at e
  have a:=j6 e.ps;rw[bL]at a;refine e.cl (nY e.ps _) λm7 g=>?_
  try rw[bL]at g|-
  generalize bB c _=N at g a|-
  try simp only[X7,X3,aQ]
  refine g.aC (za6:=[.bool ds,sv N.1,u32 0]) rfl rfl aW rfl λm8 R=>?_;refine R.cl (Xtp R.ps _ _) λm9 k9=>?_;have e2:(((s1.at O.2).at (lN c O.2 jC)).at N.2).cu=N.2:=rfl
  try rw[e2]at k9
  refine k9.cl (qZ k9.ps _) λab r=>?_
  try rw[bL]at r|-
  generalize Xy c _=A at r|-;refine r.aC (za6:=[.bool ds,sv N.1,u32 A.1]) rfl rfl aW rfl λac Q=>?_;obtain⟨_,_,q3,_,_⟩:=Q.ps.dev (f:=5) (sz:=3) rfl aa rfl;have ld:X9 _ 3 _ ac=some (.agg ⟨[.bool ds,sv N.1,u32 A.1]⟩):=Q.fi (y:=0) br ar rfl;simp only[Xg,X7,X3,aQ,q3,ld];refine Q.bO (cs:=[.bool ds,sv N.1,u32 A.1]) rfl ak λb2 al a5=>?_;have a5:W c G j s o al j _ ((b2,0,[Cl.v _,.v (sv N.1),.v (u32 A.1)].map Cl.raw)::_):=a5;refine a5.ml aa (y:=5) aa rfl rfl rfl rfl (dJ (And.intro (fV _) (And.intro (eJ (aO a ak)) (And.intro (bR _ _) trivial)))) ak λA' am i7 F _ ag=>?_;exact ag.iM aa
 ·rw[af (aV l)];exact(q.BK 130 ak _ rfl).pd
variable {c:Cx}{G m:Mem}{Q j i7:ay}{J s u i5 S':ao}{o V' A' h Z':Nat}{ts:List Tmp}{x:Option Rs}{i8:Value->Nat->ay->ao->Prop}{v:Value}{cu:Cu}
def XaZ(d)(p:o+1<=8589934592)(q:w.length<=65536)(h:W c G j s o m j u ((b,0,fM w a k g dc e t)::ts)) :
  aK c G j s (C8 (aH d) (pt c.P 0 0) (pt b 0 0) m) (QR o 1 (.tuple ⟨[]⟩) (u.app [0] 6 ((fM w a k g dc e t).map .v))):=by
 delta C8 F jd je jm jf jq;obtain⟨_,_,z,_,_⟩:=h.ps.dev (f:=6) (sz:=7) rfl aa rfl;have ld:X9 _ 7 _ m=some (.agg ⟨fM w a k g dc e t⟩):=h.fi (y:=0) br ar rfl;simp only[Xg,X7,X3,aQ,z,ld];refine h.bO (cs:=fM w a k g dc e t) rfl ak λn x l=>?_;have l:W c G j s o x j u ((n,0,((fM w a k g dc e t).map Cl.v).map Cl.raw)::_):=l;refine l.ml aa (y:=6) aa rfl rfl rfl rfl (dJ (And.intro (eJ (aO q ak)) (And.intro (bR _ _) (And.intro (bR _ _) (And.intro (bR _ _) (And.intro (fV _) (And.intro (bR _ _) (And.intro (bR _ _) trivial)))))))) ak λA C B i _ r=>?_;exact r.kj i rfl λ_=>rfl
def XcB(d)(f:o+1<=8589934592)(l:∀w∈c.ws,w.1≠[]){ef}(r:w.length<=65536)(v:u.cu.er.isNone=true->k=kf/\e=ef)(h:W c G j s o m j u ((b,0,fM w a k g dc e 0)::ts)) :
  aK c G j s (C9 (aH (d+5)) (pt c.C 0 0) (pt b 0 0) (pt c.P 0 0) m) (QR o 1 (.tuple ⟨[]⟩) (za c u w a kf g dc ef)):=by
 delta C9 C L jf A D;unfold za;dsimp only;refine h.cl (kT h.ps lX (d+3)) λB p=>?_;refine Xh (λi=>?_) (λi=>?_)
 ·rw[ah i];obtain⟨rfl,rfl⟩:=v (Le i);refine p.cl (ky p.ps l 0 _ 16777216 rfl aa _) λE t=>?_;rw[bL]at t|-;have n:=λq=>j7 (c:=c) (cu:=(bh c u.cu lX).2) (lo:=0) (hi:=16777216) q;generalize eQ c _ 0 _=z at *;generalize Xb c _ 0 _=N at *;simp only[X7,X3,aQ];refine t.aC (l1:=[]) (za6:=fM w a k g dc e z) rfl rfl aW rfl λF x=>?_;refine(XaZ _ f r x).qr rfl λq=>?_;have q:N.2.er.isNone=true:=q;rw[n q];rfl
 ·rw[af aq];refine(XaZ _ f r p).qr rfl λq=>?_;have q:(bh c _ _).2.er.isNone=true:=q;rw[KP i]at q
  grind
def XbR(d)(f:o+1<=8589934592)(e:∀w∈c.ws,w.1≠[])(r:w.length<=65536)(p:u.cu.er.isNone=true->k=kf)(h:W c G j s o m j u ((b,0,fM w a k g dc 1 0)::ts)) :
  aK c G j s (Da (aH (d+5)) (pt c.C 0 0) (pt b 0 0) (pt c.P 0 0) m) (QR o 1 (.tuple ⟨[]⟩) (yZ c u w a kf g dc)):=by
 delta Da C L jf A D;unfold yZ;dsimp only;refine h.cl (kT h.ps _ _) λB n=>?_;refine Xh (λi=>?_) (λi=>?_)
 ·rw[ah i];refine n.cl (ky n.ps e 1 255 255 rfl aa _) λE t=>?_;rw[bL]at t|-;have l:=λq=>j7 (c:=c) (cu:=(bh c u.cu se).2) (lo:=1) (hi:=255) q;generalize eQ c _ 1 255=z at *;generalize Xb c _ 1 255=N at *;simp only[X7,X3,aQ];refine t.aC (l1:=[]) (za6:=fM w a k g dc z 0) rfl rfl aW rfl λF x=>?_;exact XcB d f e r (λq=>⟨p (Le i),l q⟩) x
 ·rw[af aq];exact XcB d f e r (λq=>⟨p (by rwa[bL,KP i]at q),rfl⟩) n
def XnL(d)(i:o+1<=8589934592)(l:∀w∈c.ws,w.1≠[])(t:w.length<=65536)(p:u.cu.er.isNone=true->k=kf)(h:W c G j s o m j u ((b,0,fM w a k 0 false 1 0)::ts)) :
  aK c G j s (HD (aH (d+5)) (pt c.C 0 0) (pt b 0 0) (pt c.P 0 0) m) (QR o 1 (.tuple ⟨[]⟩) (B6 c u w a kf)):=by
 delta HD C jf D;unfold B6;dsimp only;refine h.cl (kT h.ps _ _) λB y=>?_;have r:(bh c _ Gd).2.er.isNone=true->u.cu.er.isNone=true:=λq=>kG (λe=>by rw[rA e]) q;generalize bh c _ _=X at *;simp only[X7,X3,aQ];refine y.aC (l1:=[]) (za6:=fM w a k 0 X.1 1 0) rfl rfl aW rfl λA f=>?_;have ld:X9 _ 1 (pt b 4 0) A=some _:=f.ld br rfl;delta Pv C F E jf;simp only[X7,X3,aQ,ld,re];cases g:X.1 with
 |true =>rw[ah rfl];simp only[iQ,X5];rw[g]at f;exact XbR d i l t (λq=>p (r q)) f
 |false =>rw[af ak];simp only[pJ,X6];rw[g]at f;refine f.cl (Xst f.ps _) λI v=>?_;rw[bL]at v|-;have x:(ll c X.2).2.er.isNone=true->X.2.er.isNone=true:=λq=>kG (λe=>XkI e) q;generalize ll c X.2=H at *;refine v.aC (za6:=fM w a k H.1 _ 1 0) rfl rfl aW rfl λJ z=>?_;exact XbR d i l t (λq=>p (r (x q))) z
structure pZ (s:ao):Prop where
 host:(lD:ai)∈s.rs.bM↔Xr [32] [lD]∈aS s.X
 qF:∀n,fZ n=true->(Gi++n∈s.rs.bM↔Xr [32] [jB,n]∈aS s.X)
 iface:∀n,fZ n=true->(Gk++n∈s.rs.bM↔Xr [32] [mR,n]∈aS s.X)
 rI:∀n,fZ n=true->(Gl++n∈s.rs.bM↔Xr [32] [od,n]∈aS s.X)
 rO:∀n q,fZ n=true->q<=65535->(sj++n++[32]++decDigits q∈s.rs.bM↔Xr [32] [dj,n,bN q]∈aS s.X)
 iY:∀n,n=[]\/fZ n=true->(Gm++n∈s.rs.bM↔Xr [32] [lW,oq,n]∈aS s.X)
 iW:∀n,n=[]\/fZ n=true->(wU++n∈s.rs.bM↔Xr [32] [lW,iZ,n]∈aS s.X)
def W.XdX[r:cG c](a:o<=8589934592){key ws}(d)(h:W c G Q J o m j u ts)(l:u.cu.er.isNone=true->(key∈u.rs.bM↔Xr [32] ws∈aS u.X)){K:aj->Option Rs}
  (g:∀A' m1 i7 b,A'<=o+1->W c G Q J A' m1 i7 b ts->b.cu=u.cu->(u.cu.er.isNone=true->b=iA (Xz u ws) key)->aK c G Q J (K m1) i8) :
  aK c G Q J (bp (TA (d+1) tT [pt c.P 0 0,sv key] m) λ_ m=>K m) i8:=by
 cases q:u.cu.er.isNone with
 |true =>obtain⟨p,m1,A',i7,b,e,f,i,rfl,k,rfl⟩:=Xxn h.ps a key ws (l q) d;rw[e,X4];exact g _ m1 i7 _ k (h.go f i) rfl λ_=>rfl
 |false =>obtain⟨p,m1,A',i7,b,e,f,i,rfl,k,rfl⟩:=Wb h.ps a key d;rw[e,X4];exact g _ m1 i7 _ k (h.go f i) (ye _ _) λn=>by rw[q]at n;cases n
def W.YB[r:cG c](e:o<=8589934592)(hn:u.rs.num<1000000000000)(b bt){key ws}(x:(Xr [32] ws).length<=SB)(d)(h:W c G Q J o m j u ts)(t:u.cu.er.isNone=true->(key∈u.rs.bM↔Xr [32] ws∈aS u.X)){K:aj->Option Rs}
  (g:∀A' m1 i7 a,A'<=o+1->W c G Q J A' m1 i7 a ts->a.cu=u.cu->(∀k,k≠[0]->k≠[2]->a.X k=u.X k)->(u.cu.er.isNone=true->a=ig u b bt ws key)->aK c G Q J (K m1) i8) :
  aK c G Q J (bp (TA (d+2) Qs [pt c.P 0 0,sv bt,sv key] m) λ_ m=>K m) i8:=by
 obtain⟨z,f,_⟩:=h.ps.wt.root;cases q:u.cu.er.isNone with
 |true =>obtain⟨y,m1,A',i7,a,i,l,n,rfl,p,rfl⟩:=Xsh h.ps e hn b bt key ws x (t q) d;rw[i,X4];refine g _ m1 i7 _ p (h.go l n) rfl (λk s v=>?_) λ_=>rfl;show(Xz u ws).X k=u.X k;unfold Xz;dsimp only;rw[NX.aE _ _ v,fp f,NX.aE _ _ s]
 |false =>
  obtain⟨y,m1,A',i7,a,i,l,n,rfl,p,rfl⟩:=Xko h.ps e hn bt key d;rw[i,X4];refine g _ m1 i7 _ p (h.go l n) (ye _ _) (λk s v=>?_) λw=>by rw[q]at w;cases w
  unfold LH kW iA;dsimp only;split
  ·show bF _ [0] 15 _ k=u.X k;rw[fp f,NX.aE _ _ s]
  ·rfl
def ur{c cu}(h:(bB c cu).2.er.isNone=true):fZ (bB c cu).1=true:=by
 unfold bB at h|-;cases q:fZ (Xa c cu).1 with
 |true=>exact rfl
 |false =>rw[q]at h;have h:(cA c _ 130).er.isNone=true:=h;rw[fY]at h;cases h
end Go.Ab.Sh
namespace Go.Ab.Sh
open Go Go.Lib Go.Ab
variable {c:Cx}{G m:Mem}{Q j i7:ay}{J s u i5 S':ao}{o V' A' h Z':Nat}{ts:List Tmp}{x:Option Rs}{i8:Value->Nat->ay->ao->Prop}{v:Value}{cu:Cu}
def qn(s:ao)(n:ai)(pm:Bool)(za3:List ae):ao:=(rowOf s 8 2 n [.v (sv n),.s 0 2]).2.nl [8,0] ((rowOf s 8 2 n [.v (sv n),.s 0 2]).1*2+1) [.v (.bool pm)] za3
def Yi(s:ao)(n:ai)(pm:Bool)(za3:List ae)(y:Option Nat):ao:=match y with
 |some a=>s.nl [8,0] (a*2+1) [.v (.bool pm)] za3
 |none=>(s.app [0] 8 [.v (sv n),.s 0 2]).nl [8,0] (au s.X [0] 8*2+1) [.v (.bool pm)] za3
def XaH(s n pm za3):qn s n pm za3=Yi s n pm za3 (fq s.X [0] 8 2 0 n):=by unfold qn rowOf Yi;cases fq s.X [0] 8 2 0 n<;>rfl
def XaR(s n pm za3):(qn s n pm za3).cu=s.cu:=by rw[XaH];cases fq s.X [0] 8 2 0 n<;>rfl
def Yp(l k m:ae):aj->Option Rs:=
 je 0 k λc =>
 T 8 c λa =>
 X a λb =>
 je 0 k λd =>
 F 8 d λe =>
 jb 2 e l λf =>
 F 1 f λg =>
 jd true 2 m λh =>
 jm AO ss 2 32 g h λi =>
 jn (O false 1 a b jo)
  (jb 2 b l λj =>
 jf 1 j i
  (jq))
def Xpk(M')(h:PS c o m j u)(l:o+1<=8589934592)(n)(g:ae):∀N i f,i+N=au u.X [0] 8->N<f ->
  wY M' f (I i) (pt c.P 0 0) (sv n) g m=match gx (λa=>decide (di u.X [8,0] a=n)) 2 0 N i with
   |some a=>Yp (I a) (pt c.P 0 0) g m
   |none=>Ht M' (pt c.P 0 0) (sv n) g m
 |N,i,0,_,hf=>aa
 |0,i,f+1,y,hf=>by obtain⟨_,G,k,_,t⟩:=h.dev (f:=8) (sz:=2) rfl aa rfl;unfold wY;delta E F je N ji;simp only[Xg,X7,X3,aQ,k,dx,Qb,Xf];rw[af aa];rfl
 |N+1,i,f+1,y,hf=>by
  obtain⟨⟨K,C,s⟩,G,k,_,t⟩:=h.dev (f:=8) (sz:=2) rfl aa rfl;obtain⟨J,q,v,w⟩:=t aa;have hi:i<au u.X [0] 8:=aa;have d:Xd 2 _ (I i)=some _:=eU _ w _ 2 i _ hi;have ⟨ty,b⟩:=h.aF q ak ak;have e:X9 _ 1 (pt _ (i*2+0) _) m=some (sv (di _ _ (i*2+0))):=Xt b (h.BY q rfl rfl v rfl i hi);have r:bin _ _ _ _ (sv (di u.X [8,0] (i*2+0))) (sv n)=some _:=Qh false true _ _;have x:bin .add true true .int (I i) (.int .i64 1)=some (I (i+1:Nat)):=by rw[cz];have:((i:Nat):Int)+1=((i+1:Nat):Int):=aa;rw[this,wrap64 _ aa]
  have er:gx (λa=>decide (di u.X [8,0] a=n)) 2 0 (N+1) i=if decide _=true then some i else gx (λa=>decide _) 2 0 N _:=rfl;unfold wY;rw[er];by_cases p:di u.X [8,0] (i*2+0)=n
  ·rw[ah (bj p)];unfold Yp;delta E F je B N jb ja A ji;simp only[Xg,X7,X3,aQ,k,dx,Qb,Xf];rw[ah aa];simp only[d,e,r,X7,X3,Xf];rw[ah p]
  ·rw[af aq];delta E F je B N jb ja A ji;simp only[Xg,X7,X3,aQ,k,dx,Qb,Xf];rw[ah aa];simp only[d,e,r,X7,X3,Xf];rw[af p];simp only[x,X3];exact Xpk M' h l n g N (i+1) f aa aa
def XhJ(h:PS c o m j s)(n):au (s.app [0] 8 [.v (sv n),.s 0 2]).X [8,0] (au s.X [0] 8*2+1)=0:=by obtain⟨l,a,e⟩:=h.wt.root;obtain⟨d,_,_,_,_⟩:=h.list a rfl (y:=8) aa rfl;obtain⟨_,b,_⟩:=K6 h a rfl rfl d;show au (bg s.X [0] 8 _) _ _=0;have b:(bz s.X _).length=au s.X [0] 8*2:=b;rw[pa a d _ rfl];unfold au;rw[BF _ _ _ ak,lI];rw[lB (by unfold au at b;omega)];unfold au at b;rw[b,pQ];rfl
def XjS(d)(a5:o+c.ws.length+3<=8589934592){bm n p pf L zb8 h}(hn:n.length<=65536)(a6:zb8.length<=c.ws.length+1)(S:zb8.length≠0->L.r<2)(Z:u.cu.er.isNone=true->p=pf/\zb8=h/\zb8.length≠0)
  (k:W c G j s o m j u ((bm,0,[.bool p,ax L zb8.length 1])::(iL L zb8++ts))) :
  aK c G j s (Hu (aH d) (pt c.P 0 0) (sv n) (pt bm 0 0) m) (QR o (c.ws.length+3) (.tuple ⟨[]⟩) (qn u n pf (h.map u32))):=by
 have g:∀i5,i5.cu=u.cu->(u.cu.er.isNone=true->i5=qn u n pf (h.map u32))->∀g8,aK c G j s g8 (QR o (c.ws.length+3) (.tuple ⟨[]⟩) i5)->aK c G j s g8 _:=λi5 h1 h2 g8 hy=>hy.qr (by rw[XaR,h1]) λq=>h2 (by rwa[XaR]at q);obtain⟨⟨lr,a7,a4⟩,q2,q3,_,q5⟩:=k.ps.dev (f:=8) (sz:=2) rfl aa rfl;have e0:Hu (aH d) (pt c.P 0 0) (sv n) (pt bm 0 0) m=wY (aH d) 18446744073709551616 (I (0:Nat)) (pt c.P 0 0) (sv n) (pt bm 0 0) m:=by rfl
 rw[e0,Xpk (aH d) k.ps aa n (pt bm 0 0) _ 0 18446744073709551616 (aQ _) aa];have V:X9 _ 2 _ m=some (.agg ⟨[.bool p,ax L _ 1]⟩):=k.fi (y:=0) br ar rfl;have C:gx (λi=>decide _) 2 0 _ 0=fq u.X [0] 8 2 0 n:=rfl;rw[C];have hi:∀i,fq u.X [0] 8 2 0 n=some i->i<au u.X [0] 8:=λi U=>by have:=vI _ _ _ _ _ _ U;omega
 have w:=XaH u n pf (h.map u32);cases U:fq u.X [0] 8 2 0 n with
 |some i =>
  rw[U]at w;have hi:=hi i U;have ⟨l8,a1,a2,a3⟩:=q5 aa;have hf:bo 9 (i*2+1)=some (.l 10):=by rw[fd_row (r:=9) (sz:=2) rfl i 1 aa];rfl
  have ⟨_,_,a0,_,_⟩:=k.ps.list a1 FF aa hf;have J:Xd 2 _ (I i)=some _:=eU _ a3 _ 2 i _ hi;delta Yp O jo T F jn jd X je jb jm jf jq;simp only[Xg,X7,X3,aQ,q3,J,a0,V];by_cases t:zb8.length=0
  ·have E:=uZ.mp t;subst E;refine g (u.app [8,0] (i*2+1) [.v (.bool p),.s 0 1]) rfl (λq=>absurd rfl (Z q).2.2) _ ?_;refine k.bO (cs:=[.bool p,.slice _ 0 0]) rfl ak λx N a=>?_;have a:W c G j s o N j u ((x,0,[Cl.v _,.s 0 1].map Cl.raw)::_):=a;refine a.Fs aa a1 FF aa hf rfl rfl rfl (dJ (And.intro (fV _) (And.intro (jM 11 0) trivial))) ak (K:=λm=>some (.tuple ⟨[]⟩,m)) (λv' Y hg=>by
     have e:=xS a (f:=8) (r':=9) (sz:=2) rfl aa rfl (K:=(i*2+1)::[8,0]) (λe=>aq) hg;simp only[e,o6,fO,Xv,J,X3,X7]) λR Y Q A _ M=>?_
   exact M.kj aa rfl λ_=>rfl
  ·refine g (u.nl _ _ _ _) rfl (λq=>by obtain⟨rfl,rfl,_⟩:=Z q;rw[w];rfl) _ ?_;unfold iL at k;rw[af t]at k;have D:ax L _ 1=.slice _ _ _:=af t;refine k.bO (cs:=[.bool p,ax L _ 1]) (by rw[D];rfl) ak λx N a=>?_;have a:W c G j s o N j u ((x,0,[.bool p]++[ax L _ 1])::(L.b,L.ver,zb8.map u32)::ts):=a.sub (List.Sublist.cons_cons _ (List.Sublist.cons _ (M9 _)));refine a.apo (S t) (by rw[gB]) t (λv hv=>by
    grind) aa a1 FF ak aa hf rfl rfl rfl (dJ (And.intro (fV _) (And.intro (jM 11 0) trivial))) rfl ak (K:=λm=>some (.tuple ⟨[]⟩,m)) (λv' Y hg=>by simp only[xS a (f:=8) (r':=9) (sz:=2) rfl aa rfl (K:=(i*2+1)::[8,0]) (λe=>aq) hg,o6,fO,Xv,J,X3,X7]) λR Y Q A M=>?_
   exact M.kj aa rfl λ_=>rfl
 |none =>
  rw[U]at w;delta Ht H F jd je B jm jf jq;simp only[Xg,X7,X3,aQ,q3,V];by_cases t:zb8.length=0
  ·have E:=uZ.mp t;subst E;refine g ((u.app [0] 8 [.v (sv n),.s 0 2]).app [8,0] (au u.X [0] 8*2+1) [.v (.bool p),.s 0 1]) rfl (λq=>absurd rfl (Z q).2.2) _ ?_;refine k.bO (cs:=[.bool p,.slice _ 0 0]) rfl ak λz m1 k1=>?_;have eb:Xc tZ [(0,1),(1,1)] [(0,sv n),(1,.slice (some ⟨z,0,some 2⟩) 1 1)]=some _:=aU rfl rfl;simp only[eb,X3];refine k1.bO (cs:=[sv n,.slice _ 1 1]) rfl ak λx N a=>?_;have a:W c G j s o N j u ((x,0,[sv n,ax ⟨z,0,1⟩ 1 2])::(z,0,[Cl.v _,.s 0 1].map Cl.raw)::_):=a;refine W.apq a (by show 1<2;omega) (aO hn ak) aa (f:=8) aa rfl rfl rfl rfl rfl rfl rfl (dJ (And.intro (fV _) (And.intro (jM 11 0) trivial))) ak λR Y Q A M=>?_;exact M.kj aa rfl λ_=>rfl
  ·refine g (((u.app [0] 8 _).app _ _ [.v _,.s 0 1]).iV _ 1 _) rfl (λq=>by
    obtain⟨rfl,rfl,_⟩:=Z q;rw[w];unfold Yi ao.nl;rw[XhJ k.ps n];rfl) _ ?_
   unfold iL at k;rw[af t]at k;have D:ax L _ 1=.slice _ _ _:=af t;refine k.bO (cs:=[.bool p,ax L _ 1]) (by rw[D];rfl) ak λz m1 k1=>?_;have eb:Xc tZ [(0,1),(1,1)] [(0,sv n),(1,.slice (some ⟨z,0,some 2⟩) 1 1)]=some _:=aU rfl rfl;simp only[eb,X3];refine k1.bO (cs:=[sv n,.slice _ 1 1]) rfl ak λx N a=>?_;have a:W c G j s o N j u ((x,0,[sv n,ax ⟨z,0,1⟩ 1 2])::(z,0,[.bool p,ax L _ 1])::(L.b,L.ver,zb8.map u32)::ts):=a.sub (List.Sublist.cons_cons _ (List.Sublist.cons_cons _ (List.Sublist.cons _ (M9 _))));refine W.apm a (by show 1<2;omega) (S t) (aO hn ak) aa (by rw[gB]) t (λv hv=>by grind) ak λR Y Q A M=>?_
   exact M.kj aa rfl λ_=>rfl
variable {zb6:List Tmp}
def W.perm(h:W c G Q J o m j s ts)(p:ts.Perm zb6):W c G Q J o m j s zb6:=
 { h with
  lt:=λt a=>h.lt t (p.mem_iff.mpr a)
  nx:=λt a=>h.nx t (p.mem_iff.mpr a)
  at':=λt a=>h.at' t (p.mem_iff.mpr a)
  nd:=(p.map _).nodup_iff.mp h.nd }
def pZ.at(h:pZ s)(cu):pZ (s.at cu):=⟨h.host,h.qF,h.iface,h.rI,h.rO,h.iY,h.iW⟩
def Xo2(c cu w):(aP c cu [w]).2=lN c cu w:=by
 unfold lN;by_cases h:(Xa c cu).1=w
 ·rw[ah h,sO (by simp[h])]
 ·rw[af h,mN (by simp[h])]
def XgS{c cu a b}(f:a≠b)(h:(aP c cu [a,b]).2.er.isNone=true):decide ((Xa c cu).1=b)=decide ((aP c cu [a,b]).1=1):=by
 by_cases d:(Xa c cu).1=a
 ·have:(aP c cu [a,b]).1=0:=by unfold aP de;rw[ah d]
  grind
 ·by_cases e:(Xa c cu).1=b
  ·have:(aP c cu [a,b]).1=1:=by unfold aP de de;rw[af d,ah e]
   grind
  ·rw[mN aq,fY]at h;cases h
def Xtv{c cu}(h:cu.er.isNone=false)(w):lN c cu w=cu:=by unfold lN;rw[sI h,jW h];simp
def tn(c:Cx)(J:ao):ao:=
 let w:=Xa c J.cu;let s:=J.at w.2
 if w.1=NA then og c s
 else if w.1=jC then
  let n:=bB c s.cu
  (ig (s.at n.2) ni od [od,n.1] (Gl++n.1)).app [0] 4 [.v (sv n.1),.s 0 10]
 else if w.1=wQ then
  let n:=bB c s.cu;let e:=j9 c n.2
  mu (s.at e.2) n.1 [.v (.bool e.1.1),.v (u32 e.1.2.1),.v (I e.1.2.2.1),.v (.int .i64 e.1.2.2.2.1),.v (.int .i64 e.1.2.2.2.2)]
 else if w.1=wR then
  let n:=bB c s.cu;let y:=aP c n.2 [dq,dP];let l:=cM c (c.ws.length+1) y.2
  qn (s.at l.2) n.1 (decide (y.1=0)) (l.1.map u32)
 else if w.1=wS then
  let y:=aP c s.cu [zz,tP];let x:=lN c y.2 jC;let n:=bB c x;let g8:=lN c n.2 zA;let a:=Xy c g8
  (s.at a.2).app [0] 5 [.v (.bool (decide (y.1=1))),.v (sv n.1),.v (u32 a.1)]
 else fu c s 130
def Xyo{c cu}(h:cu.er.isNone=false):∀f,(cM c (f+1) cu).2=cu:=λf=>by
 rw[vD];have:eG c cu=cu:=by unfold eG;rw[sI h,jW h];exact pN _
 rw[this,af (by rw[K4 h];decide)]
def XjL[r:cG c](h:PS c o m j s)(a6:∀w∈c.ws,w.1≠[])(al:o+c.ws.length+3<=8589934592)(hn:s.rs.num<1000000000000)(ht:pZ s)(d):mH c o (c.ws.length+3) m j s (TA (d+7) Ou [pt c.P 0 0,pt c.C 0 0] m) (.tuple ⟨[]⟩) (tn c s):=by
 refine h.tB (X6z _ _ _ _) λG k=>?_;delta CY C;refine k.cl (nV k.ps (d+5)) λm1 i=>?_;have hp:(Xa c _).2.er.isNone=true->1<=(Xa c s.cu).2.pl:=λq=>nZ q;unfold tn;dsimp only;generalize Xa c _=V at *;have ht:=ht.at V.2;have hn:(s.at V.2).rs.num<1000000000000:=hn;have a3:(s.at V.2).cu=V.2:=rfl;generalize s.at V.2=s1 at *;have es:∀a,bin _ _ _ _ _ (.string _)=some _:=λa=>Qh true true V.1 a;delta Pw Px Py Pz O9 C F L E jd je B Y U jm jf A P D jp jq;simp only[es,X3];refine Xh (λg=>?_) (λg=>?_)
 ·rw[ah (aT g),Xlf];have hv:=Bp i.ps;refine i.cl (Wu i.ps _) λm2 I=>?_;generalize dG c _=Z at I hv|-;have Q:Xc sr [(0,1),(1,2),(3,1),(4,1),(5,1),(6,1)] [(0,sv Z.1),(4,.int _ 1)]=some (.agg ⟨fM Z.1 0 0 0 _ 1 0⟩):=aU rfl rfl;simp only[Q,X3];refine I.new λb m3 t=>?_;refine t.aC (l1:=[]) (za6:=fM Z.1 0 0 0 _ 1 0) rfl rfl aW rfl λm4 z=>?_;delta PA C T Y jj;have am:=λq=>Uw (c:=c) (cu:=Z.2) (w:=false) q;have a1:(gU c Z.2 false).2=iX c (c8 c (Xy c Z.2).2 false).2 (Xy c Z.2).1 ((c8 c (Xy c Z.2).2 false).1):=by unfold gU;dsimp only
  have ac:(gU c Z.2 false).1.1=(Xy c Z.2).1:=by unfold gU;dsimp only
  refine z.cl (Wv z.ps _ (d+1)) λm5 H=>?_;rw[bL]at H|-;rw[<-a1,<-ac];generalize Xy c Z.2=A at *;generalize c8 c A.2 _=M at *;generalize gU c Z.2 _=N at *;refine H.aC (za6:=fM Z.1 _ _ 0 _ 1 0) rfl rfl aW rfl λm6 x=>?_;have hE:(s1.at N.2).cu.er.isNone=true->N.1.2=M.1:=λq=>by rw[am q]
  obtain⟨v',m2,a9,a8,s2,w1,w2,w3,rfl,w4,w5,w6⟩:=XnL (d+1) aa a6 hv hE x;exact⟨_,m2,a9,a8,s2,w1,w2,w3,rfl,aa,w5,w6⟩
 rw[af (aV g)];refine Xh (λg=>?_) (λg=>?_)
 ·rw[ah (aT g)];have l:=j6 i.ps;refine i.cl (nU i.ps _) λm2 I=>?_;have an:=λq=>ur (c:=c) (cu:=s1.cu) q;generalize bB c _=N at *;have e1:bin _ _ _ _ (.string ⟨#[102,105,108,116,101,114,32]⟩) _=some (sv (Gl++N.1)):=Qu true true _ N.1 cF;simp only[e1,X3];refine W.YB (u:=s1.at N.2) aa hn ni od XeX _ I (λq=>ht.rI N.1 (an q)) λA' m3 i7 s3 ag t a2 _ hS=>?_;obtain⟨_,_,q3,_,_⟩:=t.ps.dev (f:=4) (sz:=2) rfl aa rfl;have Q:Xc vy [(0,1),(1,1)] [(0,sv N.1)]=some _:=aU rfl rfl;simp only[Xg,X7,X3,aQ,q3,Q];refine t.bO (cs:=[sv N.1,.slice _ 0 0]) rfl ak λb2 m4 z=>?_;have z:W c G j s _ m4 i7 s3 ((b2,0,[Cl.v (sv N.1),.s 0 10].map Cl.raw)::_):=z;refine z.ml aa (y:=4) aa rfl rfl rfl rfl (dJ (And.intro (eJ (aO l ak)) (And.intro (jM _ _) trivial))) ak λa9 m5 a8 aB _ H=>?_;refine H.kj aa a2 λq=>?_;rw[hS q]
 rw[af (aV g)];refine Xh (λg=>?_) (λg=>?_)
 ·rw[ah (aT g)];exact i.tf (Xjs i.ps aa a6 d) aa
 rw[af (aV g)];refine Xh (λg=>?_) (λg=>?_)
 ·rw[ah (aT g)];have l:=j6 i.ps;refine i.cl (nU i.ps _) λm2 I=>?_;generalize bB c _=N at *;delta Pa C B Y U P D;refine I.cl (mM I.ps _ _ _ ak ak ak (d+4)) λm3 t=>?_;rw[bL]at t|-;rw[ux]at t;have a4:=λq=>Bg (c:=c) (cu:=N.2) (a:=dq) (b:=dP) ak q;generalize aP c N.2 _=O at *;have e0:bin _ _ _ _ _ (.string ⟨#[112,101,114,109,105,116]⟩)=some _:=Qh true true (Xa c N.2).1 _;generalize decide ((Xa c N.2).1=dq)=p at e0 a4;have Q:Xc ss [(0,1),(1,1)] [(0,.bool p)]=some _:=aU rfl rfl;simp only[e0,Q,X3];refine t.new λbm m4 z=>?_;refine z.aC (l1:=[]) (za6:=[.bool p,.slice _ 0 0]) rfl rfl aW rfl λm5 H=>?_;delta Pb C jf;obtain⟨L,m6,e6,x,R⟩:=Xl0 H.ps (d+3);have e6:TA (d+6) _ _ m5=some (ax L (oh c O.2).length 1,m6):=e6;simp only[e6,X4];have x:W c G j s o m6 j (s1.at (cM c _ O.2).2) (iL L (oh c O.2)++(bm,0,[.bool p,.slice _ 0 0])::[]):=H.join x;have R:(oh c O.2).length≠0->L.r<2:=R;have a5:=Et c (c.ws.length+1) O.2;have b1:=Ez c c.ws.length O.2;have b0:=λq=>Xyo (c:=c) (cu:=O.2) q c.ws.length;have hR:oh c O.2=if(cM c (c.ws.length+1) O.2).2.er.isNone=true then(cM c (c.ws.length+1) O.2).1 else[]:=by unfold oh jJ;rw[my]
  generalize cM c _ O.2=M at *;generalize oh c O.2=ab at *;have hx:(ax L ab.length 1).cells=#[ax L ab.length 1]:=zq;refine x.aC (za6:=[.bool p,ax L _ 1]) (by rw[hx];rfl) (by rw[hx];simp[nX]) aW (by rw[hx];rfl) λm7 k7=>?_;have k7:W c G j s o m7 j _ ((bm,0,[.bool p,ax L _ 1])::(iL L _++[])):=k7.perm List.perm_middle;refine XjS _ al l (by rw[hR];split;exact a5;simp) R (λq=>?_) k7;have q:M.2.er.isNone=true:=q
  grind
 rw[af (aV g)];refine Xh (λg=>?_) (λg=>?_)
 ·rw[ah (aT g)];refine i.cl (mM i.ps _ _ _ ak ak ak _) λm3 t=>?_;rw[ux]at t;have J:=λq=>XgS (c:=c) (cu:=s1.cu) (a:=zz) (b:=tP) ak q;generalize aP c _ _=O at *;have e0:bin _ _ true _ _ (.string ⟨#[100,101,115,116,105,110,97,116,105,111,110]⟩)=some _:=Qh true _ (Xa c s1.cu).1 _;generalize decide ((Xa c _).1=tP)=K at e0 J;have Q:Xc vx [(0,1),(1,1),(2,1)] [(0,.bool K)]=some (.agg ⟨[.bool K,sv [],u32 0]⟩):=aU rfl rfl;simp only[e0,Q,X3];refine t.new λb m4 z=>?_;refine z.aC (l1:=[]) (za6:=[.bool K,sv [],u32 0]) rfl rfl aW rfl λm5 H=>?_;refine H.cl (mM H.ps _ _ _ ak ak ak _) λm6 x=>?_;rw[bL]at x;rw[one_one,Xo2]at x;have hX:(lN c O.2 jC).er.isNone=true->O.2.er.isNone=true:=λq=>kG (λe=>Xtv e _) q;generalize lN c O.2 _=X at *;have l:=j6 x.ps;rw[bL]at l;refine x.cl (nU x.ps _) λm7 k7=>?_;rw[bL]at k7|-;have hN:(bB c X).2.er.isNone=true->X.er.isNone=true:=λq=>kG (λe=>XhN e) q;generalize bB c X=N at *;simp only[X7,X3,aQ];refine k7.aC (za6:=[.bool K,sv N.1,u32 0]) rfl rfl aW rfl λm8 k8=>?_;refine k8.cl (mM k8.ps _ _ _ ak ak ak _) λm9 k9=>?_;rw[bL]at k9;rw[one_one,Xo2]at k9;have hY:(lN c N.2 zA).er.isNone=true->N.2.er.isNone=true:=λq=>kG (λe=>Xtv e _) q;generalize lN c N.2 _=Y at *;refine k9.cl (uh k9.ps _) λb3 a7=>?_;rw[bL]at a7|-;have hA:(Xy c Y).2.er.isNone=true->Y.er.isNone=true:=λq=>kG (λe=>EN e) q;generalize Xy c Y=A at *;refine a7.aC (za6:=[.bool K,sv N.1,u32 A.1]) rfl rfl aW rfl λaw S=>?_;obtain⟨_,_,q3,_,_⟩:=S.ps.dev (f:=5) (sz:=3) rfl aa rfl;have ld:X9 _ 3 _ aw=some (.agg ⟨[.bool K,sv N.1,u32 A.1]⟩):=S.fi (y:=0) br ar rfl;simp only[Xg,X7,X3,aQ,q3,ld];refine S.bO (cs:=[.bool K,sv N.1,u32 A.1]) rfl ak λb2 aA a0=>?_;have a0:W c G j s o aA j _ ((b2,0,[Cl.v _,.v (sv N.1),.v (u32 A.1)].map Cl.raw)::_):=a0;refine a0.ml aa (y:=5) aa rfl rfl rfl rfl (dJ (And.intro (fV _) (And.intro (eJ (aO l ak)) (And.intro (bR _ _) trivial)))) ak λA' b4 i7 ag _ av=>?_;refine av.kj aa rfl λq=>?_;rw[J (hX (hN (hY (hA q))))];rfl
 ·rw[af (aV g)];refine i.cl (kS i.ps (λq=>by rw[a3]at q|-;exact hp q) 130 ak _) λm2 I=>?_;exact I.kj aa rfl λ_=>rfl
end Go.Ab.Sh
end
