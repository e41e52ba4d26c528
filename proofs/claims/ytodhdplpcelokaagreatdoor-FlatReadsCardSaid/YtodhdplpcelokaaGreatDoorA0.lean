/-
  What the functions of the program answer, at every text and every question. No conditions.
-/
import Derived.Test.YtodhdplpcelokaaGreatDoorAb5
import Derived.Sort.Defs
import Derived.Lib.BitFns
import Derived.Test.YtodhdplpcelokaaGreatDoorT
import Derived.Lib.ItoaNum
import Derived.Lib.AtoiAll
import Derived.Lib.ParseIntB
import Derived.Lib.Index
import Derived.Lib.Bytealg
import Derived.Lib.Join
set_option linter.all false
set_option maxRecDepth 100000
noncomputable section
namespace Go.Ab
open Go
variable {b2 bytes o e zb3 n y size:Nat}{c:List Value}{m:Mem}{zb4:Bool}{ty ty2:Option Nat}{x:Value}
inductive Cl where
 |v (x:Value)
 |s (n sz:Nat)
abbrev Key:=List Nat
structure Lc where
 b:Nat
 ver:Nat
 r:Nat
abbrev ay:=Key->Lc
def ax(l:Lc)(n sz:Nat):ae:=if n=0 then .slice none 0 0 else .slice (some ⟨l.b,0,some sz⟩) n (2*l.ver+l.r)
def cv(j:ay)(k:Key)(y:Nat):Cl->ae
 |.v x=>x
 |.s n a=>ax (j (y::k)) n a
inductive NO where
 |c (l:List Cl)
 |m (es:List (Value × Value × Nat)) (clock:Nat)
abbrev NX:=Key->Option NO
def NX.set(X:NX)(k:Key)(y:Option NO):NX:=λa=>if a=k then y else X a
def ay.set(j:ay)(k:Key)(l:Lc):ay:=λa=>if a=k then l else j a
theorem NX.aR(X:NX)(k y):X.set k y k=y:=ah rfl
theorem NX.aE(X:NX){k a}(y)(h:a≠k):X.set k y a=X a:=af h
theorem ay.aR(j:ay)(k l):j.set k l k=l:=ah rfl
theorem ay.aE(j:ay){k a}(l)(h:a≠k):j.set k l a=j a:=af h
def cells(j:ay)(k:Key)(l:List Cl):List ae:=l.mapIdx (cv j k)
def gM(j k l):(cells j k l).length=l.length:=by unfold cells;simp
def Xn(j k l y):(cells j k l)[y]?=l[y]?.map (cv j k y):=by unfold cells;simp
def U7{j b k l}(h:∀y n a,l[y]?=some (.s n a)->n≠0->b (y::k)=j (y::k)):cells b k l=cells j k l:=by
 apply fk;intro y;rw[Xn,Xn];cases d:l[y]? with
 |none=>rfl
 |some c =>
  cases c with
  |v x=>rfl
  |s n a =>
   show some (ax _ n a)=some (ax _ n a);by_cases hn:n=0
   ·subst hn;rfl
   ·grind
def Cl.ok:Cl->Bool
 |.v x=>one x
 |.s _ _=>true
def nX(l n sz):one (ax l n sz)=true:=zq
def Ml{j k l}(h:l.all Cl.ok=true):(cells j k l).all one=true:=by
 rw[cL]at h|-;intro x e;obtain⟨y,a⟩:=List.mem_iff_getElem?.mp e;rw[Xn]at a;cases b:l[y]? with
 |none=>grind
 |some c =>
  rw[b]at a;have d:=h c (jO b);cases c with
  |v f=>cases a;exact d
  |s n g=>cases a;exact nX _ _ _
def AtO(m:aj)(j:ay)(k:Key):NO->Prop
 |.c l=>∃ty,m.get (j k).b=some (.cells (cells j k l) (j k).ver 0 false ty)
 |.m d a=>m.get (j k).b=some (.map d a)
structure NR (o:Nat) (m:Mem) (j:ay) (X:NX):Prop where
 inj:∀k k',X k≠none->X k'≠none->(j k).b=(j k').b->k=k'
 hi:∀k,X k≠none->(j k).b<m.next
 r2:∀k,X k≠none->(j k).r<2
 at':∀k y,X k=some y->AtO m j k y
 ok:∀k l,X k=some (.c l)->l.all Cl.ok=true
 ow:∀k l y n sz,X k=some (.c l)->l[y]?=some (.s n sz)->n<=o/\0<sz/\(if n=0 then X (y::k)=none else ∃l',X (y::k)=some (.c l')/\l'.length=n*sz)
 par:∀i i6 k,X (i::i6::k)≠none->∃l n sz,X (i6::k)=some (.c l)/\l[i]?=some (.s n sz)/\n≠0
structure Wk (m:Mem) (j:ay) (X:NX) (S:Mem) (H1:ay) (M:NX):Prop where
 next:m.next<=S.next
 low:S.low<=m.low
 bQ:∀x,x<=m.low->x<=m.next->(∀k,X k≠none->x<=(j k).b)->x<=S.low
 get:∀b,b<m.next->(∀k,X k≠none->(j k).b≠b)->S.get b=m.get b
 lo:∀b,b<m.next->S.low<=b\/S.get b=m.get b
 nw:∀k,M k≠none->m.next<=(H1 k).b\/∃k0,X k0≠none/\(j k0).b=(H1 k).b
 kp:(∃k,X k≠none/\S.low<=(j k).b)\/((∀k,M k≠none->H1 k=j k)/\∀k,M k≠none->X k≠none)
def Wk.refl(m:aj)(j X):Wk m j X m j X:=⟨c6 _,c6 _,λ_ h _ _=>h,λ_ _ _=>rfl,λ_ _=>.inr rfl,λk h=>.inr ⟨k,h,rfl⟩,.inr ⟨λ_ _=>rfl,λ_ h=>h⟩⟩
def Wk.trans{m1 m2 j i7 za2 X X1 X2}(h:Wk m j X m1 i7 X1)(k:Wk m1 i7 X1 m2 za2 X2):Wk m j X m2 za2 X2 where
 next:=aO h.next k.next
 low:=aO k.low h.low
 bQ:=λx h1 h2 h3=>k.bQ x (h.bQ x h1 h2 h3) (aO h2 h.next) λq hq=>by
  rcases h.nw q hq with e|⟨k0,e1,e2⟩
  ·omega
  ·grind
 get:=λb h1 h2=>by
  rw[k.get b (dU h1 h.next) ?_,h.get b h1 h2];intro q hq;rcases h.nw q hq with e|⟨k0,e1,e2⟩
  ·omega
  ·grind
 lo:=λb h1=>by
  rcases k.lo b (dU h1 h.next)with q|q
  ·omega
  ·rcases h.lo b h1 with q2|q2
   ·exact .inl (aO k.low q2)
   ·grind
 nw:=λq hq=>by
  rcases k.nw q hq with e|⟨k0,e1,e2⟩
  ·exact .inl (aO h.next e)
  ·rw[<-e2];exact h.nw k0 e1
 kp:=by
  rcases h.kp with⟨q,e1,e2⟩|⟨e1,e2⟩
  ·exact .inl ⟨q,e1,aO k.low e2⟩
  ·rcases k.kp with⟨q,f1,f2⟩|⟨f1,f2⟩
   ·grind
   grind
def NR.same{S:aj}{j X}(h:NR o m j X)(hn:m.next<=S.next)(f:∀k,X k≠none->S.get (j k).b=m.get (j k).b):NR o S j X:=
 { h with
  hi:=λk d=>dU (h.hi k d) hn
  at':=λk y d=>by
   have:=h.at' k y d;cases y with
   |c l=>obtain⟨ty,q⟩:=this;exact⟨ty,aq⟩
   |m g a=>show S.get _=_;rw[f k aq];trivial }
theorem NR.push{o}{m:aj}{j X}(h:NR o m j X)(y):NR o (m.push y) j X/\Wk m j X (m.push y) j X:=by have c:∀b,b<m.next->(m.push y).get b=m.get b:=λb a=>rV;exact⟨h.same zv λk d=>c _ (h.hi k d),Nat.le_succ _,c6 _,λ_ h _ _=>h,λb a _=>c b a,λb a=>.inr (c b a),λk d=>.inr ⟨k,d,rfl⟩,.inr ⟨λ_ _=>rfl,λ_ h=>h⟩⟩
def NR.load{j X}(h:NR o m j X){k l c}(a:X k=some (.c l))(d:l[y]?=some c):X9 false 1 (pt (j k).b y (j k).ver) m=some (cv j k y c):=by obtain⟨ty,q⟩:=h.at' k _ a;exact Xt q (by rw[Xn,d];rfl)
def FA{a:Type}(A B C:List a)(i):(A++B++C)[i]?=if i<A.length then A[i]? else if i<A.length+B.length then B[i-A.length]? else C[i-A.length-B.length]?:=by grind
def Xvz{j k l L}(h:y+L.length<=l.length) :
  cells j k (l.take y++L++l.drop (y+L.length))=(cells j k l).take y++L.mapIdx (λi c=>cv j k (y+i) c)++(cells j k l).drop (y+L.length):=by
 apply fk;intro i;have f:(l.take y).length=y:=cF;have b:((cells j k l).take y).length=y:=by simp[gM];omega
 have e:(L.mapIdx (λi c=>cv j k (y+i) c)).length=L.length:=ar;rw[Xn,FA,FA,f,b,e];by_cases a:i<y
 ·rw[ah a,ah a,jP,jP,ah a,ah a,Xn]
 ·rw[af a,af a];by_cases d:i<y+L.length
  ·rw[ah d,ah d,tF]
   grind
  ·rw[af d,af d,lz,lz,Xn];rw[show y+L.length+(i-y-L.length)=i by omega]
def NR.put{j X}(h:NR o m j X){k l}(hk:X k=some (.c l))(hn:x.cells.size=n)(E:x.cells.toList.all one=true)(O:y+n<=l.length)(P:∀i,y<=i->i<y+n->∃g8,l[i]?=some (.v g8)) :
  ∃S,Xe n (pt (j k).b y (j k).ver) x m=some S/\NR o S j (X.set k (some (.c (l.take y++x.cells.toList.map .v++l.drop (y+n))))) /\
   Wk m j X S j (X.set k (some (.c (l.take y++x.cells.toList.map .v++l.drop (y+n)))))/\S.next=m.next/\S.low<=(j k).b:=by
 obtain⟨ty,q⟩:=h.at' k _ hk;have Q:x.cells.toList.length=n:=by exact hn
 have F:(x.cells.toList.map Cl.v).length=n:=by rwa[gB]
 have r:=Xvz (j:=j) (k:=k) (l:=l) (L:=x.cells.toList.map Cl.v) (y:=y) aa;rw[F]at r;have N:(x.cells.toList.map Cl.v).mapIdx (λi c=>cv j k (y+i) c)=x.cells.toList:=by apply fk;intro i;rw[tF,gX];cases x.cells.toList[i]?<;>rfl
 rw[N]at r;have ⟨S,R,C⟩:=iJ (y:=y) (n:=n) (v:=x) q hn c7 (by rw[gM];exact O) E r.symm;have g:∀b,b≠(j k).b->S.get b=m.get b:=λb p=>by rw[C.get,Mem.aX,af (λe=>p e.symm)]
 have G:S.get (j k).b=some (.cells (cells j k (l.take y++x.cells.toList.map Cl.v++l.drop (y+n))) (j k).ver 0 false ty):=by rw[C.get,Mem.aX,ah rfl]
 have B:S.next=m.next:=by rw[C.next,Mem.ij]
 have H:S.low=min m.low (j k).b:=by rw[C.low,Mem.kI]
 have d:∀u,X.set k (some (.c (l.take y++x.cells.toList.map .v++l.drop (y+n)))) u≠none->X u≠none:=λu f=>by
  by_cases e:u=k
  ·grind
  ·rwa[NX.aE _ _ e]at f
 have A:∀(i n' sz:Nat),(l.take y++x.cells.toList.map Cl.v++l.drop (y+n))[i]?=some (Cl.s n' sz)->l[i]?=some (Cl.s n' sz):=by
  intro i n' sz hi;have e1:(l.take y).length=y:=cF;rw[FA,e1,F]at hi;by_cases a:i<y
  ·rwa[ah a,jP,ah a]at hi
  ·rw[af a]at hi;by_cases b:i<y+n
   ·rw[ah b,gX]at hi;cases J:x.cells.toList[i-y]? with
    |none=>rw[J]at hi;cases hi
    |some g8=>rw[J]at hi;cases hi
   ·rw[af b,lz]at hi;rwa[show y+n+(i-y-n)=i by omega]at hi
 have t:∀(i n' sz:Nat),l[i]?=some (Cl.s n' sz)->(l.take y++x.cells.toList.map Cl.v++l.drop (y+n))[i]?=some (Cl.s n' sz):=by
  intro i n' sz hi;have e1:(l.take y).length=y:=cF;rw[FA,e1,F];by_cases a:i<y
  ·rw[ah a,jP,ah a];exact hi
  ·rw[af a];by_cases b:i<y+n
   ·have ⟨g8,hy⟩:=P i aa b;rw[hy]at hi;cases hi
   ·rw[af b,lz,show y+n+(i-y-n)=i by omega];exact hi
 refine⟨S,R,?_,⟨aa,aa,?_,?_,?_,?_,.inl ⟨k,by rw[hk];simp,aa⟩⟩,B,aa⟩
 ·exact{
   inj:=λa b ha p e=>h.inj a b (d a ha) (d b p) e
   hi:=λa ha=>by rw[B];exact h.hi a (d a ha)
   r2:=λa ha=>h.r2 a (d a ha)
   at':=λa ob ha=>by
    by_cases e:a=k
    ·subst e;rw[NX.aR]at ha;cases ha;exact⟨ty,G⟩
    ·rw[NX.aE _ _ e]at ha;have p:(j a).b≠(j k).b:=λe2=>e (h.inj a k (by rw[ha];simp) (by rw[hk];simp) e2);have:=h.at' a ob ha;cases ob with
     |c l2=>obtain⟨I,U⟩:=this;exact⟨I,by rw[g _ p];exact U⟩
     |m Y cl=>show S.get _=_;rw[g _ p];exact this
   ok:=λa l2 ha=>by
    by_cases e:a=k
    ·subst e;rw[NX.aR]at ha;cases ha;have:=h.ok _ _ hk;rw[cL]at this E;simp only[M3,bT,cL];refine⟨⟨λc z=>this c (wL z),λc z=>?_⟩,λc z=>this c (FU z)⟩;obtain⟨g8,hy,rfl⟩:=mz.mp z;exact E g8 hy
    ·rw[NX.aE _ _ e]at ha;exact h.ok a l2 ha
   ow:=λa l2 i n' sz ha hi=>by
    have key:∃l3,X a=some (.c l3)/\l3[i]?=some (Cl.s n' sz):=by
     by_cases e:a=k
     ·subst e;rw[NX.aR]at ha;cases ha;exact⟨l,hk,A i n' sz hi⟩
     ·rw[NX.aE _ _ e]at ha;exact⟨l2,ha,hi⟩
    obtain⟨l3,w1,w2⟩:=key;have ⟨D,w4,w⟩:=h.ow a l3 i n' sz w1 w2;refine⟨D,w4,?_⟩;by_cases K:n'=0
    ·rw[ah K]at w|-;have:(i::a)≠k:=λe=>by rw[e,hk]at w;cases w
     rwa[NX.aE _ _ this]
    ·rw[af K]at w|-;obtain⟨T,w6,V⟩:=w;by_cases e:(i::a)=k
     ·rw[e,NX.aR];rw[e,hk]at w6;cases w6;exact⟨_,rfl,cF⟩
     ·rw[NX.aE _ _ e];exact⟨T,w6,V⟩
   par:=λi M a ha=>by
    obtain⟨l3,n',sz,w1,w2,D⟩:=h.par i M a (d _ ha);by_cases e:(M::a)=k
    ·rw[e,hk]at w1;cases w1;exact⟨_,n',sz,by rw[e,NX.aR],t i n' sz w2,D⟩
    ·exact⟨l3,n',sz,by rwa[NX.aE _ _ e],w2,D⟩ }
 ·intro g8 Z y2 W;have:=W k (by rw[hk];simp);omega
 ·intro b p f;exact g b λe=>f k (by rw[hk];simp) e.symm
 ·intro b p;by_cases e:b=(j k).b
  ·exact .inl (by rw[H,e];exact tG _ _)
  ·exact .inr (g b e)
 ·exact λu f=>.inr ⟨u,d u f,rfl⟩
def Xug{b len ver}{new:List ae}(h:m.get b=some (.cells c ver 0 false ty))(i:m.get b2=some (.cells new 0 zb3 zb4 ty2))(hn:new.length=size)(g:new.all one=true)(l:1<=size)(k:len*size=c.length)(j:fits (len+1) bytes=true) :
  dn e size bytes (.slice (some ⟨b,0,some size⟩) len (2*ver+1)) (.slice (some ⟨b2,0,some size⟩) 1 1) m=some (.slice (some ⟨m.next,0,some size⟩) (len+1) 0,m.push (.cells (c++new) 0 0 false (some (2*e)))):=by
 refine uA ?_;unfold fP j5;have a:Nat.ble 1 size=true:=eE.mpr l;have d:(2*ver+1) / 2=ver:=aa;have e5:Nat.ble (len*size) c.length=true:=eE.mpr aa;have f:(2*ver+1)%2=1:=aa;simp only[kC,KZ i hn,g,a,nG,iQ,dp,dV,h,aQ,d,tH,e5,j,tI,f,dW,YQ,mA];rw[k,tJ]
def Lr{L}{new:List ae}(h:n≠0->m.get L.b=some (.cells c L.ver 0 false ty))(v:n≠0->L.r<2)(t:c.length=n*size)(k:m.get b2=some (.cells new 0 zb3 zb4 ty2))(hn:new.length=size)(j:new.all one=true)(q:1<=size)(l:fits (n+1) bytes=true) :
  ∃a s S,dn e size bytes (ax L n size) (.slice (some ⟨b2,0,some size⟩) 1 1) m=some (ax a (n+1) size,S)/\S.get a.b=some (.cells (c++new) a.ver 0 false s)/\a.r<2/\(∀b,b<m.next->b≠a.b->S.get b=m.get b) /\
   ((a.b=L.b/\n≠0/\S.next=m.next/\S.low=min m.low L.b)\/(a.b=m.next/\S.next=m.next+1/\S.low=m.low)):=by
 by_cases g:n=0
 ·subst g;have:c=[]:=oQ aa;subst this;refine⟨⟨m.next,0,0⟩,some (2*e),m.push (.cells new 0 0 false (some (2*e))),?_,?_,ar,?_,.inr ⟨rfl,rfl,rfl⟩⟩
  ·exact Xui k hn j q l
  ·show(m.push _).get m.next=_;rw[Mem.bV,ah rfl];rfl
  ·intro b f d;rw[Mem.bV,af aa]
 ·have h:=h g;have e0:ax L n size=.slice (some ⟨L.b,0,some size⟩) n (2*L.ver+L.r):=af g;have:L.r=0\/L.r=1:=by omega
  rcases this with o|p
  ·have ⟨S,u,i⟩:=XaP (e:=e) (bytes:=bytes) (len:=n) (size:=size) h k hn j q c7 aa l;refine⟨⟨L.b,L.ver+1,0⟩,pF ty (2*e),S,?_,?_,ar,?_,.inl ⟨rfl,g,by rw[i.next,Mem.ij],by rw[i.low,Mem.kI]⟩⟩
   ·rwa[e0,o]
   ·show S.get L.b=_;rw[i.get,Mem.aX,ah rfl,<-t,tJ]
   ·intro b f d;rw[i.get,Mem.aX,af (λe=>d e.symm)]
  ·refine⟨⟨m.next,0,0⟩,some (2*e),m.push (.cells (c++new) 0 0 false (some (2*e))),?_,?_,ar,?_,.inr ⟨rfl,rfl,rfl⟩⟩
   ·rw[e0,p];exact Xug h k hn j q aa l
   ·show(m.push _).get m.next=_;rw[Mem.bV,ah rfl]
   ·intro b f d;rw[Mem.bV,af aa]
theorem fQ(y)(k:Key):y::k≠k:=λe=>by simp_all
def uq(i y)(k:Key):i::y::k≠k:=λe=>by
 have:=jQ List.length e
 grind
def Cl.new:Cl->Bool
 |.v x=>one x
 |.s n a=>Nat.beq n 0&&Nat.blt 0 a
def Xv5(j k y):∀c,c.new=true->cv j k y c=(match c with|.v x=>x|.s _ _=>.slice none 0 0)
 |.v _,_=>rfl
 |.s n a,h=>by simp only[Cl.new,bT]at h;have:n=0:=wM h.1;subst this;rfl
def Cl.raw:Cl->ae
 |.v x=>x
 |.s _ _=>.slice none 0 0
def Xrz{j k l cs}(h:cs.all Cl.new=true):cells j k (l++cs)=cells j k l++cs.map Cl.raw:=by
 apply fk;intro i;rw[Xn];by_cases hi:i<l.length
 ·rw[uU hi,uU (by rw[gM];exact hi),Xn]
 ·rw[lB aa,lB Nl,gM,gX];cases a:cs[i-l.length]? with
  |none=>rfl
  |some c =>have:=cL.mp h c (jO a);show some _=some _;rw[Xv5 _ _ _ _ this];cases c<;>rfl
def bz(X:NX)(k:Key):List Cl:=match X k with|some (.c l)=>l|_=>[]
def NR.app{j X}(h:NR o m j X){k l cs sz}(R:X k=some (.c l))(ho:l[y]?=some (.s n sz))(h2:m.get b2=some (.cells (cs.map Cl.raw) 0 zb3 zb4 ty2))(hn:cs.length=sz)(r:cs.all Cl.new=true)(hb:fits (n+1) bytes=true) :
  ∃v' I w H1,dn e sz bytes (cv j k y (.s n sz)) (.slice (some ⟨b2,0,some sz⟩) 1 1) m=some (v',I)/\Xe 1 (pt (j k).b y (j k).ver) v' I=some w /\
   NR (max o (n+1)) w H1 ((X.set (y::k) (some (.c (bz X (y::k)++cs)))).set k (some (.c (l.set y (.s (n+1) sz))))) /\
   Wk m j X w H1 ((X.set (y::k) (some (.c (bz X (y::k)++cs)))).set k (some (.c (l.set y (.s (n+1) sz))))) /\
   (∀J,J≠y::k->H1 J=j J)/\(∀J,X J≠none->J≠y::k->H1 J=j J)/\w.low<=(j k).b/\(∀a,X a≠none->a≠y::k->I.get (j a).b=m.get (j a).b):=by
 obtain⟨w1,w2,w3⟩:=h.ow k l y n sz R ho;obtain⟨T,b4⟩:=h.at' k _ R;have S:y<l.length:=by grind
 have a5:n≠0->∃F,X (y::k)=some (.c F)/\F.length=n*sz:=λe=>by rwa[af e]at w3
 have a2:(bz X (y::k)).length=n*sz:=by
  unfold bz;by_cases u:n=0
  ·grind
  ·grind
 have A:n≠0->X (y::k)=some (.c (bz X (y::k))):=λu=>by obtain⟨F,K,q2⟩:=a5 u;unfold bz;rw[K]
 have a3:(cs.map Cl.raw).all one=true:=by
  rw[cL]at r|-;intro x hx;obtain⟨c,U,rfl⟩:=mz.mp hx;have:=r c U;cases c with
  |v g8=>exact this
  |s _ _=>rfl
 have b3:∀c∈cs,c.ok=true:=λc U=>by
  have:=cL.mp r c U;cases c with
  |v g8=>trivial
  |s _ _=>rfl
 have a8:n≠0->∃ty,m.get (j (y::k)).b=some (.cells (cells j (y::k) (bz X (y::k))) (j (y::k)).ver 0 false ty):=λu=>h.at' _ _ (A u);have al:∃ty,n≠0->m.get (j (y::k)).b=some (.cells (cells j (y::k) (bz X (y::k))) (j (y::k)).ver 0 false ty):=by
  by_cases u:n=0
  ·simp_all
  ·grind
 obtain⟨ty,ab⟩:=al;have ⟨g,am,I,k1,k2,k3,k4,k5⟩:=Lr (e:=e) (bytes:=bytes) (L:=j (y::k)) (n:=n) (size:=sz) (c:=cells j (y::k) (bz X (y::k))) (new:=cs.map Cl.raw) ab (λu=>h.r2 _ (by rw[A u];simp)) (by rwa[gM]) h2 aq a3 w2 hb;have b1:(j k).b<m.next:=h.hi k (by rw[R];simp);have Y:(j k).b≠g.b:=by
  rcases k5 with⟨e1,e2,_⟩|⟨e1,_⟩
  ·rw[e1];intro O;exact fQ y k (h.inj k (y::k) (by rw[R];simp) aq O).symm
  ·omega
 have a0:I.get (j k).b=some (.cells (cells j k l) (j k).ver 0 false T):=aq;have b5:(ax g (n+1) sz).cells=#[ax g (n+1) sz]:=bY;have aB:(cells j k l).take y++[ax g (n+1) sz]++(cells j k l).drop (y+1)=(cells j k l).set y (ax g (n+1) sz):=by simp[YR,ah,gM,S]
 obtain⟨w,s1,s2⟩:=iJ (y:=y) (n:=1) (v:=ax g (n+1) sz) (c':=(cells j k l).set y (ax g (n+1) sz)) a0 bY c7 Nl bY aq;have Z:∀b,b≠(j k).b->w.get b=I.get b:=λb z=>by rw[s2.get,Mem.aX,af (λe=>z e.symm)]
 have aw:w.get (j k).b=some (.cells ((cells j k l).set y (ax g (n+1) sz)) (j k).ver 0 false T):=by rw[s2.get,Mem.aX,ah rfl]
 have a1:w.next=I.next:=by rw[s2.next,Mem.ij]
 have aA:w.low=min I.low (j k).b:=by rw[s2.low,Mem.kI]
 have a4:g.b<w.next:=by
  rw[a1];rcases k5 with⟨e1,e2,O,_⟩|⟨e1,e2,_⟩
  ·simp[e1,O,h.hi,A,e2]
  ·omega
 have W:∀a,X a≠none->a≠y::k->(j a).b≠g.b:=λa d t=>by
  rcases k5 with⟨e1,e2,_⟩|⟨e1,_⟩
  ·rw[e1];exact λe=>t (h.inj a _ d aq e)
  ·have:=h.hi a d;omega
 have b0:(j.set _ g) k=j k:=ay.aE _ _ (λe=>fQ y k e.symm);have a7:∀a l2,a≠k->cells (j.set (y::k) g) a l2=cells j a l2:=λa l2 t=>U7 λi V D _ _=>ay.aE _ _ (λe=>t aq);have av:cells (j.set (y::k) g) k (l.set y (.s (n+1) sz))=(cells j k l).set y (ax g (n+1) sz):=by
  apply fk;intro i;rw[Xn,du,du,Xn,gM];by_cases e:y=i
  ·subst e;rw[ah rfl,ah rfl,ah S,ah S];show some (ax _ _ sz)=_;rw[ay.aR]
  ·rw[af e,af e];cases U:l[i]? with
   |none=>rfl
   |some c =>
    cases c with
    |v x=>rfl
    |s V D =>show some (ax _ V D)=some (ax _ V D);rw[ay.aE _ _ (λe2=>e aq)]
 let M:NX:=(X.set (y::k) (some (.c (bz X (y::k)++cs)))).set k (some (.c (l.set y (.s (n+1) sz))));have G:M k=some _:=NX.aR _ _ _;have N:M (y::k)=some (.c (bz X (y::k)++cs)):=by grind[NX.set,NX.aE,fQ,NX.aR]
 have H:∀a,a≠k->a≠y::k->M a=X a:=λa h1 h2=>by show(NX.set _ _ _) _=_;rw[NX.aE _ _ h1,NX.aE _ _ h2]
 have X'd:∀a,M a≠none->a≠y::k->X a≠none:=λa d t=>by grind
 have f:∀a,a≠y::k->(j.set _ g) a=j a:=λa d=>ay.aE _ _ d;refine⟨ax g _ sz,I,w,j.set _ g,k1,s1,?_,?_,λa d=>f a d,λa _ d=>f a d,aa,λa d t=>k4 _ (h.hi a d) (W a d t)⟩
 ·show NR _ _ _ M;exact{
   inj:=λa b d z e=>by
    by_cases e1:a=y::k
    ·by_cases e2:b=y::k
     ·grind
     ·rw[e1,ay.aR,f b e2]at e
      grind
    ·by_cases e2:b=y::k
     ·rw[e2,ay.aR,f a e1]at e
      grind
     ·rw[f a e1,f b e2]at e;exact h.inj a b (X'd a d e1) (X'd b z e2) e
   hi:=λa d=>by
    by_cases e1:a=y::k
    ·rwa[e1,ay.aR]
    ·rw[f a e1];have:=h.hi a (X'd a d e1);omega
   r2:=λa d=>by
    by_cases e1:a=y::k
    ·rwa[e1,ay.aR]
    ·simp[f,e1,h.r2,X'd,d]
   at':=λa ob d=>by
    by_cases e1:a=k
    ·subst e1;rw[G]at d;cases d;refine⟨T,?_⟩
     grind
    ·by_cases e2:a=y::k
     ·rw[e2,N]at d;cases d;subst e2;refine⟨am,?_⟩;rwa[ay.aR,a7 _ _ (fQ y k),Xrz r,Z _ (λe=>Y e.symm)]
     ·rw[H a e1 e2]at d;have P:X a≠none:=by rw[d];simp
      have a6:(j a).b≠(j k).b:=λe=>e1 (h.inj a k P aq e);have a9:w.get (j a).b=m.get (j a).b:=by rw[Z _ a6,k4 _ (h.hi a P) (W a P e2)]
      have:=h.at' a ob d;cases ob with
      |c l2 =>
       obtain⟨an,C⟩:=this;refine⟨an,?_⟩
       grind
      |m es cl =>show w.get _=_;rw[f a e2,a9];trivial
   ok:=λa l2 d=>by
    by_cases e1:a=k
    ·subst e1;rw[G]at d;cases d;have:=h.ok _ _ R;rw[cL]at this|-;intro c U;rcases M4 U with q|q
     ·grind
     ·rw[q];rfl
    ·by_cases e2:a=y::k
     ·rw[e2,N]at d;cases d;rw[M3,bT];refine⟨?_,aq⟩;by_cases u:n=0
      ·grind
      ·exact h.ok _ _ (A u)
     ·rw[H a e1 e2]at d;exact h.ok a l2 d
   ow:=λa l2 i V D d hi=>by
    have grow:∀p B E,p≠k->p≠y::k->(if B=0 then X p=none else ∃F,X p=some (.c F)/\F.length=B*E)->(if B=0 then M p=none else ∃F,M p=some (.c F)/\F.length=B*E):=λp B E p1 p2 hh=>aq;by_cases e1:a=k
    ·subst e1;rw[G]at d;cases d;rw[du]at hi;by_cases e2:y=i
     ·grind
     ·rw[af e2]at hi;have ⟨K,q2,C⟩:=h.ow _ _ _ _ _ R hi;exact⟨aO K (B9 _ _),q2,grow _ _ _ (fQ i _) (λe=>e2 aq) C⟩
    ·by_cases e2:a=y::k
     ·subst e2;rw[N]at d;cases d;by_cases ac:i<(bz X (y::k)).length
      ·rw[uU ac]at hi;have u:n≠0:=λu=>by grind
       have ⟨K,q2,C⟩:=h.ow _ _ _ _ _ (A u) hi;exact⟨aO K (B9 _ _),q2,grow _ _ _ (uq i y k) (fQ i _) C⟩
      ·rw[lB aa]at hi;have Q:=cL.mp r _ (jO hi);simp only[Cl.new,bT]at Q;have ag:V=0:=wM Q.1;have hs0:0<D:=by simpa using Q.2
       refine⟨aa,hs0,?_⟩;rw[ah ag,H _ (uq i y k) (fQ i _)];cases b6:X (i::y::k)with
       |none=>rfl
       |some ob =>
        obtain⟨l5,n5,sz5,z1,z2,z3⟩:=h.par i y k aq
        grind
     ·rw[H a e1 e2]at d;have ⟨K,q2,C⟩:=h.ow _ _ _ _ _ d hi;have:i::a≠y::k:=λe=>by grind
      by_cases O:i::a=k
      ·refine⟨aO K (B9 _ _),q2,?_⟩;rw[O,G];rw[O,R]at C;by_cases u:V=0
       ·rw[ah u]at C;cases C
       ·rw[af u]at C|-;obtain⟨F,q4,q5⟩:=C;cases q4;exact⟨_,rfl,by rwa[uV]⟩
      ·exact⟨aO K (B9 _ _),q2,grow _ _ _ O this C⟩
   par:=λi i6 a d=>by
    by_cases e1:i::i6::a=y::k
    ·grind
    ·obtain⟨l5,n5,sz5,z1,z2,z3⟩:=h.par i i6 a (X'd _ d e1);by_cases e2:i6::a=k
     ·grind
     grind }
 ·show Wk _ _ _ _ _ M;exact{
   next:=aa
   low:=aa
   bQ:=λx y1 y2 y3=>by grind
   get:=λb z t=>by grind
   lo:=λb z=>by grind
   nw:=λa d=>by
    by_cases e1:a=y::k
    ·rw[e1,ay.aR]
     grind
    grind
   kp:=.inl ⟨k,aq,aa⟩ }
end Go.Ab
namespace Go.Ab
open Go Go.Sort
def isInt(y:Option ae):Bool:=match y with|some (.int .i64 _)=>true|_=>false
def intOf(y:Option ae):Int:=match y with|some (.int .i64 z)=>z|_=>0
def pv(x g8:Int):Int:=if x<g8 then -1 else if g8<x then 1 else 0
def keyOf(cs:List ae)(y n i:Nat):Int:=if i<n then intOf cs[y+i*15]? else 0
def gK(cs:List ae)(y n:Nat):Array Nat:=pdq (λi a=>decide (pv (keyOf cs y n i) (keyOf cs y n a)<0)) (Array.range n) 0 n (Go.Lib.bitLen n) true true
def oO(cs:List ae)(y n:Nat):List ae:=cs.take y++((gK cs y n).toList.flatMap λi=>(cs.drop (y+i*15)).take 15)++cs.drop (y+n*15)
def LG(f0 j:FuncId):Over:=λf d m=>match d with
 | [.slice s n t,.func (.func g) a c]=>if f=f0/\g=j/\a.toList=[]/\c.toList=[]then
   match n with
   |0=>some (.tuple ⟨[]⟩,m)
   | n+1=>match s with
    |none=>none
    | some ⟨b,y,h⟩=>if h=some 15/\n<4611686018427387903 then
      match m.get b with
      |some (.cells cs ver e ro ty) =>if ro=false/\e<=y/\t / 2=ver/\y+(n+1)*15<=cs.length/\cs.all one=true/\(∀i,i<n+1->isInt cs[y+i*15]?=true)then some (.tuple ⟨[]⟩,m.put b (.cells (oO cs y (n+1)) ver e ro ty))else none
      |_=>none
     else none
  else none
 |_=>none
end Go.Ab
namespace Go.Ab
open Go
abbrev ai:=List UInt8
def sv(l:ai):ae:=.string ⟨⟨l⟩⟩
def fC(l:ai):Value.string ⟨List.toArray l⟩=sv l:=rfl
abbrev I(z:Int):ae:=.int .i64 z
theorem Qb(c g k a b):bin .lss c g .int (.int k a) (.int k b)=some (.bool (decide (a<b))):=zt
def kx(c g k a b):bin .leq c g .int (.int k a) (.int k b)=some (.bool (decide (a<=b))):=zt
def iT(c g k a b):bin .gtr c g .int (.int k a) (.int k b)=some (.bool (decide (b<a))):=zt
theorem sF(c g k a b):bin .geq c g .int (.int k a) (.int k b)=some (.bool (decide (b<=a))):=zt
def dI(c g k a b):bin .eql c g .int (.int k a) (.int k b)=some (.bool (decide (a=b))):=by rw[lH];by_cases h:a=b<;>simp[mq,h]
theorem eg(c g k a b):bin .neq c g .int (.int k a) (.int k b)=some (.bool (decide (a≠b))):=by rw[lH];by_cases h:a=b<;>simp[mq,h]
theorem cz(c g k a b):bin .add c g .int (.int k a) (.int k b)=some (.int k (k.wrap (a+b))):=zt
theorem kP(c g k a b):bin .sub c g .int (.int k a) (.int k b)=some (.int k (k.wrap (a-b))):=zt
def zJ(c g k a b):bin .mul c g .int (.int k a) (.int k b)=some (.int k (k.wrap (a*b))):=zt
def zL(c g k a b)(h:b≠0):bin .quo c g .int (.int k a) (.int k b)=some (.int k (k.wrap (a.tdiv b))):=by rw[lH];simp[mq,h]
theorem zK(c g k a b)(h:b≠0):bin .rem c g .int (.int k a) (.int k b)=some (.int k (a.tmod b)):=by rw[lH];simp[mq,h]
def Qh(c g a b):bin .eql c g .str (sv a) (sv b)=some (.bool (decide (a=b))):=by rw[lH];show some (Value.bool (a==b))=_;grind
def uf(c g a b):bin .neq c g .str (sv a) (sv b)=some (.bool (decide (a≠b))):=by rw[lH];show some (Value.bool (!(a==b)))=_;grind
def Qu(c g a b)(h:a.length+b.length<4611686018427387904):bin .add c g .str (sv a) (sv b)=some (sv (a++b)):=by rw[lH];show(if a.length+b.length<2^62 then some (Value.string ⟨(a++b).toArray⟩)else none)=_;rw[ah aa];rfl
def dw(l m):aM 0 (sv l) m=some (.int .i64 l.length):=bY
def iu(l k)(i:Nat)(h:i<l.length):Xi (sv l) (.int k (i:Int))=some (.int .u8 ((l[i]).toNat:Int)):=by
 rw[Xdx];show(if(0:Int)<=(i)then(match l[(i:Int).toNat]? with|some b=>some _|none=>none)else none)=_
 grind
def Xf{c}(p)[Decidable p](a b:Option c):ke (.bool (decide p)) a b=if p then a else b:=by
 by_cases h:p
 ·rw[ah h,bj h];rfl
 ·rw[af h,bJ h];rfl
def BB{d}(c)(a b:Option d):ke (.bool c) a b=if c=true then a else b:=by cases c<;>rfl
def dy(x:ae)(l:List ae):yd (.tuple ⟨x::l⟩) 0=some x:=bY
def dK(x g8:ae)(l:List ae):yd (.tuple ⟨x::g8::l⟩) 1=some g8:=bY
def pz(x g8 z:ae)(l:List ae):yd (.tuple ⟨x::g8::z::l⟩) 2=some z:=bY
theorem dS(k b a)(m:aj):conv (.int b) (.int k a) m=some (.int b (b.wrap a),m):=rfl
def cK(m:aj)(x:Option Rs):Option Rs:=match x with|some (v,a)=>some (gc m v a)|none=>none
def jV{m m1 v}{x:Option Rs}(c:x=some (v,m1))(a:Fr [] (aD m m.next) m1)(b:refs m.next 8 v=true):cK m x=some (v,m):=by subst c;unfold cK;simp only;rw[sT];unfold qt;rw[eE.mpr (a.bQ m.next aY aY ar),b];rfl
end Go.Ab
namespace Go.Ab.Sh
open Go Go.Ab
def El:Over:=Wc zT MA
def Gq:Over:=WS D9 cntF
def NI:Over:=W1 qV
def Gr:Over:=XE vw Qz
def Gu:Over:=orElse (uO Qv Qz 16 16) (uO Qv Qz 8 8)
def NJ:Over:=XT xH
def Uq:Over:=XL CF .u8 λs c=>some (Lk s c)
def Cw:Over:=LG NV Ec
def oL:Tr Over:=(.node none (.node none (.node none (.node none (.node none .nil (.node none (.node none (.node (some NI) .nil .nil) .nil) .nil)) .nil) (.node none (.node none (.node none .nil (.node none (.node (some Uq) .nil .nil) .nil)) .nil) .nil)) (.node none (.node none (.node none .nil (.node none (.node none (.node (some Gr) .nil .nil) .nil) .nil)) (.node none (.node none (.node (some NJ) .nil .nil) .nil) .nil)) (.node none .nil (.node none .nil (.node none .nil (.node (some Gq) .nil .nil)))))) (.node none (.node none .nil (.node (some Cw) .nil .nil)) (.node none (.node none (.node none (.node none (.node none (.node (some El) .nil .nil) .nil) .nil) .nil) .nil) (.node none .nil (.node none (.node none .nil (.node none (.node (some Gu) .nil .nil) .nil)) .nil)))))
def TA(n:Nat):fo:=zd fns (MO oL) 18446744073709551616 n
abbrev aH(d:Nat):Gt:=⟨TA d,18446744073709551616⟩
def LQ{f e}(b:oL.get (f+1)=none)(c:fns.get (f+1)=some e)(g:Nat.beq e.f f=true)(d a m):TA (d+1) f a m=cK m (e.h (aH d) a (aD m m.next)):=by unfold TA;rw[VH,WN,b];simp only[c,g];rfl
def uF{f y r}(b:oL.get (f+1)=some y){a m}(h:y f a m=some r)(d):TA d f a m=some r:=by
 have c:MO oL f a m=some r:=by rw[WN,b];exact h
 unfold TA;cases d with
 |zero=>assumption
 |succ d=>rw[VH,c]
end Go.Ab.Sh
namespace Go.Ab
open Go
variable {X:NX}{o:Nat}{k:Key}{l:List ai}{m:Mem}{v:Value}{x:Option Rs}{j:ay}
def NR.aD{o}{m:aj}{j X}(h:NR o m j X)(l):NR o (aD m l) j X:=h.same aY λ_ _=>rfl
def NR.call{A m1 p f}(h:NR o m j X)(E:x=some (v,m1))(t:NR A m1 p f)(d:Wk (Go.Ab.aD m m.next) j X m1 p f) :
  ∃i,cK m x=some (v,i)/\NR A i p f/\Wk m j X i p f:=by
 subst E;have e:∀z i,gc m v m1=(z,i)->cK m (some (v,m1))=some (z,i):=λz i h=>gS;cases r:Nat.ble m.next m1.low&&refs m.next 8 v
 ·refine⟨Go.Ab.aD m1 (min m.low m1.low),e _ _ ?_,t.aD _,?_⟩
  ·simp[sT,qt,r]
  ·exact{
    next:=d.next
    low:=wN _ _
    bQ:=λB a b c=>by have:=d.bQ B b b c;show B<=min _ _;omega
    get:=d.get
    lo:=λb n=>by
     rcases d.lo b n with q|q
     ·exact .inl (aO (tG _ _) q)
     ·exact .inr q
    nw:=d.nw
    kp:=by
     rcases d.kp with⟨k,a,b⟩|q
     ·exact .inl ⟨k,a,aO (tG _ _) b⟩
     ·grind }
 ·refine⟨m,e _ _ ?_,?_,?_⟩
  ·simp[sT,qt,r]
  all_goals
   simp only[bT]at r;have C:m.next<=m1.low:=oS r.1;have D:∀b,b<m.next->m1.get b=m.get b:=λb n=>by
    rcases d.lo b n with q|q
    ·omega
    trivial
   have s:(∀k,f k≠none->p k=j k)/\∀k,f k≠none->X k≠none:=by
    rcases d.kp with⟨k,a,b⟩|q
    ·have:=h.hi k a;omega
    ·exact q
   have n:∀k,f k≠none->(p k).b<m.next:=λk g=>by simp[s.1,g,h.hi,s.2]
  ·exact{ t with
    hi:=n
    at':=λk y w=>by
     have:=t.at' k y w;cases y with
     |c l=>obtain⟨ty,q⟩:=this;exact⟨ty,aq⟩
     |m F cl=>show m.get _=_;rw[<-D _ (n k aq)];trivial }
  ·exact⟨c6 _,c6 _,λ_ h _ _=>h,λ_ _ _=>rfl,λ_ _=>.inr rfl,λk g=>.inr ⟨k,s.2 k g,aq⟩,.inr s⟩
def dx(L n sz m):aM 1 (ax L n sz) m=some (I n):=by grind[ax,XhL]
def eU(L)(a:L.r<2)(n sz i k)(h:i<n):Xd sz (ax L n sz) (.int k (i:Int))=some (pt L.b (i*sz) L.ver):=by
 unfold ax;rw[af aa,Ko];show(match Nat.blt i n&&yr (some sz) sz with|true=>_|false=>_)=_
 rw[qH.mpr h,xT];simp only[M5,nG]
 grind
def lO:List ai->Nat->List (ae × ae × Nat)
 |[],_=>[]
 |s::l,i=>(sv s,.bool true,i)::lO l (i+1)
def Xoz:∀l s i,lO (l++[s]) i=lO l i++[(sv s,.bool true,i+l.length)]
 |[],_,_=>rfl
 |a::l,s,i=>by
  show _::lO (l++[s]) _=_;rw[Xoz l s _];show _=(_::lO l _)++_
  grind
def LD(a b):bS .str (sv a) (sv b)=some (decide (a=b)):=by
 show some (a==b)=_
 grind
def We:∀l s i b,s∉l->om .str (sv s) (lO l i) b=some none
 |[],_,_,_,_=>rfl
 |a::l,s,i,b,h=>by
  have c:s≠a:=λe=>h aq;show(match bS _ _ _ with|some true=>_|some false=>_|none=>_)=_
  rw[LD,bJ c];exact We l s _ _ (λe=>h (gC _ e))
def VI:∀l s i b,s∈l->∃q,om .str (sv s) (lO l i) b=some (some (b+q))/\(lO l i)[q]?=some (sv s,.bool true,i+q)
 |[],_,_,_,h=>by cases h
 |a::l,s,i,b,h=>by
  by_cases e:s=a
  ·subst e;exact⟨0,by simp only[lO,om,LD];rfl,rfl⟩
  ·have c:s∈l:=by
    rcases eF.mp h with q|q
    ·grind
    ·exact q
   obtain⟨q,d,f⟩:=VI l s (i+1) (b+1) c;refine⟨q+1,?_,?_⟩
   ·simp only[lO,om,LD,bJ e]
    grind
   ·show(lO l _)[q]?=_
    grind
abbrev rM(b:Nat):ae:=.map (some b)
def XQ(s):pG (sv s) (sv s)=true:=by simp[pG,uT,sv]
def Xwa(s):bS .str (sv s) (sv s)=some true:=by rw[LD,bj rfl]
def lv(l:List ai):NO:=.m (lO l 0) l.length
def kg(l:List ai)(s:ai):List ai:=if s∈l then l else l++[s]
def NR.look(h:NR o m j X)(a:X k=some (lv l))(s):uu .str (.bool false) false (rM (j k).b) (sv s) m=some (.bool (decide (s∈l))):=by
 have c:m.get _=some _:=h.at' k _ a;unfold uu;simp only[XQ,Xwa,nG,dW,c,AW];by_cases e:s∈l
 ·obtain⟨q,d,f⟩:=VI l s 0 0 e;rw[d];simp only[aQ,f,bj e];rfl
 ·rw[We l s 0 0 e,bJ e];rfl
def NR.insert(h:NR o m j X)(r:X k=some (lv l))(s) :
  ∃S,vE .str (rM (j k).b) (sv s) (.bool true) m=some S/\NR o S j (X.set k (some (lv (kg l s))))/\Wk m j X S j (X.set k (some (lv (kg l s)))):=by
 have z:m.get _=some _:=h.at' k _ r;have u:vE .str (rM (j k).b) (sv s) (.bool true) m=some (m.put (j k).b (.map (lO (kg l s) 0) (kg l s).length)):=by
  unfold vE;simp only[XQ,Xwa,nG,dW,z,AW];unfold kg;by_cases e:s∈l
  ·obtain⟨q,B,p⟩:=VI l s 0 0 e;rw[B,ah e];simp only[aQ,p,XQ,dW];rw[aQ]at p;have:(lO l 0).set q (sv s,.bool true,q)=lO l 0:=by
    apply fk;intro i;rw[du];by_cases e2:q=i
    ·grind
    ·grind
   rw[this]
  ·rw[We l s 0 0 e,af e];rw[Xoz];simp
 refine⟨_,u,?_,?_⟩
 ·have f:∀n,X.set k (some (lv (kg l s))) n≠none->X n≠none:=λn t=>by
   by_cases e:n=k
   ·grind
   ·rwa[NX.aE _ _ e]at t
  have w:∀a l2,X.set k (some (lv (kg l s))) a=some (.c l2)->X a=some _:=λa l2 d=>by
   by_cases e:a=k
   ·rw[e,NX.aR]at d;cases d
   ·rwa[NX.aE _ _ e]at d
  have y:∀a l2,X a=some (.c l2)->X.set k (some (lv (kg l s))) a=some _:=λa l2 d=>by
   by_cases e:a=k
   ·rw[e,r]at d;cases d
   ·rwa[NX.aE _ _ e]
  exact{
   inj:=λa b d g e=>h.inj a b (f a d) (f b g) e
   hi:=λa d=>by rw[Mem.ij];exact h.hi a (f a d)
   r2:=λa d=>h.r2 a (f a d)
   at':=λa ob d=>by
    by_cases e:a=k
    ·subst e;rw[NX.aR]at d;cases d;show(m.put _ _).get _=_;rw[Mem.aX,ah rfl]
    ·rw[NX.aE _ _ e]at d;have g:(j k).b≠(j a).b:=λe2=>e (h.inj a k aq aq e2.symm);have:=h.at' a ob d;cases ob with
     |c l2=>obtain⟨v,p⟩:=this;exact⟨v,by rw[Mem.aX,af g];exact p⟩
     |m D cl=>show(m.put _ _).get _=_;rw[Mem.aX,af g];trivial
   ok:=λa l2 d=>h.ok a l2 (w a l2 d)
   ow:=λa l2 i n' sz d hi=>by
    obtain⟨C,w4,E⟩:=h.ow a l2 i n' sz (w a l2 d) hi
    grind
   par:=λi A a d=>by
    obtain⟨l3,n',sz,w1,w2,C⟩:=h.par i A a (f _ d)
    grind }
 ·exact{
   next:=ar
   low:=by simp[wN]
   bQ:=λx F G H=>by
    rw[Mem.kI]
    grind
   get:=λb g hne=>by simp[Mem.aX,hne,r]
   lo:=λb g=>by
    rw[Mem.kI,Mem.aX]
    grind
   nw:=λa d=>by
    refine .inr ⟨a,?_,rfl⟩;by_cases e:a=k
    ·grind
    ·rwa[NX.aE _ _ e]at d
   kp:=.inl ⟨k,aq,by simp[tG]⟩ }
def NX.set_set(X:NX)(k a b):(X.set k a).set k b=X.set k b:=by
 funext q;unfold NX.set
 grind
def NR.wF(h:NR o m j X){l}(y n x l')(e:X k=some (.c l))(hn:x.cells.size=n)(a:x.cells.toList.all one=true)(f:y+n<=l.length)(g:∀i,i<n->∃g8,l[y+i]?=some (.v g8))(t:l.take y++x.cells.toList.map .v++l.drop (y+n)=l') :
  ∃S,Xe n (pt (j k).b y (j k).ver) x m=some S/\NR o S j (X.set k (some (.c l')))/\Wk m j X S j (X.set k (some (.c l'))):=by
 obtain⟨S,p,q,r,_,_⟩:=h.put e hn a f (λi a s=>by obtain⟨g8,d⟩:=g (i-y) aa;rw[show y+(i-y)=i by omega]at d;exact⟨g8,d⟩)
 grind
end Go.Ab
namespace Go.Ab.Sh
open Go Go.Ab
variable {U':Nat}
abbrev P1(U':Nat)(s:Gt->ae->aj->Option Rs):Prop:=∀d a m,TA (d+1) U' [a] m=cK m (s (aH d) a (aD m m.next))
abbrev P2(U':Nat)(s:Gt->ae->ae->aj->Option Rs):Prop:=∀d a b m,TA (d+1) U' [a,b] m=cK m (s (aH d) a b (aD m m.next))
abbrev P3(U':Nat)(s:Gt->ae->ae->ae->aj->Option Rs):Prop:=∀d a b c m,TA (d+1) U' [a,b,c] m=cK m (s (aH d) a b c (aD m m.next))
abbrev P4(U':Nat)(s:Gt->ae->ae->ae->ae->aj->Option Rs):Prop:=∀d a b c e m,TA (d+1) U' [a,b,c,e] m=cK m (s (aH d) a b c e (aD m m.next))
def cq(e:Entry Go.Proofs.Tryz.prog){s}(h:e.h=XX s:=by kernel_rfl)(a:oL.get (U'+1)=none:=by kernel_rfl)(b:fns.get (U'+1)=some e:=by kernel_rfl)(c:Nat.beq e.f U'=true:=by kernel_rfl):P1 U' s:=by intro _ _ _;rw[LQ a b c,h];rfl
def cY(e:Entry Go.Proofs.Tryz.prog){s}(h:e.h=XY s:=by kernel_rfl)(a:oL.get (U'+1)=none:=by kernel_rfl)(b:fns.get (U'+1)=some e:=by kernel_rfl)(c:Nat.beq e.f U'=true:=by kernel_rfl):P2 U' s:=by intro _ _ _ _;rw[LQ a b c,h];rfl
def nF(e:Entry Go.Proofs.Tryz.prog){s}(h:e.h=XZ s:=by kernel_rfl)(a:oL.get (U'+1)=none:=by kernel_rfl)(b:fns.get (U'+1)=some e:=by kernel_rfl)(c:Nat.beq e.f U'=true:=by kernel_rfl):P3 U' s:=by intro _ _ _ _ _;rw[LQ a b c,h];rfl
def FR(e:Entry Go.Proofs.Tryz.prog){s}(h:e.h=Ya s:=by kernel_rfl)(a:oL.get (U'+1)=none:=by kernel_rfl)(b:fns.get (U'+1)=some e:=by kernel_rfl)(c:Nat.beq e.f U'=true:=by kernel_rfl):P4 U' s:=by intro _ _ _ _ _ _;rw[LQ a b c,h];rfl
def Xb8:P1 oY Io:=cq Qtu
def Xc5:P2 Qd DS:=cY Qvb
def X9x:P1 HR HS:=cq Qsh
def Xbl:P1 Ip Iq:=cq Qu7
def X9z:P1 PW HQ:=cq Qsl
def Xbo:∀d a b c m,TA (d+1) tX [a,b,c] m=cK m (Ap (aH d) b a c (aD m m.next)):=nF Qu5 (s:=λe a b c=>Ap e b a c)
def Xcf:P1 I4 I5:=cq Qv7
def Xdn:P2 Qp Jo:=cY Qwg
def Xak:P1 QS DH:=cq Qu6
def Xb4:P2 Aq Ir:=cY Qu3
def Xaz:P1 xr Is:=cq Qtr
def Xbp:P1 Qo It:=cq Qtv
def Xcs:∀d a b c m,TA (d+1) DT [a,b,c] m=cK m (DU (aH d) b c a (aD m m.next)):=nF Qve (s:=λe a b c=>DU e b c a)
def X94:∀d a b c m,TA (d+1) Q4 [a,b,c] m=cK m (Dp (aH d) a c b (aD m m.next)):=nF Qrf (s:=λe a b c=>Dp e a c b)
def Xcm:∀d a b m,TA (d+1) nK [a,b] m=cK m (DV (aH d) b a (aD m m.next)):=cY Qvc (s:=λc a b=>DV c b a)
def Xa4:∀d a b m,TA (d+1) HW [a,b] m=cK m (Dz (aH d) b a (aD m m.next)):=cY Qsf (s:=λc a b=>Dz c b a)
def X8z:∀d a b c e m,TA (d+1) Dl [a,b,c,e] m=cK m (Dm (aH d) c a b e (aD m m.next)):=FR Qrh (s:=λf a b c e=>Dm f c a b e)
def Xcr:P1 DW I6:=cq Qv6
def Xbf:P2 Iu Iv:=cY Qu1
def Xax:P1 Qr Iw:=cq Qtz
def Xc0:P2 DR I7:=cY Qv9
def Xc6:P2 I2 I8:=cY Qv5
def X91:∀d a b c e m,TA (d+1) Pq [a,b,c,e] m=cK m (Dk (aH d) b a e c (aD m m.next)):=FR Qrb (s:=λf a b c e=>Dk f b a e c)
def X84:P2 C6 Hr:=cY Qov
def Xa6:P2 HP HX:=cY Qsj
def X97:P2 Qg HH:=cY Qri
def Xcz:P2 Sf Jn:=cY Qwj
def Xap:P2 DJ Ix:=cY Qu2
def Xay:P2 DK Iy:=cY Qtq
def X7z:∀d a b c m,TA (d+1) OT [a,b,c] m=cK m (C7 (aH d) b c a (aD m m.next)):=nF Qox (s:=λe a b c=>C7 e b c a)
def X6g:P2 zQ G0:=cY Qnk
def Xas:∀d a b c m,TA (d+1) vo [a,b,c] m=cK m (DF (aH d) a c b (aD m m.next)):=nF Qts (s:=λe a b c=>DF e a c b)
def Xb9:P2 Ik Iz:=cY Qu0
def X8w:P2 Ps HG:=cY Qrd
def Xb7:P2 Ij IA:=cY Qtw
def Xcl:∀d a b c m,TA (d+1) Rr [a,b,c] m=cK m (DX (aH d) b c (aD m m.next)):=nF Qvf (s:=λe a b c=>DX e b c)
def X8x:∀d a b m,TA (d+1) zW [a,b] m=cK m (Dn (aH d) b a (aD m m.next)):=cY Qrg (s:=λc a b=>Dn c b a)
def Xcg:P2 I9 Ja:=cY Qv4
def X53:P2 GF GG:=cY Qjw
def X4x:P1 Ql GH:=cq Qjx
def X63:P4 Q5 GS:=FR Qmr
def UN:P1 GQ CN:=cq Qmk
def X6q:P1 G1 G2:=cq Qno
def X6n:P1 zR G3:=cq Qnr
def X6o:P3 CT G4:=nF Qnq
def X66:P2 Q6 GU:=cY Qmp
def X6s:P1 Qa G5:=cq Qnp
def X73:P2 C3 Hl:=cY Qo3
def X5n:∀d a b c m,TA (d+1) Q1 [a,b,c] m=cK m (CJ (aH d) a c b (aD m m.next)):=nF Qli (s:=λe a b c=>CJ e a c b)
def X62:∀d a b m,TA (d+1) GP [a,b] m=cK m (CM (aH d) b a (aD m m.next)):=cY Qmt (s:=λc a b=>CM c b a)
def X5e:∀d a b c m,TA (d+1) CG [a,b,c] m=cK m (CH (aH d) c a b (aD m m.next)):=nF Qlj (s:=λe a b c=>CH e c a b)
def X76:P2 Ow Hm:=cY Qo5
def X6t:P1 G6 G7:=cq Qnm
def X6m:P1 Qf G8:=cq Qnl
def X74:P1 C4 Hn:=cq Qo4
def X5z:P2 Q3 GV:=cY Qmq
def X6h:∀d a b c m,TA (d+1) Oq [a,b,c] m=cK m (CU (aH d) b c a (aD m m.next)):=nF Qns (s:=λe a b c=>CU e b c a)
def X6u:∀d a b c m,TA (d+1) Oo [a,b,c] m=cK m (CS (aH d) b c a (aD m m.next)):=nF Qnt (s:=λe a b c=>CS e b c a)
def X50:∀d a b c e m,TA (d+1) N3 [a,b,c,e] m=cK m (CB (aH d) a b e c (aD m m.next)):=FR Qjz (s:=λf a b c e=>CB f a b e c)
def X5c:∀d a b c m,TA (d+1) N6 [a,b,c] m=cK m (CK (aH d) b c a (aD m m.next)):=nF Qlk (s:=λe a b c=>CK e b c a)
def X5p:P2 N4 GJ:=cY Qlg
def X6z:∀d a b m,TA (d+1) Ou [a,b] m=cK m (CY (aH d) b a (aD m m.next)):=cY Qo6 (s:=λc a b=>CY c b a)
def X4n:∀d a b c m,TA (d+1) N1 [a,b,c] m=cK m (Cz (aH d) b c a (aD m m.next)):=nF ZZ (s:=λe a b c=>Cz e b c a)
def X5x:P2 tT CO:=cY Qmn
def X5g:∀d a b c m,TA (d+1) Qs [a,b,c] m=cK m (CI (aH d) a c b (aD m m.next)):=nF Qll (s:=λe a b c=>CI e a c b)
def X4q:∀d a b m,TA (d+1) N2 [a,b] m=cK m (GC (aH d) b a (aD m m.next)):=cY ZY (s:=λc a b=>GC c b a)
def X65:∀d a b c m,TA (d+1) Oa [a,b,c] m=cK m (CL (aH d) b c (aD m m.next)):=nF Qmo (s:=λe a b c=>CL e b c)
def X4g:∀d a b m,TA (d+1) NZ [a,b] m=cK m (Cy (aH d) b a (aD m m.next)):=cY ZX (s:=λc a b=>Cy c b a)
def X4z:P2 Qj GD:=cY Qjy
def Xng:P1 TX JX:=cq ZF
def Xkx:P1 JO JP:=cq Zx
def Xk5:P1 JQ JR:=cq Zw
def Xby:P1 Rt Ru:=cq Qv8
def Xcu:P1 Sg Jp:=cq Qwh
def Xly:P1 AM JY:=cq ZD
def Xjh:P1 JG JH:=cq Qzj
def Xhw:P2 JI JJ:=cY Qzh
def Xkc:P1 JN Ee:=cq Zy
def Xmj:P1 TY JZ:=cq ZH
def X61:P2 Ob GW:=cY Qmj
def Xf0:P1 Ka AN:=cq ZE
def Xqz:P1 Um Ki:=cq ZI
def Xkg:P2 JS JT:=cY Zu
def Xm8:P1 Kb Ej:=cq ZG
def Xi3:P1 TC JF:=cq Qzi
def Xl1:P1 TF JM:=cq Zv
def X60:P1 Oc GX:=cq Qms
def Xd8:P1 Si Jq:=cq Qwi
def X26:P2 NK Qw:=cY ZK
def X3d:P2 Gy Gz:=cY ZQ
def X31:P2 NP Gv:=cY ZO
def X2g:P2 NL Gs:=cY ZM
def X4e:P2 N0 GB:=cY ZW
def Xj2:P2 uc JK:=cY Qzg
def Xf2:P2 Tx JD:=cY Qxn
def Xb0:P2 IB IC:=cY Qtp
def X5a:∀d a b m,TA (d+1) DL [a,b] m=cK m (xA (aH d) b a (aD m m.next)):=cY Qtt (s:=λc a b=>xA c b a)
def Xf9:P2 D6 D7:=cY Qxm
def Xgh:P2 Tz JE:=cY Qye
def Xcq:P2 AE Jb:=cY Qvd
def Xbv:∀d a b c e m,TA (d+1) Rv [a,b,c,e] m=cK m (AF (aH d) e b a c (aD m m.next)):=FR Qva (s:=λf a b c e=>AF f e b a c)
def X8k:P1 HA HB:=cq Qpd
def X7x:P2 Hs OU:=cY Qow
def X8m:P2 O8 HC:=cY Qpa
def X7a:P2 Ox Oy:=cY Qo9
def X7c:P1 Oz Ho:=cq Qo8
def X7b:P1 Hj Hk:=cq Qo2
def Xa9:P1 P9 Dy:=cq Qsc
def Xbh:P1 QT ID:=cq Qty
def Xa0:P1 HY HZ:=cq Qsm
def Xaj:P1 QU IE:=cq Qu8
def UP:P1 oX zY:=cq Qra
def X9y:P1 H0 QA:=cq Qsi
def X64:P1 Od Oe:=cq Qml
def X6l:P1 GY G9:=cq Qnn
def Xbe:P2 Ar IF:=cY Qub
def Xal:P1 IG IH:=cq Qto
def UO:P1 zX Dq:=cq Qrc
def Xao:P1 II IJ:=cq Qtx
def Xa5:P1 HU Dv:=cq Qsn
def Xa7:P1 HV Ai:=cq Qsd
def Xb5:P1 QV IL:=cq Qua
def Xdc:∀d a b m,TA (d+1) D0 [a,b] m=cK m (D4 (aH d) b a (aD m m.next)):=cY Qwk (s:=λc a b=>D4 c b a)
def Xa8:P2 PY Dw:=cY Qse
def Xa3:P1 PX HT:=cq Qsk
def Xbs:P1 DG Im:=cq Qu4
def Xa2:P1 PZ Dx:=cq Qsg
def Xck:P1 oZ I3:=cq Qv3
def Xbb:P2 Qi Il:=cY Qu9
def X8o:P1 O7 Hz:=cq Qpb
def X6w:P1 Ov Hi:=cq Qo7
def X7y:P1 OS Hq:=cq Qoy
def X5u:P1 N5 GK:=cq Qlh
def X5y:P1 CP GR:=cq Qmm
def X8l:P1 Df Dg:=cq Qpc
def X8r:P1 Pt Dr:=cq Qre
end Go.Ab.Sh
namespace Go.Ab
open Go Go.Lib
variable {c:UInt8}{E' n:Nat}{s:ai}
def jK(c:UInt8):Bool:=Nat.ble 48 c.toNat&&Nat.ble c.toNat 57
def uz(c):jK c=true↔48<=c.toNat/\c.toNat<=57:=by unfold jK;simp
def val:Nat->ai->Nat
 |acc,[]=>acc
 |acc,c::l=>val (acc*10+(c.toNat-48)) l
def XeO(l c):∀b,val b (l++[c])=val b l*10+(c.toNat-48):=by
 induction l with
 |nil=>intro b;rfl
 |cons a l d=>intro b;exact d _
def Fi(d)(h:d<10):(UInt8.ofNat (48+d)).toNat=48+d:=by rw[Ca];omega
def xZ(h:n<10):decDigits n=[UInt8.ofNat (48+n)]:=by rw[decDigits,dif_pos h]
def yp(h:¬n<10):decDigits n=decDigits (n / 10)++[UInt8.ofNat (48+n%10)]:=by rw[decDigits,dif_neg h]
def LF(n):decDigits n≠[]:=by
 intro h;have:=decDigits_length n;rw[h]at this;have:=nDigits_pos n
 grind
def uy(n):val 0 (decDigits n)=n:=by
 induction n using Nat.strongRecOn with
 |_ n a =>
  by_cases h:n<10
  ·rw[xZ h];show 0*10+((UInt8.ofNat _).toNat-48)=n;rw[Fi n h];omega
  ·rw[yp h,XeO,a _ aa,Fi _ (kM _ aa)];omega
def ET(n):(decDigits n).all jK=true:=by
 induction n using Nat.strongRecOn with
 |_ n a =>
  by_cases h:n<10
  ·rw[xZ h];simp only[km,Cb,fO,uz,Fi n h];omega
  ·rw[yp h,M3,a _ aa];simp only[km,Cb,fO,gY,uz,Fi _ (kM n aa)];omega
def nz(s:ai):Prop:=1<s.length->∀c,s.head?=some c->c.toNat≠48
def XiZ(n):nz (decDigits n)/\(1<=n->∀c,(decDigits n).head?=some c->c.toNat≠48):=by
 induction n using Nat.strongRecOn with
 |_ n f =>
  by_cases h:n<10
  ·rw[xZ h];refine⟨λh=>by simp at h,λe c b=>?_⟩;simp only[List.head?_cons,cE]at b;subst b;rw[Fi n h];omega
  ·have hd:∀c,(decDigits n).head?=some c->c.toNat≠48:=by
    intro c b;rw[yp h]at b;have d:=LF (n / 10);cases hd:decDigits (n / 10)with
    |nil=>grind
    |cons a l =>grind
   exact⟨λ_=>hd,λ_=>hd⟩
def Vv:∀k(s:ai),s.length=k->s≠[]->s.all jK=true->nz s->decDigits (val 0 s)=s/\(1<s.length->1<=val 0 s)/\((∀c,s.head?=some c->c.toNat≠48)->1<=val 0 s)
 |0,s,l,b,_,_=>by grind
 |k+1,s,l,b,j,o=>by
  obtain⟨t,c,rfl⟩:∃t c,s=t++[c]:=⟨s.dropLast,s.getLast b,(List.dropLast_concat_getLast b).symm⟩
  simp only[M3,km,Cb,fO,bT,uz]at j;obtain⟨g,m,n⟩:=j;rw[XeO];cases t with
  |nil =>
   have e:val 0 []=0:=rfl;rw[e];refine⟨?_,λh=>by simp at h,λh=>?_⟩
   ·rw[xZ aa];simp_all
   grind
  |cons a t =>
   have i:(a::t).length=k:=by simp at l|-;omega
   have f:∀d,(a::t).head?=some d->d.toNat≠48:=λd hd=>o ar d aq;obtain⟨p,u,q⟩:=Vv k _ i ar g (λ_=>f);have r:=q f;refine⟨?_,λ_=>aa,λ_=>aa⟩;rw[yp aa];have e1:(val 0 (a::t)*10+(c.toNat-48)) / 10=val 0 (a::t):=aa;have e2:(val 0 (a::t)*10+(c.toNat-48))%10=c.toNat-48:=aa;rw[e1,e2,p];simp_all
def num(E':Nat)(s:ai):Option Nat:=if s=decDigits (val 0 s)/\val 0 s<=E' then some (val 0 s)else none
def gj:num E' s=some n↔s=decDigits n/\n<=E':=by
 unfold num;constructor
 ·grind
 ·rintro ⟨rfl,h⟩
  rw[uy,ah ⟨rfl,h⟩]
def VW(n:Nat):itoa (n:Int)=decDigits n:=by rfl
def XG(h:jK c=true):48<=c.toNat/\c.toNat<=57:=(uz c).mp h
def Xev:∀l b,l.all jK=true->val b l<1844674407370955162->parseUint10 b l=.ok (val b l)
 |[],b,_,_=>rfl
 |c::l,b,h,f=>by
  simp only[km,bT]at h;have mono:∀l a,a<=val a l:=by
   intro l
   induction l with
   |nil=>intro a;exact c6 _
   |cons c l g=>intro a;exact aO aa (g _)
  have i:=mono l (b*10+(c.toNat-48));have d:val _ l<1844674407370955162:=f;show(if 48<=c.toNat/\c.toNat<=57 then _ else _)=_;rw[ah (XG h.1),af aa,af aa];exact Xev l _ h.2 d
def Xxp(n)(h:n<1000000000000):atoiAll (decDigits n)=.ok (n:Int):=by
 have a:=ET n;have b:=Xev _ 0 a (by rw[uy];omega);rw[uy]at b;cases hd:decDigits n with
 |nil=>exact absurd hd (LF n)
 |cons c r =>
  rw[hd]at a b;simp only[km,bT]at a;have d:=XG a.1;unfold atoiAll;simp only;rw[af aa];unfold parseMag;rw[af ar,b];simp only
  grind
def Xtl(n k)(a:1<=k)(h:n<10^k):(decDigits n).length<=k:=by
 induction k generalizing n with
 |zero=>omega
 |succ k b =>
  by_cases hn:n<10
  ·rw[xZ hn];simp
  ·rw[yp hn,fy]
   grind
def AX(h:n<9223372036854775808):rq (n:Int)=true:=qH.mpr h
end Go.Ab
namespace Go.Ab.Sh
open Go Go.Ab Go.Lib
variable {E':Nat}{s:ai}{v:Int}
def XcL(n)(h:rq n=true)(d m):TA d qV [I n] m=some (sv (itoa n),m):=by refine uF (y:=NI) bY ?_ d;obtain⟨a,b⟩:=KC h;show(if qV=qV/\rq n=true then some (Value.string _,m)else none)=_;rw[ah ⟨rfl,h⟩,Xo4 a b];rfl
def Fv(n:Nat)(h:n<1000000000000)(d m):TA d qV [I n] m=some (sv (decDigits n),m):=by rw[XcL n (AX aa),VW]
def XcG(s)(b:s.length<=4194304)(d m):∃v e a,TA d vw [sv s] m=some (.tuple ⟨[I v,e]⟩,a)/\Fr [] m a /\
  ((atoiAll s=.ok v/\e=.nilIface)\/((∀v,atoiAll s≠.ok v)/\∃p,e=.iface Qz (.pointer (some p)))):=by
 have key:∀r,Gr _ _ m=some r->TA d vw [sv s] m=some r:=λr h=>uF (by kernel_rfl) h d;have e:Gr vw [sv s] m=(match atoiAll s with
   |.ok v=>some (.tuple #[.int .i64 v,.nilIface],m)
   |Lib.NumEnd.syntax=>oC (.int .i64 0) Qz m
   |.range=>oC (.int .i64 (atoiSat s)) Qz m):=by
  show(if vw=vw/\s.length<=281474976710656 then _ else none)=_;rw[ah ⟨rfl,aa⟩];rfl
 rw[e]at key;cases h:atoiAll s with
 |ok v =>rw[h]at key;exact⟨v,.nilIface,m,key _ rfl,.refl _ _,.inl ⟨rfl,rfl⟩⟩
 |range =>rw[h]at key;exact⟨_,_,_,key _ rfl,.push _,.inr ⟨ar,_,rfl⟩⟩
 |_ =>rw[h]at key;exact⟨0,_,_,key _ rfl,.push _,.inr ⟨ar,_,rfl⟩⟩
def XdW(g):bin .neq true g .iface .nilIface .nilIface=some (.bool false):=by cases g<;>rfl
def XrO(g):bin .eql true g .iface .nilIface .nilIface=some (.bool true):=by cases g<;>rfl
def XlV(T p):bin .neq true false .iface (.iface T (.pointer (some p))) .nilIface=some (.bool true):=bY
def XnC(T p):bin .eql true false .iface (.iface T (.pointer (some p))) .nilIface=some (.bool false):=bY
def Xyd(h:atoiAll s=.ok v):(0<=v/\v<=E'/\itoa v=s)↔num E' s=some v.toNat/\0<=v:=by
 constructor
 ·rintro ⟨a,b,c⟩
  obtain⟨n,rfl⟩:=uW a;exact⟨gj.mpr ⟨c.symm,aa⟩,a⟩
 ·rintro ⟨a,b⟩
  obtain⟨n,rfl⟩:=uW b;obtain⟨d,e⟩:=gj.mp a;exact⟨b,aa,by rw[VW];grind⟩
def uj{n}(b:E'<1000000000000)(h:num E' s=some n):atoiAll s=.ok (n:Int):=by obtain⟨rfl,a⟩:=gj.mp h;exact Xxp n aa
def XpQ(s)(i:s.length<=4194304)(E':Nat)(b:E'<1000000000000)(d m) :
  TA (d+1) JS [sv s,I E'] m=some (match num E' s with|some n=>.tuple ⟨[I n,.bool true]⟩|none=>.tuple ⟨[I 0,.bool false]⟩,m):=by
 rw[Xkg];obtain⟨v,e,r,j,l,o⟩:=XcG s i d (aD m m.next);refine jV ?_ l (by cases num E' s<;>rfl);delta JT Qyf Qyg Ef C L E B K jg jj A jh;simp only[j,X4,dy,dK,X3];rcases o with⟨a,rfl⟩|⟨a,p,rfl⟩
 ·have q:=Xyd (E':=E') a;simp only[XdW,X3,X5,Qb,iT,Xf,X6,];by_cases g:v<0
  ·rw[ah g];cases hn:num E' s with
   |none=>rfl
   |some n=>have:=uj b hn;rw[a]at this;cases this;omega
  ·rw[af g];by_cases h:(E')<v
   ·rw[ah h];cases hn:num E' s with
    |none=>rfl
    |some n =>have:=uj b hn;rw[a]at this;cases this;have:=(gj.mp hn).2;omega
   ·rw[af h];obtain⟨n,rfl⟩:=uW (by omega:0<=v);have c:n<=E':=by omega
    rw[Fv n aa];simp only[X4,uf,X3,Xf];by_cases f:decDigits n=s
    ·have:=gj.mpr ⟨f.symm,c⟩;rw[this,af aq]
    ·rw[ah f];cases hn:num E' s with
     |none=>rfl
     |some k =>have:=uj b hn;rw[a]at this;cases this;exact absurd (gj.mp hn).1.symm f
 ·simp only[XlV,X3,X6,];cases hn:num E' s with
  |none=>rfl
  |some n=>exact absurd (uj b hn) (a _)
def Ye(s)(h:s.length<=4194304)(E':Nat)(a:E'<1000000000000)(d m) :
  ∃v,TA (d+1) JI [sv s,I E'] m=some (.tuple ⟨[I v,.bool (num E' s).isSome]⟩,m)/\∀n,num E' s=some n->v=n:=by
 rw[Xhw];obtain⟨v,e,q,i,j,l⟩:=XcG s h d (aD m m.next);refine⟨v,jV ?_ j rfl,?_⟩
 ·delta JJ Qxt Qxu Ea C E B K jg jj A;simp only[i,X4,dy,dK,X3];rcases l with⟨b,rfl⟩|⟨b,p,rfl⟩
  ·simp only[XrO,X3,X6,kx,sF,Xf,];by_cases c:0<=v
   ·rw[ah c];by_cases g:v<=(E')
    ·rw[ah g];obtain⟨n,rfl⟩:=uW c;rw[Fv n aa];simp only[X4,Qh,X3];by_cases f:decDigits n=s
     ·have:num E' s=some n:=gj.mpr ⟨f.symm,aa⟩
      grind
     ·cases hn:num E' s with
      |none=>simp[f]
      |some k =>have:=uj a hn;rw[b]at this;cases this;exact absurd (gj.mp hn).1.symm f
    ·rw[af g];cases hn:num E' s with
     |none=>rfl
     |some n =>have:=uj a hn;rw[b]at this;cases this;have:=(gj.mp hn).2;omega
   ·rw[af c];cases hn:num E' s with
    |none=>rfl
    |some n=>have:=uj a hn;grind
  ·simp only[XnC,X3,X5,];cases hn:num E' s with
   |none=>rfl
   |some n=>exact absurd (uj a hn) (b _)
 ·intro n hn;have o:=uj a hn
  grind
def rd(a:Nat):ai->Option Nat
 |[]=>some a
 |c::l=>if jK c then rd (a*10+(c.toNat-48)) l else none
def XaW:∀l a,rd a l=if l.all jK=true then some (val a l)else none
 |[],a=>rfl
 |c::l,a=>by
  unfold rd;rw[XaW l];rw[show val a (c::l)=val _ l from rfl,km]
  grind
def Xkt(M' s)(p:s.length<=12)(j:ae)(m:aj):∀r b(a i:Nat),s=b++r->r.length<i->a<10^b.length ->
  vp M' i (I b.length) (sv s) (I a) j m=match rd a r with|none=>some (I (-1),m)|some n=>Jg M' (I n) j m
 |[],b,a,i,h,hi,o=>by
  obtain⟨i,rfl⟩:∃g,i=g+1:=⟨i-1,aa⟩
  have k:s.length=b.length:=by rw[h];simp
  unfold vp;delta E N ji;simp only[dw,X3,Qb,Xf,k,j1,dV];rfl
 |c::r,b,a,i,h,hi,o=>by
  obtain⟨i,rfl⟩:∃g,i=g+1:=⟨i-1,aa⟩
  have k:s.length=b.length+(r.length+1):=by rw[h];simp
  have f:(b.length:Int)<s.length:=aa;have e:s[b.length]'aa=c:=by simp[h]
  have y:(10)^b.length<=10^12:=zg aa aa;unfold vp;delta Qrj Su H L E B N K ja A ji jh;simp only[dw,X3,Qb,iT,Xf,ah f,iu s _ b.length aa,e,X6];by_cases d:jK c=true
  ·have hd:=XG d;have e0:¬((c.toNat:Int)<48):=by omega
   have e1:¬((57:Int)<c.toNat):=aa;have t:IntKind.i64.wrap (10*(a))=((a*10:Nat)):=jR;have u:IntKind.u8.wrap ((c.toNat)-48)=((c.toNat-48:Nat)):=by rw[IntWalk.u8_in _ aa];omega
   have v:IntKind.i64.wrap (((a*10:Nat))+((c.toNat-48:Nat)))=((a*10+(c.toNat-48):Nat)):=jR;have w:IntKind.i64.wrap ((b.length)+1)=((b++[c]).length):=Zf;simp only[af e0,af e1,zJ,t,X3,kP,u,cz];have x:IntKind.i64.wrap ((c.toNat-48:Nat))=((c.toNat-48:Nat)):=Zg;simp only[dS,X4,x,cz,v,w,X3];rw[Xkt M' s p j m r _ _ i (by rw[h];simp) (by simp at hi;omega) (by simp[Cc];omega)];simp[rd,d]
  ·have hd:c.toNat<48\/57<c.toNat:=by
    rcases lT c.toNat 48 with q|q
    ·omega
    ·rcases lT 57 c.toNat with l|l
     ·omega
     ·exact absurd ((uz c).mpr ⟨q,l⟩) d
   rcases hd with q|q
   ·have e0:((c.toNat:Int)<48):=by omega
    simp[ah e0,rd,d]
   ·have e0:¬((c.toNat:Int)<48):=by omega
    have e1:((57:Int)<c.toNat):=aa;simp[ah e1,rd,d]
def wE(y:Option Nat):ae:=match y with|some n=>I n|none=>I (-1)
def Mi(s)(u:s.length<=4194304)(E':Nat)(t:E'<1000000000000)(d m) :
  TA (d+1) Ar [sv s,I E'] m=some (wE (num E' s),m):=by
 rw[Xbe];refine jV ?_ (.refl _ _) (by cases num E' s<;>rfl);delta IF Sv Aw L E B N K jk jj A P jh D;have e0:Value.string ⟨#[]⟩=sv []:=rfl;simp only[e0,Qh,X3,Xf,X6,dw,iT];by_cases j:s=[]
 ·subst j;have:num E' []=none:=by
   cases hn:num E' []with
   |none=>rfl
   |some n=>exact absurd (gj.mp hn).1.symm (LF n)
  rw[this];rfl
 rw[af j];by_cases e:(12:Int)<s.length
 ·rw[ah e];cases hn:num E' s with
  |none=>rfl
  |some n =>
   have ⟨b,o⟩:=gj.mp hn;have:=Xtl n 12 aa aa
   grind
 rw[af e];have key:∀(i:nz s),Sw (aH d) (sv s) (I E') (aD m m.next)=some (wE (num E' s),aD m m.next):=by
  intro i;have:=Xkt (aH d) s aa (I E') (aD m m.next) s [] 0 18446744073709551616 rfl aa ar;have this:vp (aH d) 18446744073709551616 (I 0) (sv s) (I 0) (I E') (aD m m.next)=_:=this;show vp (aH d) 18446744073709551616 (I 0) (sv s) (I 0) (I E') (aD m m.next)=_;rw[this,XaW];by_cases g:s.all jK=true
  ·rw[ah g];delta Jg E K A;simp only[iT,X3,Xf];have q:=(Vv _ s rfl j g i).1;by_cases k:(E':Int)<val 0 s
   ·rw[ah k];cases hn:num E' s with
    |none=>rfl
    |some n =>have ⟨b,o⟩:=gj.mp hn;rw[b,uy]at k;omega
   ·rw[af k,gj.mpr ⟨q.symm,aa⟩];rfl
  ·rw[af g];cases hn:num E' s with
   |none=>rfl
   |some n =>obtain⟨b,o⟩:=gj.mp hn;rw[b]at g;exact absurd (ET n) g
 by_cases p:(1:Int)<s.length
 ·rw[ah p];have ix:=iu s .i64 0 aa;have ix:Xi _ (.int _ 0)=some _:=ix;simp only[ix,X3,dI,Xf];have r:s.head?=some (s[0]'aa):=by cases s with|nil=>grind|cons a l=>rfl
  by_cases f:((s[0]'aa).toNat:Int)=48
  ·rw[ah f];cases hn:num E' s with
   |none=>rfl
   |some n =>have ⟨b,o⟩:=gj.mp hn;have i:=(XiZ n).1;rw[<-b]at i;exact absurd aa (i aa _ r)
  ·rw[af f];refine key λ_ c q=>?_
   grind
 ·rw[af p];exact key λh=>aa
end Go.Ab.Sh
namespace Go.Ab
open Go Go.Lib
variable {c:UInt8}{i:Nat}{l w x g8:ai}{m:Mem}{v:Value}{ws:List ai}
def cut(c:UInt8):ai->Option (ai × ai)
 |[]=>none
 |a::l=>if a=c then some ([],l)else match cut c l with|none=>none|some (x,g8)=>some (a::x,g8)
def split(c:UInt8):ai->List ai
 |[]=>[[]]
 |a::l=>if a=c then[]::split c l else match split c l with|w::ws=>(a::w)::ws|[]=>[[a]]
def Eu(c a)(l:ai):split c (a::l)=if a=c then[]::split c l else match split c l with|w::ws=>(a::w)::ws|[]=>[[a]]:=rfl
def Xnw(c):∀l,split c l≠[]
 |[]=>by simp[split]
 |a::l=>by
  unfold split
  grind
def KA{c}:∀{l:ai},cut c l=none->split c l=[l]
 |[],_=>rfl
 |a::l,h=>by
  unfold cut at h;rw[Eu];split at h
  ·cases h
  ·rename_i b;rw[af b];cases d:cut c l with
   |none=>rw[KA d]
   |some p=>grind
def Kw{c}:∀{l x g8:ai},cut c l=some (x,g8)->split c l=x::split c g8
 |a::l,x,g8,h=>by
  unfold cut at h;rw[Eu];split at h
  ·grind
  ·rename_i d;rw[af d];cases b:cut c l with
   |none=>grind
   |some p =>rw[b]at h;cases h;rw[Kw b]
def Bu{c}:∀{l x g8:ai},cut c l=some (x,g8)->l=x++c::g8/\c∉x
 |a::l,x,g8,h=>by
  unfold cut at h;split at h
  ·grind
  ·rename_i d;cases b:cut c l with
   |none=>grind
   |some p =>
    rw[b]at h;cases h;obtain⟨e,f⟩:=Bu b
    grind
def Xzd{c}:∀{l:ai},cut c l=none->c∉l
 |[],_=>ar
 |a::l,h=>by
  unfold cut at h;split at h
  ·cases h
  ·rename_i b;cases d:cut c l with
   |none=>simp;exact⟨λe=>b e.symm,Xzd d⟩
   |some p=>grind
def vP{c}:∀{x:ai} (g8:ai),c∉x->cut c (x++c::g8)=some (x,g8)
 |[],g8,_=>by simp[cut]
 |a::x,g8,h=>by
  simp at h;have b:¬a=c:=λe=>h.1 e.symm;show(if a=c then some ([],x++c::g8)else match cut c (x++c::g8)with|none=>none|some (x,g8)=>some (a::x,g8))=_
  rw[af b,vP g8 h.2]
def ES{c}:∀{x:ai},c∉x->cut c x=none
 |[],_=>rfl
 |a::x,h=>by simp at h;have b:¬a=c:=λe=>h.1 e.symm;show(if a=c then _ else _)=_;rw[af b,ES h.2]
def Vz(h:cut c l=some (x,g8)):l.count c=g8.count c+1:=by
 obtain⟨rfl,a⟩:=Bu h
 grind
def XdK(h:cut c l=none):l.count c=0:=List.count_eq_zero_of_not_mem (Xzd h)
def Bd(h:cut c l=some (x,g8)):l.length=x.length+g8.length+1:=by
 obtain⟨rfl,_⟩:=Bu h
 grind
def AZ(c):∀n l,l.length<=n->(split c l).length=l.count c+1
 |n,l,hn=>by
  cases h:cut c l with
  |none=>rw[KA h,XdK h];rfl
  |some p =>
   obtain⟨x,g8⟩:=p;rw[Kw h,Vz h];have:=Bd h;cases n with
   |zero=>omega
   |succ n=>rw[iq,AZ c n g8 aa]
def index_one(c):∀(l:ai),index l [c]=match cut c l with|none=>-1|some (x,_)=>(x.length:Int)
 |[]=>rfl
 |a::l=>by
  unfold index cut;by_cases b:a=c
  ·subst b;simp
  ·have e:([c]).isPrefixOf (a::l)=false:=by
    simp[List.isPrefixOf];exact λe=>b e.symm
   rw[e,af b,index_one c l];cases f:cut c l with
   |none=>rfl
   |some p =>simp
def SL(m:aj)(v:ae)(ws:List ai):Prop:=
 ∃b y r c a ro ty,v=.slice (some ⟨b,y,some 1⟩) ws.length r/\b<m.next/\m.get b=some (.cells c (r / 2) a ro ty)/\y+ws.length<=c.length/\∀i w,ws[i]?=some w->c[y+i]?=some (sv w)
def SL.len(h:SL m v ws)(S):aM 1 v S=some (I ws.length):=by obtain⟨b,y,r,c,a,ro,ty,rfl,_⟩:=h;rfl
def SL.at(h:SL m v ws)(d:ws[i]?=some w):∃p,Xd 1 v (.int .i64 (i:Int))=some p/\X9 false 1 p m=some (sv w):=by
 obtain⟨b,y,r,c,e,ro,ty,rfl,k,g,l,j⟩:=h;refine⟨pt b (y+i*1) (r / 2),?_,?_⟩
 ·rw[Ko];have f:=qH.mpr ((dO.mp d).1);show(match Nat.blt i _&&yr (some 1) 1 with|true=>some (Value.pointer (some ⟨b,y+i*1,some _⟩))|false=>none)=_
  rw[f,xT];rfl
 ·rw[Cd];exact Xt g (j i w d)
def SL.tail(h:SL m v (w::ws)):∃d,qc 1 v (some (I 1)) none=some d/\SL m d ws:=by
 obtain⟨b,y,r,c,a,ro,ty,rfl,e,f,g,j⟩:=h;refine⟨.slice _ _ r,?_,b,y+1*1,r,c,a,ro,ty,rfl,e,f,by simp at g;omega,λi x n=>?_⟩
 ·have k:Nat.ble 1 (w::ws).length=true:=eE.mpr ar;show(match(match Nat.ble 1 (w::ws).length with|true=>some 1|false=>none)with
   |some l=>if some 1=some 1 then some (Value.slice (some ⟨b,y+l*1,some 1⟩) _ _)else none
   |none=>none)=_
  rw[k];simp
 ·have:=j (i+1) x aq
  grind
end Go.Ab
namespace Go.Ab.Sh
open Go Go.Ab Go.Lib
def XcJ(s)(a:s.length<=4194304)(c d m):TA d zT [sv s,sv [c]] m=some (I (match cut c s with|none=>-1|some (x,_)=>(x.length:Int)),m):=by refine uF (y:=El) bY ?_ d;show(if zT=zT/\s.length<4294967281 then some (Value.int _ (MA s [c]),m)else none)=_;rw[ah ⟨rfl,aa⟩,Xzv,index_one]
def XoO(s)(a:s.length<=4194304)(c d m):TA (d+1) Tx [sv s,sv [c]] m=some (I (match cut c s with|none=>-1|some (x,_)=>(x.length:Int)),m):=by rw[Xf2];refine jV ?_ (.refl _ _) rfl;delta JD C K;simp only[XcJ s a,X4]
def XoK(s c d m):TA d D9 [sv s,sv [c]] m=some (I (s.count c:Nat),m):=by refine uF (y:=Gq) bY ?_ d;show(if D9=D9 then some (Value.int _ (cntF s c),m)else none)=_;rw[ah rfl,Xu6];rfl
def EA(l)(h:Nat)(a:h<=l.length):gH (sv l) none (some (I h))=some (sv (l.take h)):=by
 rw[U0];show(match bound _ l.length l.length with|some h=>(match bound none 0 h with|some k=>some (Value.string ⟨((l.take h).drop k).toArray⟩)|none=>none)|none=>none)=_
 have:bound (some (I h)) l.length l.length=some h:=by
  show(match Nat.ble h l.length with|true=>some h|false=>none)=_
  rw[eE.mpr a]
 rw[this];rfl
def yg(l)(k:Nat)(a:k<=l.length):gH (sv l) (some (I k)) none=some (sv (l.drop k)):=by
 rw[U0];show(match bound _ 0 l.length with|some k=>some (Value.string ⟨((l.take l.length).drop k).toArray⟩)|none=>none)=_
 have:bound (some (I k)) 0 l.length=some k:=by
  show(match Nat.ble k l.length with|true=>some k|false=>none)=_
  rw[eE.mpr a]
 rw[this,tJ];rfl
def VE{c l x g8}(h:cut c l=some (x,g8)):l.take x.length=x/\l.drop (x.length+1)=g8/\x.length+1<=l.length:=by have a:=Bd h;obtain⟨rfl,_⟩:=Bu h;simp
def XcH(s)(a:s.length<=4194304)(c d m):TA (d+2) uc [sv s,sv [c]] m =
  some (match cut c s with|none=>.tuple ⟨[sv s,sv [],.bool false]⟩|some (x,g8)=>.tuple ⟨[sv x,sv g8,.bool true]⟩,m):=by
 have inner:∀m,TA (d+1) Ob [sv s,sv [c]] m=some (match cut c s with|none=>.tuple ⟨[sv s,sv [],.bool false]⟩|some (x,g8)=>.tuple ⟨[sv x,sv g8,.bool true]⟩,m):=by
  intro m;rw[X61];refine jV (m1:=aD m m.next) ?_ (.refl _ _) (by cases cut c s<;>rfl);delta GW C E B N K jj A jh D;simp only[XcJ s a,X4];cases h:cut c s with
  |none =>rfl
  |some p =>obtain⟨x,g8⟩:=p;obtain⟨b,e,f⟩:=VE h;have w:IntKind.i64.wrap ((x.length)+(1:Nat))=((x.length+1:Nat)):=jR;have e1:([c]).length=1:=rfl;simp only[sF,X3,Xf,ah (wO _),dw,cz,e1,w,EA s x.length aa,yg s _ f,b,e]
 rw[Xj2];refine jV ?_ (.refl _ _) (by cases cut c s<;>rfl);delta JK C K jg;simp only[inner,X4];cases cut c s with
 |none=>rfl
 |some p=>rfl
def XH(b n r i)(h:i<n):Xd 1 (.slice (some ⟨b,0,some 1⟩) n r) (.int .i64 (i:Int))=some (pt b i (r / 2)):=by
 show(match Nat.blt i n&&yr (some 1) 1 with|true=>some (Value.pointer (some ⟨b,0+i*1,some _⟩))|false=>none)=_
 rw[qH.mpr h,xT];simp
def XiK(b n r k)(h:k<=n):qc 1 (.slice (some ⟨b,0,some 1⟩) n r) none (some (I k))=some (.slice (some ⟨b,0,some 1⟩) k (if k=n then r else r / 2*2)):=by
 show(match(match Nat.ble k n with|true=>some k|false=>none)with
  | some h=>(match some 0 with
   |some l=>if some 1=some 1 then some (Value.slice (some ⟨b,0+l*1,some 1⟩) (h-l) (if h=n then r else r / 2*2))else none
   |none=>none)
  |none=>none)=_
 rw[eE.mpr h];simp
def XjA(w):(sv w).cells.toList.all one=true:=rfl
def Xbt(d c b ty):∀k f done (cs:List ae) (m:aj),f.length<=4194304->f.count c<k ->
  m.get b=some (.cells cs 0 0 false ty)->cs.length=done.length+f.count c+1->cs.length<=4194305->(∀(i:Nat)(w),done[i]?=some w->cs[i]?=some (sv w)) ->
  ∃s g,DZ (aH (d+1)) k (I done.length) (I (cs.length-1:Nat)) (sv f) (sv [c]) (.slice (some ⟨b,0,some 1⟩) cs.length 1) (I 0) m =
   some (.slice (some ⟨b,0,some 1⟩) cs.length 1,s)/\Fr [b] m s/\s.get b=some (.cells g 0 0 false ty)/\g.length=cs.length/\∀(i:Nat)(w),(done++split c f)[i]?=some w->g[i]?=some (sv w)
 |0,_,_,_,_,_,L,_,_,_,_=>aa
 |k+1,f,done,cs,m,M,L,J,Z,hd,W=>by
  unfold DZ;delta C E B N Y jb ja A ji
  have put:∀x,∃S,Xe 1 (pt b done.length 0) (sv x) m=some S/\Fr [b] m S/\S.get b=some (.cells (cs.take done.length++[sv x]++cs.drop (done.length+1)) 0 0 false ty):=by intro x;obtain⟨S,r,o⟩:=iJ (y:=done.length) (n:=1) (v:=sv x) J rfl c7 aa (XjA x) rfl;refine⟨S,r,((Fr.refl _ _).put _ (.inl ar)).jL o,?_⟩;rw[o.get,Mem.aX,ah rfl];rfl
  have j:∀x(i:Nat) (w),(done++[x])[i]?=some w->(cs.take done.length++[sv x]++cs.drop (done.length+1))[i]?=some (sv w):=by
   intro x i w hw;by_cases X:i<done.length
   ·grind
   ·grind
  have e:∀x,(cs.take done.length++[sv x]++cs.drop (done.length+1)).length=cs.length:=by simp only[fy,kl,iq,rR,tE];omega
  have F:IntKind.i64.wrap ((done.length)+1)=((done.length+1:Nat)):=jR;simp only[Qb,X3,Xf];by_cases H:f.count c=0
  ·
   have l:cut c f=none:=by
    cases h:cut c f with
    |none=>rfl
    |some p=>have:=Vz h;omega
   have hn:¬((done.length:Int)<((cs.length-1:Nat))):=aa;have ⟨S,r,o,u⟩:=put f;refine⟨S,_,?_,o,u,e _,?_⟩
   ·delta Jt B K Y jb ja A;simp only[XH b cs.length 1 done.length aa,show(1) / 2=0 from rfl,r,Xj,cz,F,XiK b cs.length 1 (done.length+1) aa,X3]
    grind
   ·rw[KA l]
    grind
  ·have t:(done.length:Int)<((cs.length-1:Nat)):=by omega
   rw[ah t];cases h:cut c f with
   |none=>exact absurd (XdK h) H
   |some p =>
    obtain⟨x,g8⟩:=p;have ⟨O,P,Q⟩:=VE h;have q4:=Vz h;have q5:=Bd h;have ⟨S,r,o,u⟩:=put x;have U:IntKind.i64.wrap ((x.length)+0)=(x.length):=jR;have V:IntKind.i64.wrap ((x.length)+(1:Nat))=((x.length+1:Nat)):=jR;have e1:([c]).length=1:=rfl;have q:¬((x.length:Int)<0):=aa;have ⟨s,g,z,r2,R,D,r5⟩:=Xbt d c b ty k g8 _ _ S aa aa u (by rw[e];simp;omega) (by rw[e];exact hd) (j x);rw[e]at z D;refine⟨s,g,?_,o.trans r2,R,D,?_⟩
    ·rw[<-z];simp only[XoO _ M,h,X4,Qb,X3,Xf,af q,cz,U,EA f x.length aa,O,XH b cs.length 1 done.length aa,r,Xj,dw,e1,V,yg _ _ Q,P,F];simp
    ·rw[Kw h]
     grind
def XrI(a b):Mb (.int .i64 a) (.int .i64 b)=some (I (if b<a then b else a)):=rfl
def A8(m:aj)(y):(m.push y).get m.next=some y:=pR
def Wx{m m1 v}{x:Option Rs}(h:x=some (v,m1))(c:Fr [] (aD m m.next) m1)(g:refs m.next 8 v=false) :
  ∃d,cK m x=some (v,d)/\Fr [] m d/\d.next=m1.next/\∀b,d.get b=m1.get b:=by
 subst h;unfold cK;simp only;rw[sT];unfold qt;rw[g,Bool.and_false];have e:=c.bQ m.next aY aY ar;refine⟨_,rfl,⟨c.next,wN _ _,λx a b _=>?_,c.get,λb f=>.inr (c.get b f ar)⟩,rfl,λb=>rfl⟩;show x<=min _ _;omega
def SL.same{m S v ws}(h:SL m v ws)(hn:m.next<=S.next)(j:∀b,S.get b=m.get b):SL S v ws:=by obtain⟨b,y,r,c,a,ro,ty,d,e,i,f,g⟩:=h;exact⟨b,y,r,c,a,ro,ty,d,dU e hn,aq,f,g⟩
def XcP(s)(S:s.length<=4194304)(c d m):∃v e,TA (d+3) D6 [sv s,sv [c]] m=some (v,e)/\Fr [] m e/\SL e v (split c s)/\refs m.next 8 v=false:=by
 have inner:∀m,∃v e,TA (d+2) Rv [sv s,sv [c],I 0,I (-1)] m=some (v,e)/\Fr [] m e/\SL e v (split c s)/\refs m.next 8 v=false:=by
  intro m;have j:=YS (a:=c) (l:=s);let n:=s.count c+1;have q:(fH n [sv []]).length=n:=by
   have:∀k,(fH k [sv []]).length=k:=by
    intro k
    induction k with
    |zero=>rfl
    |succ k T=>simp[fH,T]
   exact this n
  have ⟨e,z,o,p,G,g,k5⟩:=Xbt d c (aD m m.next).next (some (2*Qc)) 18446744073709551616 s [] (fH n [sv []]) ((aD m m.next).push (.cells (fH n [sv []]) 0 0 false (some (2*Qc)))) S aa (A8 (aD m m.next) (.cells (fH n [sv []]) 0 0 false (some (2*Qc)))) aq aa ar;rw[q]at o g;have O:Fr [] (aD m m.next) e:=by have f:Fr [(aD m m.next).next] (aD m m.next) e:=((Fr.push (W:=[(aD m m.next).next]) _)).trans p;refine⟨f.next,f.low,λx a b _=>f.bQ x a b aq,λb Q _=>f.get b Q aq,f.lo⟩
  have r:AF (aH (d+1)) (I (-1)) (sv [c]) (sv s) (I 0) (aD m m.next)=some (.slice (some ⟨(aD m m.next).next,0,some 1⟩) n 1,e):=by
   have e0:Value.string ⟨#[]⟩=sv []:=rfl;have e1:¬((-1:Int)=0):=aa;have e2:¬([c]:ai)=[]:=ar;have M:(-1:Int)<0:=aa;have U:IntKind.i64.wrap (((s.count c:Nat):Int)+1)=(n:Int):=jR;have V:IntKind.i64.wrap ((s.length:Int)+1)=((s.length+1:Nat):Int):=jR;have X:(if((s.length+1:Nat):Int)<(n:Int)then((s.length+1:Nat):Int)else(n:Int))=(n:Int):=by rw[af aa]
   have Y:IntKind.i64.wrap ((n:Int)-1)=((n-1:Nat):Int):=jR;have mk:xQ Qc [sv []] 1 16 (I n) (I n) (aD m m.next)=some (.slice (some ⟨(aD m m.next).next,0,some 1⟩) n 1,(aD m m.next).push (.cells (fH n [sv []]) 0 0 false (some (2*Qc)))):=by
    have hf:fits n 16=true:=by simp only[fits,bT,eE];omega
    show(if(decide ((0:Int)<=(n:Int))&&decide ((n:Int)<=(n:Int))&&fits ((n:Int).toNat) 16&&Nat.ble 1 1)=true then _ else none)=_;rw[pI,hf,bj (wO n),bj (Int.le_refl _)];simp
   delta AF SX SY SZ Ju S5 S6 Ta Tb H C E B N K ja jk A P D;simp only[e0,dI,X3,Xf,af e1,Qh,af e2,Qb,ah M,XoK,X4,cz,U,dw,V,XrI,X,mk,kP,Y];exact o
  rw[Xbv];have F:refs m.next 8 (.slice (some ⟨(aD m m.next).next,0,some 1⟩) n 1)=false:=by
   show Nat.blt m.next m.next=false;cases h:Nat.blt m.next m.next with
   |false=>rfl
   |true=>simp_all
  have ⟨t,u,y,J,L⟩:=Wx (m:=m) r O F;refine⟨_,t,u,y,?_,F⟩;refine⟨(aD m m.next).next,0,1,z,0,false,some (2*Qc),?_,?_,aq,?_,λi w Z=>aq⟩
  ·rw[AZ c _ s aY]
  ·rw[J];have:=p.next;assumption
  ·rw[AZ c _ s aY,g];omega
 rw[Xf9];have ⟨v,e,o,p,G,g⟩:=inner (aD m m.next);have r:D7 (aH (d+2)) (sv s) (sv [c]) (aD m m.next)=some (v,e):=by delta D7 C K A;simp only[o,X4]
 have ⟨t,u,y,J,L⟩:=Wx r p g;exact⟨v,t,u,y,SL.same G aa L,g⟩
end Go.Ab.Sh
namespace Go.Ab
open Go Go.Lib
def wu:Nat->List ai->Option Nat
 |acc,[]=>some acc
 |acc,w::ws=>match num 255 w with|none=>none|some n=>wu (acc*256+n) ws
def nf(s:ai):Option Nat:=if(split 46 s).length=4 then wu 0 (split 46 s)else none
def pb(y:Option Nat):ae:=match y with|some a=>.tuple ⟨[.int .u32 (a:Int),I 0]⟩|none=>.tuple ⟨[.int .u32 0,I 4]⟩
def Xhd(n y):refs n 8 (pb y)=true:=by cases y<;>rfl
def xV(c):∀l w,w∈split c l->w.length<=l.length
 |[],w,h=>by simp[split]at h;grind
 |a::l,w,h=>by
  rw[Eu]at h;split at h
  ·rcases eF.mp h with e|e
   ·grind
   ·have:=xV c l w e;grind
  ·cases b:split c l with
   |nil=>grind
   |cons x f =>
    rw[b]at h;have d:=xV c l
    grind
def XjF(c g)(a n:Nat)(d:a<16777216)(hn:n<256):bin .or c g .int (.int .u32 ((a*256:Nat):Int)) (.int .u32 (n:Int))=some (.int .u32 ((a*256+n:Nat):Int)):=by
 rw[lH];simp only[mq,qI,uX,dV];have e1:(BitVec.ofInt 32 ((a*256:Nat)) ||| BitVec.ofInt 32 (n)).toNat=a*256+n:=by rw[zh,zh,BitVec.toNat_or,zi,zi,tK aa,tK aa];have h:=XeQ (i:=8) (b:=n) aa a;rw[Nat.shiftLeft_eq]at h;exact h.symm
 have e2:(BitVec.ofInt _ _ ||| BitVec.ofInt IntKind.u32.bits _).toNat=a*256+n:=e1;rw[e2,IntWalk.u32_in _ aa]
def XfQ(c g)(a:Nat)(b:a<16777216):bin .shl c g .int (.int .u32 (a:Int)) (.int .u64 8)=some (.int .u32 ((a*256:Nat):Int)):=by
 rw[lH];show(if(8:Int)<0 then none else some (Value.int _ (IntKind.u32.wrap ((a)*2^(min _ 32)))))=_;have e:((a:Int)*2^(min (8:Int).toNat 32))=((a*256:Nat)):=by have:(2:Int)^(min (8:Int).toNat 32)=256:=rfl;rw[this];omega
 rw[af aa,e,IntWalk.u32_in _ aa]
end Go.Ab
namespace Go.Ab.Sh
open Go Go.Ab Go.Lib
def XaN{k}(h:k<=3):(256:Nat)^k<=16777216:=by have:(256)^k<=256^3:=zg aa h;omega
def Xah(d v m ws)(f:ws.length=4)(r:∀w∈ws,w.length<=4194304)(o:SL m v ws):∀c b(a k:Nat),ws=b++c->c.length<k->a<256^b.length ->
  AI (aH (d+1)) k (I b.length) v (.int .u32 (a:Int)) m=some (pb (wu a c),m)
 |[],b,a,k,e,g,s=>by
  obtain⟨k,rfl⟩:∃j,k=j+1:=⟨k-1,aa⟩
  have q:b.length=4:=by rw[<-f,e];simp
  unfold AI;delta TO H C E B K jg jt ja A;simp only[Qb,X3,Xf,q];rfl
 |w::c,b,a,k,e,g,s=>by
  obtain⟨k,rfl⟩:∃j,k=j+1:=⟨k-1,by simp at g;omega⟩
  have q:b.length+(c.length+1)=4:=by rw[<-f,e];simp
  have h:(b.length:Int)<4:=aa;obtain⟨p,u,x⟩:=o.at (i:=b.length) (w:=w) aq;obtain⟨z,l,y⟩:=Ye w (r w (by rw[e];simp)) 255 aa d m;have D:IntKind.i64.wrap ((b.length)+1)=((b++[w]).length):=Zf;have G:=XaN (k:=b.length) aa;unfold AI;delta H C E B K jg jt ja A;simp only[Qb,X3,Xf,ah h,u,x];have l:TA _ _ [sv w,.int _ 255] m=_:=l;simp only[l,X4,dy,dK,X3,uB,BB];unfold wu;cases hn:num 255 w with
  |none=>rfl
  |some n =>
   have:=y n hn;subst this;have t:=(gj.mp hn).2;have F:IntKind.u32.wrap (n)=(n):=by rw[IntWalk.u32_in _ aa]
   simp only[Option.isSome_some,iQ,dp,dV,XfQ _ _ a aa,X3,dS,F,X4,XjF _ _ a n aa aa,cz,D];exact Xah d v m ws f r o _ _ _ k (by rw[e];simp) (by simp at g;omega) (by simp[Cc];omega)
def Yf(s)(e:s.length<=4194304)(d m):TA (d+4) JQ [sv s] m=some (pb (nf s),m):=by
 rw[Xk5];obtain⟨v,h,b,g,c,_⟩:=XcP s e 46 d (aD m m.next);refine jV ?_ g (Xhd _ _);delta JR TP TQ TR TS TT C E N K A D;have b:TA _ _ [sv s,.string ⟨#[46]⟩] _=some _:=b;simp only[b,X4,c.len,X3,eg,Xf];unfold nf;by_cases a:(split 46 s).length=4
 ·rw[af aa,ah a];exact Xah _ v h _ a (λw f=>by have:=xV 46 s w f;omega) c _ [] 0 _ rfl aa ar
 ·rw[ah aa,af a];rfl
def Xct(d v m ws)(g:ws.length=4)(s:∀w∈ws,w.length<=4194304)(o:SL m v ws):∀c b(a k:Nat),ws=b++c->c.length<k->a<256^b.length ->
  Ao (aH (d+1)) k (I b.length) v (I a) m=some (pb (wu a c),m)
 |[],b,a,k,f,r,q=>by
  obtain⟨k,rfl⟩:∃l,k=l+1:=⟨k-1,aa⟩
  have h:b.length=4:=by rw[<-g,f];simp
  have e:(256)^4=4294967296:=rfl;rw[h,e]at q;unfold Ao;delta R1 H C E B K jt ja A;simp only[Qb,X3,Xf,h,dS,X4,IntWalk.u32_in (a) aa];rfl
 |w::c,b,a,k,f,r,q=>by
  obtain⟨k,rfl⟩:∃l,k=l+1:=⟨k-1,aa⟩
  have h:b.length+(c.length+1)=4:=by rw[<-g,f];simp
  have j:(b.length:Int)<4:=aa;obtain⟨p,x,y⟩:=o.at (i:=b.length) (w:=w) aq;have z:TA _ _ [sv w,.int _ 255] m=_:=Mi w (s w (by rw[f];simp)) 255 aa d m;have D:IntKind.i64.wrap ((b.length)+1)=((b++[w]).length):=Zf;have J:=XaN (k:=b.length) aa;unfold Ao;delta C E B K jt ja A;simp only[Qb,X3,Xf,ah j,x,y,z,X4];unfold wu;cases hn:num 255 w with
  |none =>trivial
  |some n =>have u:=(gj.mp hn).2;have t:¬((n:Int)<0):=aa;have F:IntKind.i64.wrap (256*(a))=((a*256:Nat)):=jR;have G:IntKind.i64.wrap (((a*256:Nat))+(n))=((a*256+n:Nat)):=jR;simp only[wE,Qb,X3,Xf,af t,zJ,F,cz,G,D];exact Xct d v m ws g s o _ _ _ k (by rw[f];simp) (by simp at r;omega) (by simp[Cc];omega)
end Go.Ab.Sh
namespace Go.Ab
open Go Go.Lib
variable {B:Nat}{m:Mem}{v:Value}{ws:List ai}
def SA(B:Nat)(m:aj)(v:ae)(ws:List ai):Prop:=
 (ws=[]/\v=.slice none 0 0)\/(ws≠[]/\∃b ver ty,v=.slice (some ⟨b,0,some 1⟩) ws.length (2*ver)/\B<=b/\b<m.next/\m.get b=some (.cells (ws.map sv) ver 0 false ty))
def SA.sl(h:SA B m v ws)(d:ws≠[]):SL m v ws/\refs B 8 v=false:=by
 rcases h with⟨e,_⟩|⟨_,b,ver,ty,rfl,f,a,g⟩
 ·grind
 ·refine⟨⟨b,0,2*ver,ws.map sv,0,false,ty,rfl,a,?_,ar,λi w j=>aq⟩,?_⟩
  ·grind
  ·show Nat.blt b B=false;cases c:Nat.blt b B with
   |false=>rfl
   |true=>have:=qH.mp c;omega
def SA.len(h:SA B m v ws)(S):aM 1 v S=some (I ws.length):=by
 rcases h with⟨rfl,rfl⟩|⟨_,b,ver,ty,rfl,_⟩
 ·rfl
 rfl
def SA.app{e}(h:SA B m v ws)(hB:B<=m.next)(s:ws.length<=4194304)(w) :
  ∃k l S,X8 e [sv []] 1 1 [(0,sv w)] m=some (.slice (some ⟨m.next,0,some 1⟩) 1 1,k)/\dn e 1 16 v (.slice (some ⟨m.next,0,some 1⟩) 1 1) k=some (l,S)/\Fb B m S/\SA B S l (ws++[w]):=by
 have i:X8 e [sv []] 1 1 [(0,sv w)] m=some (.slice (some ⟨m.next,0,some 1⟩) 1 1,m.push (.cells [sv w] 0 0 false (some (2*e)))):=aU rfl rfl;have j:(m.push (.cells [sv w] 0 0 false (some (2*e)))).get m.next=some (.cells [sv w] 0 0 false (some (2*e))):=pR;have g:Fb B m (m.push (.cells [sv w] 0 0 false (some (2*e)))):=(Fb.push _ hB)
 rcases h with⟨rfl,rfl⟩|⟨p,b,ver,ty,rfl,f,r,n⟩
 ·refine⟨_,_,_,i,Xui (e:=e) (bytes:=16) j rfl rfl (c6 1) rfl,g.trans (Fb.push _ (by show B<=m.next+1;omega)),.inr ⟨ar,(m.push (.cells [sv w] 0 0 false (some (2*e)))).next,0,some (2*e),rfl,by show B<=m.next+1;omega,by show m.next+1<m.next+1+1;omega,?_⟩⟩;rw[Mem.bV,ah rfl];rfl
 ·have a:fits (ws.length+1) 16=true:=by
   simp only[fits,bT,eE];omega
  have c:(m.push (.cells [sv w] 0 0 false (some (2*e)))).get b=some (.cells (ws.map sv) ver 0 false ty):=by rw[Mem.bV,af aa];exact n
  obtain⟨S,q,d⟩:=XaP (e:=e) (bytes:=16) (len:=ws.length) (size:=1) c j rfl rfl (c6 1) c7 ar a;refine⟨_,_,S,i,q,(g.trans ((Fb.refl B _).put _ f)).jL d,.inr ⟨ar,b,ver+1,pF ty (2*e),ar,f,?_,?_⟩⟩
  ·rw[d.next,Mem.ij];show b<m.next+1;omega
  ·rw[d.get,Mem.aX,ah rfl];simp only[Cd,uY,lx,FV];rw[zj ar]
def wH(c:UInt8):ai->ai->List ai
 |cur,[]=>[cur]
 |cur,a::r=>if a=c then cur::wH c [] r else wH c (cur++[a]) r
def WX(c):∀r b,wH c b r=match split c r with|w::ws=>(b++w)::ws|[]=>[]
 |[],b=>by simp[wH,split]
 |a::r,b=>by
  rw[Eu];unfold wH;by_cases h:a=c
  ·rw[ah h,ah h,WX c r]
   grind
  ·rw[af h,af h,WX c r];cases d:split c r with
   |nil=>exact absurd d (Xnw c r)
   |cons x e=>simp
def XfZ(c s):wH c [] s=split c s:=by
 rw[WX]
 grind
def KV(l)(a b:Nat)(c:a<=b)(d:b<=l.length):gH (sv l) (some (I a)) (some (I b))=some (sv ((l.take b).drop a)):=by
 show(match bound (some (I b)) l.length l.length with|some h=>(match bound (some (I a)) 0 h with|some k=>some (Value.string ⟨((l.take h).drop k).toArray⟩)|none=>none)|none=>none)=_
 have e1:bound (some (I b)) l.length l.length=some b:=by
  show(match Nat.ble b l.length with|true=>some b|false=>none)=_
  rw[eE.mpr d]
 have e2:bound (some (I a)) 0 b=some a:=by
  show(match Nat.ble a b with|true=>some a|false=>none)=_
  rw[eE.mpr c]
 rw[e1];simp only[e2];rfl
def Xs6(b a c:ai):(((b++a++c).take (b.length+a.length)).drop b.length)=a:=by grind
end Go.Ab
namespace Go.Ab.Sh
open Go Go.Ab Go.Lib
def XlN{m m1 v}{x:Option Rs}(e:x=some (v,m1))(c:Fb m.next (aD m m.next) m1)(d:refs m.next 8 v=false) :
  ∃a,cK m x=some (v,a)/\Fr [] m a/\a.next=m1.next/\∀b,a.get b=m1.get b:=Wx e (Fb.oP c) d
def UU(M' B s)(F:s.length<=4194304):∀f b c ws v m k,s=c++b++f->f.length+1<k->ws.length<=c.length->B<=m.next->SA B m v ws ->
  ∃i S,w9 M' k (I (c.length+b.length:Nat)) (sv s) v (I c.length) m=I0 M' i S/\Fb B m S/\SA B S i (ws++wH 46 b f)
 |[],b,c,ws,v,m,k,g,C,G,hB,l=>by
  obtain⟨k,rfl⟩:∃w,k=w+2:=⟨k-2,aa⟩
  have r:s.length=c.length+b.length:=by rw[g];simp
  have ⟨M,i,S,x,y,n,z⟩:=l.app (e:=Qc) hB aa b;refine⟨i,S,?_,n,z⟩;have o:IntKind.i64.wrap (((c.length+b.length:Nat))+1)=((c.length+b.length+1:Nat)):=jR;have d:=Xs6 c b [];rw[<-g]at d;have e0:Value.string ⟨#[]⟩=sv []:=rfl;unfold w9;delta Rh Ib Ic L E B N ja jk jm A jh D;simp only[dw,X3,kx,Xf,r,Int.le_refl,dW,dI,X6,KV s c.length (c.length+b.length) aa aa,d,e0,x,X4,y,cz,o];unfold w9;delta E N;have hn:¬(((c.length+b.length+1:Nat))<=((c.length+b.length:Nat):Int)):=aa;simp only[dw,X3,kx,Xf,r,af hn]
 |a::f,b,c,ws,v,m,k,g,C,G,hB,l=>by
  obtain⟨k,rfl⟩:∃w,k=w+1:=⟨k-1,aa⟩
  have r:s.length=c.length+b.length+(f.length+1):=by rw[g];simp;omega
  have t:((c.length+b.length:Nat):Int)<=(s.length:Int):=aa;have u:¬((c.length+b.length:Nat):Int)=(s.length:Int):=aa;have o:IntKind.i64.wrap (((c.length+b.length:Nat):Int)+1)=((c.length+b.length+1:Nat):Int):=jR;have q:s[c.length+b.length]'aa=a:=by
   have:s[c.length+b.length]?=some a:=by rw[g,lB ar];simp
   exact(dO.mp this).2
  have e0:Value.string ⟨#[]⟩=sv []:=rfl;unfold w9;delta Rh Ib Ic L E B N ja jk jm A jh D;unfold wH;simp only[dw,X3,kx,Xf,ah t,dI,af u,iu s .i64 (c.length+b.length) aa,q];by_cases p:a=46
  ·have ⟨M,i,S,x,y,n,z⟩:=l.app (e:=Qc) hB aa b;have d:=Xs6 c b (a::f);rw[<-g]at d;have j:((a.toNat:Int)=46):=by rw[p];rfl
   rw[ah p,ah j];simp only[KV s c.length (c.length+b.length) aa aa,d,e0,X3,x,X4,y,cz,o];have ⟨v2,H,J,K,O⟩:=UU M' B s F f [] (c++b++[a]) (ws++[b]) i S k (by rw[g];simp) (by simp at C;omega) cF (aO hB n.next) z;refine⟨v2,H,?_,n.trans K,aq⟩;rw[<-J];simp[FW]
  ·have j:¬((a.toNat:Int)=46):=λh=>p (by apply j3.mp;grind);simp only[cz,X3,o];have ⟨v2,H,J,K,O⟩:=UU M' B s F f (b++[a]) c ws v m k aq aq G hB l
   grind
def XdC(s)(c:s.length<=4194304)(d m):TA (d+2) H0 [sv s] m=some (pb (nf s),m):=by
 rw[X9y];obtain⟨i,S,f,g,b⟩:=UU (aH (d+1)) m.next s c s [] [] [] (.slice none 0 0) (aD m m.next) 18446744073709551616 rfl aa aY aY (.inl ⟨rfl,rfl⟩);rw[my,XfZ]at b;obtain⟨h,j⟩:=b.sl (Xnw 46 s);refine jV ?_ (Fb.oP g) (Xhd _ _);refine aU f ?_;delta I0 R2 R3 R4 E N K A;simp only[b.len,X3,eg,Xf];unfold nf;by_cases a:(split 46 s).length=4
 ·rw[af aa,ah a];exact Xct d i S _ a (λw e=>by have:=xV 46 s w e;omega) h _ [] 0 _ rfl aa ar
 ·rw[ah aa,af a];rfl
end Go.Ab.Sh
namespace Go.Ab
open Go Go.Lib
variable {B e:Nat}{cs tail vs:List Value}{m:Mem}{ty:Option Nat}
abbrev bN(a:Nat):ai:=decDigits (a / 16777216)++[46]++decDigits (a / 65536%256)++[46]++decDigits (a / 256%256)++[46]++decDigits (a%256)
def j8(n)(h:n<18446744073709551616):(decDigits n).length<=20:=Xtl n 20 aa aa
theorem Xq{a}(ty cs)(m:aj)(k:ae->aj->Option a):bp (some (kY ty cs m)) k=k (pt m.next 0 0) (m.push (.cells cs 0 0 false (some (2*ty+1)))):=aU rfl rfl
def cD{m m1 v}{x:Option Rs}(c:x=some (v,m1))(a:Fb m.next (aD m m.next) m1)(b:refs m.next 8 v=true):cK m x=some (v,m):=jV c (Fb.oP a) b
def Fa(n k:Nat):(n:Int).tmod (k:Int)=((n%k:Nat):Int):=rfl
def LW(n k:Nat):(n:Int).tdiv (k:Int)=((n / k:Nat):Int):=rfl
def EF(m:aj)(x:Nat){f}(k:ae->aj->Option f):bp (X8 e [.int .u8 0] 1 1 [(0,.int .u8 (x:Int))] m) (λv m=>bp (conv .str v m) k)=k (sv [UInt8.ofNat x]) (m.push (.cells [.int .u8 (x:Int)] 0 0 false (some (2*e)))):=by
 have a:X8 e [.int .u8 0] 1 1 [(0,.int .u8 (x))] m=some (.slice _ 1 1,m.push (.cells _ 0 0 _ (some (2*e)))):=aU rfl rfl;rw[a,X4];have d:(m.push (.cells [.int .u8 (x)] 0 0 false (some (2*e)))).get m.next=some (.cells [.int .u8 (x)] 0 0 false (some (2*e))):=pR;have c:j0 (m.push (.cells [.int .u8 (x)] 0 0 false (some (2*e)))) ⟨m.next,0,some 0⟩ 1=some [.int .u8 (x)]:=by simp[jF,iI,d]
 have b:conv .str (.slice (some ⟨m.next,0,some 1⟩) 1 1) (m.push (.cells [.int .u8 (x)] 0 0 false (some (2*e))))=some (sv [UInt8.ofNat x],m.push (.cells [.int .u8 (x)] 0 0 false (some (2*e)))):=by
  show(match j0 (m.push (.cells [.int .u8 (x:Int)] 0 0 false (some (2*e)))) ⟨m.next,0,some (1 / 2)⟩ 1 with
   |some cs=>match ug cs with|some l=>some (Value.string ⟨l.toArray⟩,m.push (.cells [.int .u8 (x:Int)] 0 0 false (some (2*e))))|none=>none
   |none=>none)=_
  rw[show 1 / 2=0 from rfl,c];rfl
 rw[b,X4]
def yf{b n}(h:m.get b=some (.cells cs 0 0 false ty))(hn:cs.length=n)(c:vs.length=n)(d:vs.all one=true)(hB:B<=b) :
  ∃S,bp (bP (Xe n (pt b 0 0) (.agg ⟨vs⟩) m)) (λ_ m=>ob (ob (X9 true n (pt b 0 0) m) λv=>ob (some tail) λl=>some (v::l)) λl=>some (bZ l,m))=some (bZ (.agg ⟨vs⟩::tail),S)/\Fb B m S/\S.next=m.next:=by
 obtain⟨S,g,a⟩:=iJ (y:=0) (c':=vs) (v:=.agg ⟨vs⟩) (n:=n) h c c7 aa d (by show[]++vs++cs.drop (0+n)=vs;rw[rS aa];simp)
 have e:S.get b=some (.cells vs 0 0 false ty):=by rw[a.get,Mem.aX,ah rfl]
 have f:X9 _ n (pt b 0 0) S=some (.agg ⟨vs⟩):=Xw e aa (by simp[<-c]);refine⟨S,?_,(((Fb.refl B _).put _ hB).jL a),by rw[a.next,Mem.ij]⟩;rw[g,Xj];simp only[f,LZ]
end Go.Ab
namespace Go.Ab.Sh
open Go Go.Ab Go.Lib
def U9(M' B):∀(k n:Nat)(t) (m:aj),n<2^k->n<9223372036854775808->t.length+k<=1100->B<=m.next ->
  ∀a,k<a->∃S,tV M' a (.int .u64 (n:Int)) (sv t) m=some (sv (decDigits n++t),S)/\Fb B m S
 |k,n,t,m,o,hn,f,hB,a,l=>by
  obtain⟨a,rfl⟩:∃i,a=i+1:=⟨a-1,aa⟩
  unfold tV;delta H E B ja;simp only[iT,X3,Xf];by_cases d:(9:Int)<(n)
  ·rw[ah d];have b:IntKind.u64.wrap (48+((n:Int).tmod 10))=((48+n%10:Nat)):=by
    have e:(n:Int).tmod 10=((n%10:Nat):Int):=Fa n 10;rw[e,IntWalk.u64_in _ aa];omega
   have c:IntKind.u8.wrap ((48+n%10:Nat))=((48+n%10:Nat)):=Ck;have j:IntKind.u64.wrap ((n:Int).tdiv 10)=((n / 10:Nat)):=by have e:(n:Int).tdiv 10=((n / 10:Nat):Int):=LW n 10;rw[e,IntWalk.u64_in _ aa]
   have p:1<=k:=by
    cases k with
    |zero=>omega
    |succ k=>omega
   have ⟨S,g,h⟩:=U9 M' B (k-1) (n / 10) ([UInt8.ofNat (48+n%10)]++t) (m.push (.cells [.int .u8 ((48+n%10:Nat))] 0 0 false (some (2*fJ)))) (by
    have:2^k=2*2^(k-1):=by rw[<-Nat.pow_succ'];congr 1;omega
    omega) aa cF (by show B<=m.next+1;omega) a aa
   refine⟨S,?_,(Fb.push _ hB).trans h⟩;simp only[zK _ _ _ _ _ (by omega:(10:Int)≠0),X3,cz,b,dS,c,X4,EF,Qu _ _ [UInt8.ofNat _] t cF,zL _ _ _ _ _ (by omega:(10:Int)≠0),j];rw[g,yp (n:=n) aa];simp
  ·rw[af d];have b:IntKind.u64.wrap (48+(n))=((48+n:Nat)):=by rw[IntWalk.u64_in _ aa];omega
   have c:IntKind.u8.wrap ((48+n:Nat))=((48+n:Nat)):=Ck;refine⟨m.push (.cells [.int .u8 ((48+n:Nat))] 0 0 false (some (2*fJ))),?_,Fb.push _ hB⟩;delta H9 H B K ja;simp only[cz,b,X3,dS,c,X4,EF,Qu _ _ [UInt8.ofNat _] t cF];rw[xZ aa]
termination_by k=>k
decreasing_by
 omega
def XcW(n:Nat)(h:n<9223372036854775808)(d m):TA (d+1) zX [.int .u64 (n:Int)] m=some (sv (decDigits n),m):=by
 rw[UO];obtain⟨S,b,a⟩:=U9 (aH d) m.next 63 n [] (aD m m.next) aa h ar aY 18446744073709551616 aa;refine cD ?_ a rfl;delta Dq Ie If D;have e0:Value.string ⟨#[]⟩=sv []:=rfl
 grind
def XcM(z)(h:rq z=true)(d m):TA (d+2) oX [I z] m=some (sv (itoa z),m):=by
 obtain⟨v,w⟩:=KC h;rw[UP];refine cD ?_ (.refl _ _) rfl;delta zY H C E B K ja A D;simp only[Qb,X3,Xf];by_cases f:z<0
 ·rw[ah f];obtain⟨n,rfl⟩:∃n:Nat,z=-((n)+1):=⟨(-z-1).toNat,aa⟩
  have o:IntKind.i64.wrap (-((n)+1)+1)=-(n):=jR;have p:un .neg (.int .i64 (-(n)))=some (I n):=by show some (Value.int .i64 (IntKind.i64.wrap (0 - -(n:Int))))=_;rw[IntWalk.i64_in _ aa,show(0:Int) - -(n:Int)=n by omega]
  have q:IntKind.u64.wrap (n)=(n):=by rw[IntWalk.u64_in _ aa]
  have r:IntKind.u64.wrap ((n)+1)=((n+1:Nat)):=by rw[IntWalk.u64_in _ aa];omega
  have e0:Value.string ⟨#[45]⟩=sv _:=rfl;simp only[cz,o,X3,p,dS,X4,q,r];by_cases hn:n+1<9223372036854775808
  ·have i:=j8 (n+1) aa;simp only[XcW _ hn,X4,e0,Qu _ _ [45] (decDigits (n+1)) cF,X3];unfold itoa
   grind
  ·have b:n+1=9223372036854775808:=by omega
   have hd:∀m,TA (d+1) zX [.int .u64 ((n+1:Nat):Int)] m=some (sv (decDigits (n+1)),m):=by
    intro m;rw[UO,b];have g:(9:Int)<((9223372036854775808:Nat):Int):=aa;have ⟨S,j,k⟩:=U9 (aH d) m.next 63 922337203685477580 [UInt8.ofNat (48+8)] ((aD m m.next).push (.cells [.int .u8 ((48+8:Nat):Int)] 0 0 false (some (2*fJ)))) aa aa ar (by show m.next<=m.next+1;omega) 18446744073709551615 aa;refine cD (m1:=S) ?_ ((Fb.push (B:=m.next) (m:=aD m m.next) _ aY).trans k) rfl;have s:IntKind.u64.wrap (48+(((9223372036854775808:Nat):Int).tmod 10))=((48+8:Nat):Int):=by have e:((9223372036854775808:Nat):Int).tmod 10=8:=Fa 9223372036854775808 10;rw[e,IntWalk.u64_in _ aa];omega
    have t:IntKind.u8.wrap ((48+8:Nat):Int)=((48+8:Nat):Int):=Ck;have u:IntKind.u64.wrap (((9223372036854775808:Nat):Int).tdiv 10)=((922337203685477580:Nat):Int):=by have e:((9223372036854775808:Nat):Int).tdiv 10=((922337203685477580:Nat):Int):=LW 9223372036854775808 10;rw[e,IntWalk.u64_in _ aa]
    have e0:Value.string ⟨#[]⟩=sv []:=rfl;delta Dq Ie If D;unfold tV;delta H E B ja;simp only[e0,iT,X3,Xf,ah g,zK _ _ _ _ _ (by omega:(10:Int)≠0),cz,s,dS,t,X4,EF,Qu _ _ [UInt8.ofNat (48+8)] [] ar,zL _ _ _ _ _ (by omega:(10:Int)≠0),u];rw[lC,j];have:=yp (n:=9223372036854775808) aa;rw[this]
   have i:=j8 (n+1) aa;simp only[hd,X4,e0,Qu _ _ [45] (decDigits (n+1)) aq,X3];unfold itoa
   grind
 ·rw[af f];obtain⟨n,rfl⟩:=uW (by omega:0<=z);simp only[dS,IntWalk.u64_in (n) aa,X4,XcW n aa];rfl
def BQ(n:Nat)(h:n<9223372036854775808)(d m):TA (d+2) oX [I n] m=some (sv (decDigits n),m):=by rw[XcM n (AX h),VW]
def XdE(a:Nat)(h:a<4294967296)(d m):TA (d+3) IG [.int .u32 (a:Int)] m=some (sv (bN a),m):=by
 rw[Xal];refine cD ?_ (.refl _ _) rfl;have e0:Value.string ⟨#[46]⟩=sv _:=rfl;have l1:=j8 (a / 16777216) aa;have l2:=j8 (a / 65536%256) aa;have l3:=j8 (a / 256%256) aa;have j:=j8 (a%256) aa;have g:IntKind.i64.wrap (a)=(a):=Zg;have q:∀k:Nat,0<k->IntKind.i64.wrap ((a:Int).tdiv (k:Int))=((a / k:Nat)):=by intro k i;have e:(a:Int).tdiv (k:Int)=((a / k:Nat):Int):=LW a k;have:=Nat.div_le_self a k;rw[e];generalize a / k=q at this;rw[IntWalk.i64_in _ aa]
 have b:=q 16777216 aa;have c:=q 65536 aa;have f:=q 256 aa;have r:∀n:Nat,(n:Int).tmod 256=((n%256:Nat)):=λn=>Fa n 256;delta IH H C B K A D;have b:IntKind.i64.wrap ((a:Int).tdiv 16777216)=((a / 16777216:Nat)):=b;have c:IntKind.i64.wrap ((a:Int).tdiv 65536)=((a / 65536:Nat)):=c;have f:IntKind.i64.wrap ((a:Int).tdiv 256)=((a / 256:Nat)):=f;simp only[dS,g,X4,zL _ _ _ _ _ (by omega:(16777216:Int)≠0),zL _ _ _ _ _ (by omega:(65536:Int)≠0),zL _ _ _ _ _ (by omega:(256:Int)≠0),zK _ _ _ _ _ (by omega:(256:Int)≠0),b,c,f,r,X3,
  BQ (a / 16777216) aa,BQ (a / 65536%256) aa,BQ (a / 256%256) aa,BQ (a%256) aa,e0]
 simp only[Qu _ _ (decDigits (a / 16777216)) [46] aq,X3,Qu _ _ (decDigits (a / 16777216)++[46]) (decDigits (a / 65536%256)) aq,
  Qu _ _ (decDigits (a / 16777216)++[46]++decDigits (a / 65536%256)) [46] aq,
  Qu _ _ (decDigits (a / 16777216)++[46]++decDigits (a / 65536%256)++[46]) (decDigits (a / 256%256)) aq,
  Qu _ _ (decDigits (a / 16777216)++[46]++decDigits (a / 65536%256)++[46]++decDigits (a / 256%256)) [46] aq,
  Qu _ _ (decDigits (a / 16777216)++[46]++decDigits (a / 65536%256)++[46]++decDigits (a / 256%256)++[46]) (decDigits (a%256)) aq]
end Go.Ab.Sh
namespace Go.Ab
open Go Go.Lib
def kQ(k z m):again (aI (some (.int k z)) m) (.int k z)=true:=by show fN 8 _ _=true;simp[fN]
def sG(l m):again (aI (some (sv l)) m) (sv l)=true:=by show fN 8 _ _=true;simp[fN,sv]
abbrev dL(a b:Int):ae:=.agg ⟨[.int .u32 a,I b]⟩
def qa{m:aj}{cs:List ae}{ty y v}(h:cs[y]?=some v):X9 false 1 (pt m.next y 0) (m.push (.cells cs 0 0 false ty))=some v:=Xt pR h
def lh(a:Nat)(b:Int):Nat:=if b<0\/32<b then 1 else if a%2^(32-b.toNat)=0 then 0 else 10
def Wz(c g)(a k:Nat)(d:a<4294967296)(b:k<=32):bin .and c g .int (.int .u32 (a:Int)) (.int .u32 ((2^k-1:Nat):Int))=some (.int .u32 ((a%2^k:Nat):Int)):=by
 have f:2^k<=2^32:=zg aa b;have e:=Nat.mod_le a (2^k);rw[lH];simp only[mq,qI,uX,dV];have e2:(BitVec.ofInt _ (a) &&& BitVec.ofInt IntKind.u32.bits ((2^k-1:Nat))).toNat=a%2^k:=by show(BitVec.ofInt 32 (a:Int) &&& BitVec.ofInt 32 ((2^k-1:Nat):Int)).toNat=a%2^k;rw[zh,zh,BitVec.toNat_and,zi,zi,tK aa,tK aa];exact Nat.and_two_pow_sub_one_eq_mod a k
 rw[e2];rw[IntWalk.u32_in _ aa]
end Go.Ab
namespace Go.Ab.Sh
open Go Go.Ab Go.Lib
def XcS(n:Nat)(hn:n<=32)(d m):TA (d+1) JG [I n] m=some (.int .u32 ((2^(32-n)-1:Nat):Int),m):=by
 rw[Xjh];refine cD ?_ (.refl _ _) rfl;have f:2^(32-n)<=2^32:=zg aa aa;have a:1<=2^(32-n):=YT;have c:IntKind.i64.wrap (32-(n))=((32-n:Nat)):=jR;have b:bin .shl true true .int (.int .u64 1) (.int .i64 ((32-n:Nat)))=some (.int .u64 ((2^(32-n):Nat))):=by show(if((32-n:Nat):Int)<0 then none else some (Value.int .u64 (IntKind.u64.wrap (1*2^(min ((32-n:Nat):Int).toNat 64)))))=_;rw[af aa,pI,YU aa,Int.one_mul];have e:((2:Int)^(32-n))=((2^(32-n):Nat):Int):=bY;rw[e];rw[IntWalk.u64_in _ aa]
 delta JH H B K A;simp only[kP,c,X3,b,dS,X4];rw[IntWalk.u64_in _ aa,IntWalk.u32_in _ aa]
 grind
def XcR(a:Nat)(h:a<4294967296)(b d m):TA (d+2) JO [dL a b] m=some (I (lh a b),m):=by
 rw[Xkx];refine cD (m1:=(aD m _).push (.cells [.int .u32 (a),I b] 0 0 false (some (2*Qe+1)))) ?_ (Fb.push _ aY) rfl;have l0:=qa (m:=aD m m.next) (cs:=[.int .u32 (a),I b]) (ty:=some (2*Qe+1)) (y:=0+0) rfl;have g:(Value.cells (dL a b)).toList=[.int _ (a),I b]:=rfl;delta JP Qyh TU O C jo T F L E jn X B K U A jh;rw[g,Xq];simp only[X7,X3,l0,qa (m:=aD m m.next) (cs:=[.int .u32 (a),I b]) (ty:=some (2*Qe+1)) (y:=0+1) rfl,Qb,iT,Xf,X6];unfold lh;by_cases c:b<0
 ·rw[ah c,ah (.inl c)];rfl
 rw[af c];by_cases e:32<b
 ·rw[ah e,ah (.inr e)];rfl
 rw[af e,af aa];obtain⟨n,rfl⟩:=uW (by omega:0<=b);simp only[XcS n aa,X4,Wz _ _ a (32-n) h aa,X3,eg,Xf,pI,l0,kQ,fO,Xv];by_cases f:a%2^(32-n)=0
 ·rw[af aa,ah f];rfl
 ·rw[ah aa,af f];rfl
def Xke(M')(m:aj):∀(k n p a:Nat),n+k=32->p*2^k<=4294967296->k<a->Ax M' a (I n) (.int .u64 (p:Int)) m=some (.int .u64 ((p*2^k:Nat):Int),m)
 |0,n,p,a,h,d,c=>by
  obtain⟨a,rfl⟩:∃i,a=i+1:=⟨a-1,aa⟩
  have hn:n=32:=aa;subst hn;unfold Ax;delta Sx E B K ja A;simp only[Qb,X3,Xf];simp
 |k+1,n,p,a,h,d,c=>by
  obtain⟨a,rfl⟩:∃i,a=i+1:=⟨a-1,aa⟩
  have e:p*2^(k+1)=(2*p)*2^k:=by rw[Cc];rw[Ce 2 p,Nat.mul_assoc,Ce 2]
  have b:1<=2^k:=YT;have j:2*p<=(2*p)*2^k:=Nat.le_mul_of_pos_right _ b;have f:IntKind.u64.wrap (2*(p))=((2*p:Nat)):=by rw[IntWalk.u64_in _ aa];omega
  have g:IntKind.i64.wrap ((n)+1)=((n+1:Nat)):=jR;unfold Ax;delta E B ja A;simp only[Qb,X3,Xf,ah (by omega:(n:Int)<32),zJ,f,cz,g];rw[e];exact Xke M' m k _ _ a aa aa aa
def XdF(n:Nat)(hn:n<=32)(d m):TA (d+1) II [I n] m=some (.int .u64 ((2^(32-n):Nat):Int),m):=by
 rw[Xao];refine cD ?_ (.refl _ _) rfl;have a:2^(32-n)<=2^32:=zg aa aa;unfold IJ Sy Sz SC;have:=Xke (aH d) (aD m m.next) (32-n) n 1 18446744073709551616 aa aa aa
 grind
def XdD(a:Nat)(j:a<4294967296)(b d m):TA (d+2) HY [dL a b] m=some (I (lh a b),m):=by
 rw[Xa0];refine cD (m1:=(aD m _).push (.cells [.int .u32 (a),I b] 0 0 false (some (2*Qe+1)))) ?_ (Fb.push _ aY) rfl;have l0:=qa (m:=aD m m.next) (cs:=[.int .u32 (a),I b]) (ty:=some (2*Qe+1)) (y:=0+0) rfl;have l1:=qa (m:=aD m m.next) (cs:=[.int .u32 (a),I b]) (ty:=some (2*Qe+1)) (y:=0+1) rfl;have h:(Value.cells (dL a b)).toList=[.int _ (a),I b]:=rfl;delta HZ Qq0 R5 O H C jo T F L E jn X B K U A jh;rw[h,Xq];simp only[X7,X3,l0,l1,Qb,iT,Xf,X6];unfold lh;by_cases c:b<0
 ·rw[ah c,ah (.inl c)];rfl
 rw[af c];by_cases e:32<b
 ·rw[ah e,ah (.inr e)];rfl
 rw[af e,af aa];obtain⟨n,rfl⟩:=uW (by omega:0<=b);have i:1<=2^(32-n):=YT;have f:((2^(32-n):Nat):Int)≠0:=aa;simp only[dS,IntWalk.u64_in (a) aa,X4,l1,X3,XdF n aa,zK _ _ _ _ _ f,Fa,eg,Xf,pI,l0,kQ,fO,Xv];by_cases g:a%2^(32-n)=0
 ·rw[af aa,ah g];rfl
 ·rw[ah aa,af g];rfl
def pj(s:ai):Nat × Nat × Nat:=match cut 47 s with
 |none=>(0,0,4)
 | some (x,g8)=>match nf x,num 32 g8 with
  |some a,some b=>if a%2^(32-b)=0 then(a,b,0)else(0,0,10)
  |_,_=>(0,0,4)
def Bv(x:Nat × Nat × Nat):ae:=.tuple ⟨[dL x.1 x.2.1,I x.2.2]⟩
def Xp1:∀ws a n,wu a ws=some n->n<(a+1)*256^ws.length
 |[],a,n,h=>by cases h;simp
 |w::ws,a,n,h=>by
  unfold wu at h;cases hn:num 255 w with
  |none=>grind
  |some k =>rw[hn]at h;have c:=(gj.mp hn).2;rw[iq,Cc,Ce _ 256,<-Nat.mul_assoc];exact dU (Xp1 ws _ n h) (lU _ aa)
def VY{s n}(h:nf s=some n):n<4294967296:=by
 unfold nf at h;split at h
 ·rename_i a;have:=Xp1 _ _ _ h
  grind
 grind
def aB2(a b):Xc Q9 [(0,1),(1,1)] [(0,.int .u32 a),(1,I b)]=some (dL a b):=aU rfl rfl
def BH:Xc Q9 [(0,1),(1,1)] []=some (dL 0 0):=aU rfl rfl
def Xk2(a b):(dL a b).cells.toList=[.int .u32 a,I b]:=rfl
def XoW(s)(F:s.length<=4194304)(d m):TA (d+5) Rt [sv s] m=some (Bv (pj s),m):=by
 rw[Xby]
 let G:=(aD m m.next).push (.cells Q9 0 0 false (some (2*Qe+1)));have y:G.get m.next=some (.cells [.int _ 0,I 0] 0 0 _ _):=A8 _ _;have M:Fb m.next _ G:=Fb.push _ aY;have n0:G.next=m.next+1:=rfl;have f:∃o,Tc (aH (d+4)) (sv s) (pt m.next 0 0) G=some (Bv (pj s),o)/\Fb m.next G o:=by
  have e0:Value.string ⟨#[47]⟩=sv [47]:=rfl;obtain⟨r,J,r2,_⟩:=yf (n:=2) (tail:=[I 4]) y rfl (vs:=[.int .u32 0,I 0]) rfl rfl (c6 m.next);delta Tc Qss Qst Qsu Jv C L E jd B Y jl U jg A jh D;have g:TA (d+4) uc [sv s,sv [47]] G=_:=XcH s F 47 (d+2) G;simp only[e0,g,X4];unfold pj;cases P:cut 47 s with
  |none =>
   refine⟨r,?_,r2⟩;obtain⟨z,c,_⟩:=Ye [] ar 32 aa (d+3) G;have c:TA (d+4) _ [sv [],.int _ 32] G=_:=c;simp only[dy,dK,pz,X3,Yf s F d G,X4,uB,pJ,X6,BH];cases nf s with
   |none=>simp only[pb,dy,dK,X3,c,X4];exact J
   |some a=>simp only[pb,dy,dK,X3,c,X4];exact J
  |some p =>
   obtain⟨x,h⟩:=p;have W:=Bd P;have ⟨z,c,R⟩:=Ye h aa 32 aa (d+3) G;have c:TA (d+4) _ [sv h,.int _ 32] G=_:=c;simp only[dy,dK,pz,X3,Yf x aa d G,X4,uB,iQ,X5];cases O:nf x with
   |none =>
    refine⟨r,?_,r2⟩;simp only[pb,dy,dK,X3,c,X4,uB,eg,BB,BH];cases hn:num 32 h with
    |none=>assumption
    |some b=>assumption
   |some a =>
    simp only[pb,dy,dK,X3,c,X4,uB,eg,BB,BH];cases hn:num 32 h with
    |none =>refine⟨r,?_,r2⟩;assumption
    |some b =>
     have:=R b hn;subst this;have V:=(gj.mp hn).2
     obtain⟨k,S,H,Z,T⟩:=kR [] G (some (2*Qe+1)) Q9 (v:=dL a b) (n:=2) rfl rfl rfl;have g2:k.get m.next=some (.cells [.int .u32 0,I 0] 0 0 false (some (2*Qe+1))):=by rwa[H.get m.next aa ar]
     have w:Fb m.next G k:=Fr.iP H aa;have lp:X9 _ 2 _ k=some (dL a b):=Xw T rW rfl;simp only[Option.isSome_some,iQ,dp,dV,qI,uX,j4,aB2 a b,X3,Xq,S,Xj,lp,XcR a (VY O) b _ k,X4];unfold lh;rw[af aa,pI];by_cases i:a%2^(32-b)=0
     ·rw[ah i,ah i];obtain⟨q,K,t,_⟩:=yf (n:=2) (tail:=[I 0]) g2 rfl (vs:=[.int .u32 (a),I b]) rfl rfl aY;refine⟨q,?_,w.trans t⟩;simp only[eg,X3,Xf];simp only[lp,X3];exact K
     ·rw[af i,af i];obtain⟨q,K,t,_⟩:=yf (n:=2) (tail:=[I 10]) g2 rfl (vs:=[.int .u32 0,I 0]) rfl rfl aY;refine⟨q,?_,w.trans t⟩;assumption
 obtain⟨o,X,Q⟩:=f;refine cD ?_ (M.trans Q) rfl;assumption
end Go.Ab.Sh
namespace Go.Ab
open Go Go.Lib
def Xwt(a)(n:Nat)(hn:n<256):((a.toNat:Int)=(n:Int))↔a=UInt8.ofNat n:=by
 constructor
 ·intro h;apply j3.mp;rw[Ca];omega
 ·rintro rfl
  rw[Ca];omega
end Go.Ab
namespace Go.Ab.Sh
open Go Go.Ab Go.Lib
def Xdu(d s)(hs:s.length<=4194304)(b B)(hB:B<=b)(m:aj)(O:b<m.next)(p:m.get b=some (.cells [.int .u32 0,I 0] 0 0 false (some (2*Qe+1)))):∀f c k,s=c++f->47∉c->f.length<k ->
  ∃G,zU (aH (d+4)) k (I c.length) (sv s) (pt b 0 0) m=some (Bv (pj s),G)/\Fb B m G
 |[],c,k,j,D,hk=>by
  obtain⟨k,rfl⟩:∃F,k=F+1:=⟨k-1,aa⟩
  have P:s.length=c.length:=by rw[j];simp
  have r:cut 47 s=none:=by rw[j,lC];exact ES D
  obtain⟨t,J,r2,_⟩:=yf (n:=2) (tail:=[I 4]) p rfl (vs:=[.int .u32 0,I 0]) rfl rfl hB;refine⟨t,?_,r2⟩;unfold zU;delta O2 E B N jl A ji;unfold pj;simp only[dw,X3,Qb,Xf,P,j1,dV,r,BH];exact J
 |a::f,c,k,j,D,hk=>by
  obtain⟨k,rfl⟩:∃F,k=F+1:=⟨k-1,aa⟩
  have P:s.length=c.length+(f.length+1):=by rw[j];simp
  have y:(c.length:Int)<s.length:=aa;have w:s[c.length]'aa=a:=by simp[j]
  have V:IntKind.i64.wrap ((c.length)+1)=((c.length+1:Nat)):=jR;unfold zU;delta Qko Qkp Qkq Qkr O3 C L E jd B N Y jl U jg ja jk A ji jh;simp only[dw,X3,Qb,Xf,ah y,iu s _ c.length aa,w,dI];by_cases r:a=47
  ·subst r;have u:(((47:UInt8).toNat:Int)=47):=rfl;have g:cut 47 s=some (c,f):=by rw[j];exact vP f D
   obtain⟨R,S,q3⟩:=VE g;obtain⟨t,J,r2,_⟩:=yf (n:=2) (tail:=[I 4]) p rfl (vs:=[.int .u32 0,I 0]) rfl rfl hB;have e:TA (d+4) _ [sv _,.int _ 32] m=_:=Mi f aa 32 aa _ m;have i:TA (d+4) _ _ m=_:=XdC c aa _ m;unfold pj;rw[ah u];simp only[EA s c.length aa,R,X3,i,X4,cz,V,yg s _ q3,S,g];cases Z:nf c with
   |none =>refine⟨t,?_,r2⟩;simp only[pb,dy,dK,X3,e,X4,eg,Xf,X6,BH];exact J
   |some x =>
    simp only[pb,dy,dK,X3,e,X4,eg,Xf,X6,BH];cases hn:num 32 f with
    |none =>refine⟨t,?_,r2⟩;assumption
    |some g8 =>
     have hy:=(gj.mp hn).2;obtain⟨o,k1,Q,k3,k4⟩:=kR [] m (some (2*Qe+1)) Q9 (v:=dL x g8) (n:=2) rfl rfl rfl;have g2:o.get b=some (.cells [.int .u32 0,I 0] 0 0 false (some (2*Qe+1))):=by rw[Q.get b O ar];exact p
     have M:Fb B m o:=Fr.iP Q aa;have lp:X9 _ 2 _ o=some (dL x g8):=Xw k4 rW rfl;have X:¬((g8:Int)<0):=aa;have l:TA (d+4) _ _ o=_:=XdD x (VY Z) g8 _ o;simp only[wE,I,Qb,X3,Xf,af X,qI,uX,dV,aB2 x g8,Xq,k1,Xj,lp,l,X4];unfold lh;rw[af aa,pI];by_cases q:x%2^(32-g8)=0
     ·rw[ah q,ah q];obtain⟨H,T,K,_⟩:=yf (n:=2) (tail:=[I 0]) g2 rfl (vs:=[.int .u32 (x),I g8]) rfl rfl hB;refine⟨H,?_,M.trans K⟩;simp only[eg,X3,Xf];rw[af ar];simp only[lp,X3];exact T
     ·rw[af q,af q];obtain⟨H,T,K,_⟩:=yf (n:=2) (tail:=[I 10]) g2 rfl (vs:=[.int .u32 0,I 0]) rfl rfl hB;refine⟨H,?_,M.trans K⟩;assumption
  ·have z:¬((a.toNat:Int)=47):=λh=>r ((Xwt a 47 aa).mp h);rw[af z];simp only[cz,V,X3];obtain⟨G,R,S⟩:=Xdu d s hs b B hB m O p f (c++[a]) k aq aq aq
   grind
def XqE(s)(a:s.length<=4194304)(d m):TA (d+5) Od [sv s] m=some (Bv (pj s),m):=by rw[X64];obtain⟨e,c,b⟩:=Xdu d s a m.next m.next aY ((aD m m.next).push (.cells Q9 0 0 false (some (2*Qe+1)))) (by show m.next<m.next+1;omega) (A8 (aD m m.next) _) s [] 18446744073709551616 rfl ar aa;refine cD ?_ ((Fb.push (m:=aD m m.next) _ aY).trans b) rfl;assumption
def KK(z)(h:rq z=true):(itoa z).length<=21:=by
 obtain⟨a,b⟩:=KC h;unfold itoa;split
 ·have:=j8 z.natAbs aa;grind
 ·have:=j8 z.toNat aa;omega
def xW(a)(b:a<4294967296):(bN a).length<=83:=by
 have l1:=j8 (a / 16777216) aa;have l2:=j8 (a / 65536%256) aa;have l3:=j8 (a / 256%256) aa;have c:=j8 (a%256) aa
 grind
def kb(a:Nat)(b:Int):ai:=bN a++[47]++itoa b
def XqF(a:Nat)(g:a<4294967296)(b)(h:rq b=true)(d m):TA (d+4) GY [dL a b] m=some (sv (kb a b),m):=by rw[X6l];refine cD (m1:=(aD m _).push (.cells [.int .u32 (a),I b] 0 0 false (some (2*Qe+1)))) ?_ (Fb.push _ aY) rfl;have e0:Value.string ⟨#[47]⟩=sv _:=rfl;have i:=xW a g;have j:=KK b h;have c:=XdE a g d;have e:=XcM b h (d+1);delta G9 O C jo T F jn X B K U D;rw[Xk2,Xq];have e:∀m,TA (d+3) _ _ m=some _:=e;generalize f:bN a=T at *;simp only[X7,X3,qa (m:=aD m m.next) (cs:=[.int .u32 (a),I b]) (ty:=some (2*Qe+1)) (y:=0+0) rfl,qa (m:=aD m m.next) (cs:=[.int .u32 (a),I b]) (ty:=some (2*Qe+1)) (y:=0+1) rfl,c,X4,kQ,fO,Xv,e0,Qu _ _ T [47] aq,e,Qu _ _ (T++[47]) (itoa b) aq];unfold kb;rw[f]
end Go.Ab.Sh
namespace Go.Ab
open Go Go.Lib
def Xr(a:ai)(ws:List ai):ai:=a.intercalate ws
def Xlq:∀(ws:List ai),uS (ws.map sv)=some (ws.map λw=>⟨⟨w⟩⟩)
 |[]=>rfl
 |w::ws=>by
  show(match uS (ws.map sv)with|some l=>some (_::l)|none=>none)=_
  rw[Xlq ws];rfl
def Xwd{m:aj}{b y r}{c:List ae}{a ro ty}{ws:List ai}(e:m.get b=some (.cells c (r / 2) a ro ty))(f:y+ws.length<=c.length)(g:∀i w,ws[i]?=some w->c[y+i]?=some (sv w)) :
  j0 m ⟨b,y,some (r / 2)⟩ ws.length=some (ws.map sv):=by
 have:(c.drop y).take ws.length=ws.map sv:=by
  apply fk;intro i;rw[jP,lz,gX];by_cases hi:i<ws.length
  ·rw[ah hi];have d:ws[i]?=some ws[i]:=dX hi;rw[g i ws[i] d,d];rfl
  ·rw[af hi,zk aa];rfl
 simp[jF,iI,e,f,this]
def XfR(c g)(a k:Nat)(d:a<4294967296)(b:k<=32):bin .shr c g .int (.int .u32 (a:Int)) (I k)=some (.int .u32 ((a / 2^k:Nat):Int)):=by
 rw[lH];show(if((k:Nat):Int)<0 then none else some (Value.int .u32 ((a:Int).fdiv (2^(min ((k:Nat):Int).toNat 32)))))=_;rw[af aa,pI,YU b];have e:((2:Int)^k)=((2^k:Nat):Int):=by rw[Int.natCast_pow];rfl
 rw[e,Int.fdiv_eq_ediv_of_nonneg _ (wO _),<-Int.natCast_ediv]
end Go.Ab
namespace Go.Ab.Sh
open Go Go.Ab Go.Lib
def Yd(v ws a m)(h:SL m v ws)(hn:ws.length<=140737488355328)(k:(Xr a ws).length<=140737488355328)(d):TA d xH [v,sv a] m=some (sv (Xr a ws),m):=by
 refine uF (y:=NJ) (by kernel_rfl) ?_ d;obtain⟨b,y,r,c,f,ro,ty,rfl,n,g,i,j⟩:=h;show(if xH=xH then(match j0 m ⟨b,y,some (r / 2)⟩ ws.length with
   | some cs=>(match uS cs with
    | some l=>(match Nat.ble ws.length 140737488355328&&Nat.ble (Bm l ⟨⟨a⟩⟩).length 140737488355328 with
     |true=>some (Value.string ⟨(Bm l ⟨⟨a⟩⟩).toArray⟩,m)
     |false=>none)
    |none=>none)
   |none=>none)else none)=_
 rw[ah rfl,Xwd g i j];simp only[Xlq];have e:Bm (ws.map λw=>(⟨⟨w⟩⟩:ByteArray)) ⟨⟨a⟩⟩=Xr a ws:=by unfold Bm Xr Lib.join;rw[List.map_map];congr 1;have:((λx=>x.data.toList)∘λw=>(⟨⟨w⟩⟩:ByteArray))=id:=rfl;rw[this,List.map_id]
 rw[e,eE.mpr hn,eE.mpr k];rfl
def XhV(b)(i:Nat)(h:i<4):vC 4 1 (pt b 0 0) (I i)=some (pt b i 0):=by show(if(0:Int)<=(i:Int)&&(i:Int)<(4:Nat)then some (Value.pointer (some ⟨b,0+(i:Int).toNat*1,some 0⟩))else none)=_;have a:(decide ((0:Int)<=(i:Int))&&decide ((i:Int)<(4:Nat)))=true:=cF;rw[ah a];simp
def part(a i:Nat):Nat:=a / 2^(24-8*i)%256
def EP(a i):part a i<256:=kM _ aa
def Xc7(d a)(s:a<4294967296)(b ty):∀k i(cs:List ae) (m:aj) (c),i+k=4->k<c->cs.length=4->m.get b=some (.cells cs 0 0 false ty)->b<m.next->(∀t,t<i->cs[t]?=some (sv (decDigits (part a t)))) ->
  ∃x,AJ (aH d) c (I i) (.int .u32 (a:Int)) (pt b 0 0) m=some (sv (bN a),x)/\Fr [b] m x
 |0,i,cs,m,c,hi,R,J,u,j,g=>by
  obtain⟨c,rfl⟩:∃q,c=q+1:=⟨c-1,aa⟩
  have P:i=4:=aa;subst P;refine⟨m,?_,.refl _ _⟩;have F:SL m (.slice (some ⟨b,0+0*1,some 1⟩) 4 1) [decDigits (part a 0),decDigits (part a 1),decDigits (part a 2),decDigits (part a 3)]:=by
   refine⟨b,0,1,cs,0,false,ty,rfl,j,u,cF,λt w e=>?_⟩;rw[aQ]
   match t,e with
   |0,e=>cases e;exact g 0 aa
   |1,e=>cases e;exact g 1 aa
   |2,e=>cases e;exact g 2 aa
   |3,e=>cases e;exact g 3 aa
  have U:vF 4 1 (pt b 0 0) none none m=some (.slice (some ⟨b,0+0*1,some 1⟩) 4 1):=by
   have Q:j0 m ⟨b,0,some 0⟩ (4*1)=some ((cs.drop 0).take (4*1)):=by simp[jF,iI,u,J]
   show(match j0 m ⟨b,0,some 0⟩ (4*1)with
    |none=>none
    | some _=>match bound none 4 4 with
     | some h=>match bound none 0 h with
      |some l=>if Nat.ble 1 1 then some (Value.slice (some ⟨b,0+l*1,some 1⟩) (h-l) (if h=4 then 2*0+1 else 2*0))else none
      |none=>none
     |none=>none)=_
   rw[Q];rfl
  have l0:=j8 (part a 0) (by have:=EP a 0;omega);have l1:=j8 (part a 1) (by have:=EP a 1;omega);have l2:=j8 (part a 2) (by have:=EP a 2;omega);have l3:=j8 (part a 3) (by have:=EP a 3;omega);have p:Xr [46] [decDigits (part a 0),decDigits (part a 1),decDigits (part a 2),decDigits (part a 3)]=bN a:=by
   have X:part a 0=a / 16777216:=by show a / 2^24%256=_;rw[show(2:Nat)^24=16777216 from rfl];omega
   have Z:part a 1=a / 65536%256:=rfl;have p2:part a 2=a / 256%256:=rfl;have V:part a 3=a%256:=by show a / 2^0%256=_;rw[Nat.pow_zero,Nat.div_one]
   rw[X,Z,p2,V];simp[Xr,List.intercalate,List.intersperse]
  have L:=xW a s;have e0:Value.string ⟨#[46]⟩=sv [46]:=rfl;unfold AJ;delta TZ H C E B N K Y ja A D;simp only[Qb,X3,Xf];rw[af aa];simp only[U,X3,e0,Yd _ _ [46] m F ar (by rw[p];omega) d,X4,p]
 |k+1,i,cs,m,c,hi,R,J,u,j,g=>by
  obtain⟨c,rfl⟩:∃q,c=q+1:=⟨c-1,aa⟩
  have w1:IntKind.i64.wrap (8*(i:Int))=((8*i:Nat):Int):=jR;have w2:IntKind.i64.wrap (24-((8*i:Nat):Int))=((24-8*i:Nat):Int):=jR;have w3:IntKind.i64.wrap ((i:Int)+1)=((i+1:Nat):Int):=jR;have hp:=EP a i;have w4:IntKind.i64.wrap ((part a i:Nat):Int)=((part a i:Nat):Int):=Zg;have o:a / 2^(24-8*i)<4294967296:=Nat.lt_of_le_of_lt (Nat.div_le_self _ _) s;have f:=Wz true true (a / 2^(24-8*i)) 8 o aa;have f:bin .and true true .int (.int .u32 ((a / 2^(24-8*i):Nat):Int)) (.int .u32 255)=some (.int .u32 ((part a i:Nat):Int)):=f;obtain⟨S,W,G⟩:=iJ (y:=i) (n:=1) (v:=sv (decDigits (part a i))) u rfl c7 aa rfl rfl;have z:S.get b=some (.cells (cs.take i++[sv (decDigits (part a i))]++cs.drop (i+1)) 0 0 false ty):=by rw[G.get,Mem.aX,ah rfl];rfl
  have T:S.next=m.next:=by rw[G.next,Mem.ij]
  obtain⟨x,q1,q2⟩:=Xc7 d a s b ty k (i+1) (cs.take i++[sv (decDigits (part a i))]++cs.drop (i+1)) S c aa aa cF z aa (by
   intro t ht;have O:(cs.take i).length=i:=vd;by_cases r:t<i
   ·rw[lV,uU aa,List.getElem?_take_of_lt r];exact g t r
   ·have:t=i:=by omega
    subst this;rw[lV,lB aa,O,pK];rfl)
  refine⟨x,?_,(((Fr.refl _ _).put _ (.inl ar)).jL G).trans q2⟩;unfold AJ;delta H C E B Y ja A;simp only[Qb,X3,Xf];rw[ah aa];simp only[zJ,w1,X3,kP,w2,XfR _ _ a (24-8*i) s aa,f,dS,w4,X4,Fv (part a i) aa,XhV b i aa,W,Xj,cz,w3];exact q1
def Yg(a:Nat)(j:a<4294967296)(d m):TA (d+1) AM [.int .u32 (a:Int)] m=some (sv (bN a),m):=by
 rw[Xly];obtain⟨f,k,l⟩:=Xc7 d a j m.next (some (2*Ur+1)) 4 0 Us ((aD m m.next).push (.cells Us 0 0 false (some (2*Ur+1)))) 18446744073709551616 aa aa rfl (A8 (aD m m.next) _) (by show m.next<m.next+1;omega) (by intro t n;omega);have i:Fr [] (aD m m.next) f:=by have c:Fr [m.next] (aD m m.next) f:=((Fr.push (W:=[m.next]) _)).trans l;refine⟨c.next,c.low,λx a b _=>c.bQ x a b (by intro w h;simp at h;subst h;exact b),λb g _=>c.get b g (by simp;intro e;subst e;exact absurd g (Nat.lt_irrefl _)),c.lo⟩
 refine jV (m1:=f) ?_ i rfl;delta JY T0 T2 Ua U A;rw[Xq];exact k
def XoX(a:Nat)(e:a<4294967296)(b)(f:rq b=true)(d m):TA (d+2) Sg [dL a b] m=some (sv (kb a b),m):=by rw[Xcu];refine cD (m1:=(aD m _).push (.cells [.int .u32 (a),I b] 0 0 false (some (2*Qe+1)))) ?_ (Fb.push _ aY) rfl;have e0:Value.string ⟨#[47]⟩=sv _:=rfl;have i:=xW a e;have j:=KK b f;delta Jp O C jo T F jn X B K U D;rw[Xk2,Xq];have g:=Yg a e d;have h:=λm=>XcL b f (d+1) m;generalize c:bN a=T at *;simp only[X7,X3,qa (m:=aD m m.next) (cs:=[.int .u32 (a),I b]) (ty:=some (2*Qe+1)) (y:=0+0) rfl,qa (m:=aD m m.next) (cs:=[.int .u32 (a),I b]) (ty:=some (2*Qe+1)) (y:=0+1) rfl,g,X4,kQ,fO,Xv,e0,Qu _ _ T [47] aq,h,Qu _ _ (T++[47]) (itoa b) aq];unfold kb;rw[c]
end Go.Ab.Sh
namespace Go.Ab
open Go Go.Lib
end Go.Ab
namespace Go.Ab.Sh
open Go Go.Ab Go.Lib
end Go.Ab.Sh
namespace Go.Ab
open Go Go.Lib
def Xzq:∀(l:ai)(M a u),parseUintM M a l=.ok u->a<=M->u<=M
 |[],M,a,u,h,b=>by cases h;exact b
 |c::r,M,a,u,h,b=>by
  unfold parseUintM at h;split at h
  ·split at h
   ·cases h
   ·split at h
    ·cases h
    ·exact Xzq r M _ u h aa
  grind
def LR{B}{l:ai}{u}(h:parseUintB B l=.ok u):u<=2^B-1:=by
 unfold parseUintB at h;split at h
 ·cases h
 ·exact Xzq l _ 0 u h c7
end Go.Ab
namespace Go.Ab.Sh
open Go Go.Ab Go.Lib
def XcO(B:Nat)(hB:B=16\/B=8)(s)(c:s.length<=4194304)(d m):∃u e b,TA d Qv [sv s,I 10,I B] m=some (.tuple ⟨[.int .u64 u,e]⟩,b)/\Fr [] m b /\
  ((∃n,parseUintB B s=.ok n/\u=n/\e=.nilIface)\/((∀n,parseUintB B s≠.ok n)/\∃p,e=.iface Qz (.pointer (some p)))):=by
 have key:∀r,Gu _ _ m=some r->TA d Qv [sv s,I 10,I B] m=some r:=λr h=>uF (by kernel_rfl) h d;have e:Gu Qv [sv s,I 10,I B] m=(match parseUintB B s with
   |.ok u=>some (.tuple #[.int .u64 u,.nilIface],m)
   |Lib.NumEnd.syntax=>oC (.int .u64 0) Qz m
   |.range=>oC (.int .u64 (2^B-1:Nat)) Qz m):=by
  have f16:∀z Z,uO Qv Qz z Z Qv [sv s,I 10,I B] m=if(B:Int)=z then(match parseUintB Z s with
   |.ok u=>some (.tuple #[.int .u64 u,.nilIface],m)
   |Lib.NumEnd.syntax=>oC (.int .u64 0) Qz m
   |.range=>oC (.int .u64 (2^Z-1:Nat)) Qz m)else none:=by
   intro z Z;show(if Qv=Qv/\s.length<=281474976710656/\(10:Int)=10/\(B:Int)=z then _ else none)=_;by_cases a:(B:Int)=z
   ·rw[ah ⟨rfl,aa,rfl,a⟩,ah a];rfl
   ·rw[af aa,af a]
  show(match uO Qv Qz 16 16 Qv [sv s,I 10,I B] m with|some r=>some r|none=>uO Qv Qz 8 8 Qv [sv s,I 10,I B] m)=_
  rw[f16,f16];rcases hB with rfl|rfl
  ·rw[ah bY];cases parseUintB 16 s<;>rfl
  ·rfl
 rw[e]at key;cases h:parseUintB B s with
 |ok v =>rw[h]at key;exact⟨v,.nilIface,m,key _ rfl,.refl _ _,.inl ⟨v,rfl,rfl,rfl⟩⟩
 |range =>rw[h]at key;exact⟨_,_,_,key _ rfl,.push _,.inr ⟨ar,_,rfl⟩⟩
 |_ =>rw[h]at key;exact⟨0,_,_,key _ rfl,.push _,.inr ⟨ar,_,rfl⟩⟩
end Go.Ab.Sh
namespace Go.Ab
open Go Go.Lib
def SL.block{m v ws}(h:SL m v ws):∃a,a<m.next/\(∀S,m.next<=S.next->S.get a=m.get a->SL S v ws)/\∀n,refs n 8 v=Nat.blt a n:=by obtain⟨b,y,r,c,d,ro,ty,rfl,e,f,g,i⟩:=h;exact⟨b,e,λS hn j=>⟨b,y,r,c,d,ro,ty,rfl,dU e hn,by rw[j];exact f,g,i⟩,λn=>rfl⟩
def VN{m:aj}{b y}{cs:List ae}{ty}(h:m.get b=some (.cells cs 0 0 false ty))(v:ae)(d:v.cells.toList=[v])(f:one v=true)(i:y+1<=cs.length){B}(hB:B<=b) :
  ∃S,Xe 1 (pt b y 0) v m=some S/\Fb B m S/\S.next=m.next/\S.get b=some (.cells (cs.take y++[v]++cs.drop (y+1)) 0 0 false ty)/\∀c,c≠b->S.get c=m.get c:=by
 have j:v.cells.size=1:=by rw[<-pL,d];rfl
 obtain⟨S,k,a⟩:=iJ (y:=y) (n:=1) (v:=v) h j c7 i (by rw[d];simp[f]) rfl;refine⟨S,k,((Fb.refl B _).put _ hB).jL a,by rw[a.next,Mem.ij],by rw[a.get,Mem.aX,ah rfl,d],λc g=>by rw[a.get,Mem.aX,af (λe=>g e.symm)]⟩
end Go.Ab
namespace Go.Ab.Sh
open Go Go.Ab Go.Lib
def eZ(c:UInt8)(w:ai):ai × ai × Bool:=match cut c w with|none=>(w,[],false)|some (x,g8)=>(x,g8,true)
def XcI(s)(a:s.length<=4194304)(c d m):TA (d+2) uc [sv s,sv [c]] m=some (.tuple ⟨[sv (eZ c s).1,sv (eZ c s).2.1,.bool (eZ c s).2.2]⟩,m):=by rw[XcH s a];unfold eZ;cases cut c s<;>rfl
def Xpo(c w):(eZ c w).1.length<=w.length/\(eZ c w).2.1.length<=w.length:=by
 unfold eZ;cases h:cut c w with
 |none=>simp
 |some p=>have:=Bd h;simp;omega
end Go.Ab.Sh
namespace Go.Ab
open Go Go.Lib
variable {c:UInt8}{x:ai}
def Xvd(g8:ai)(h:c∉x):split c (x++c::g8)=x::split c g8:=Kw (vP g8 h)
def Xu0(h:c∉x):split c x=[x]:=KA (ES h)
end Go.Ab
end
