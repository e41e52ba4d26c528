/-
  What the functions of the program answer, at every text and every question. No conditions.
-/
import Derived.Test.YtodhdplpcelokaaGreatDoorA2
set_option linter.all false
set_option maxHeartbeats 1000000
set_option maxRecDepth 100000
noncomputable section
namespace Go.Ab.Sh
open Go Go.Ab Go.Lib
variable {L:Lc}{N b b2 n y r sz:Nat}{X:NX}{cs D' vs:List Value}{k:Key}{l:List Cl}{w:ai}{g8:Value}
variable {c:Cx}{G m:Mem}{Q j:ay}{J s u:ao}{o h:Nat}{ts:List Tmp}{x:Option Rs}{i8:Value->Nat->ay->ao->Prop}{v:Value}{cu:Cu}
def Xow{a:Type}(A)(x g8:a):(A++[x]).set A.length g8=A++[g8]:=ar
def XaS(a:kt k=some r)(hf:bo r y=some (.l 11)):k≠[9,0]:=λe=>by
 subst e;cases a;unfold bo at hf;have:y%aN 12=0\/y%aN 12=1\/y%aN 12=2:=by have:=kM y (KJ 12);have e:aN 12=3:=rfl;omega
 rcases this with e|e|e<;>rw[e]at hf<;>cases hf
def W.apo(h:W c G Q J o m j s ((b2,0,D'++[ax L n 1])::(L.b,L.ver,vs)::ts))(an:L.r<2)(hn:vs.length=n)(b6:n≠0)(ag:∀v∈vs,∃z,v=.int .u32 z)(aB:o<=8589934592){r' e bytes}(O:s.X k=some (.c l))(D:kt k=some r)(h0:k≠[0])(ho:y<l.length)(hf:bo r y=some (.l r'))(hs:aN r'=sz)(hc:D'.length+1=sz)(ab:D'.all one=true)(b1:∀(i:Nat)(d),(D'.map Cl.v++[Cl.s 0 1])[i]?=some d->dz ((ch r')[i]?) d)(b5:(ch r')[D'.length]?=some (.l 11))(hb:bytes<=256){K:aj->Option Rs}{K2:ae->aj->Option Rs}(hK:∀v' S,(∀a,aL c s a≠none->a≠y::k->S.get (j a).b=m.get (j a).b)->K2 v' S=bp (bP (Xe 1 (pt (j k).b y (j k).ver) v' S)) λ_ m=>K m)(g:∀A' S i7,A'<=o+1+n->W c G Q J A' S i7 (s.nl k y (D'.map .v) vs) ts->aK c G Q J (K S) i8) :
  aK c G Q J (bp (dn e sz bytes (ax (j (y::k)) (au s.X k y) sz) (.slice (some ⟨b2,0,some sz⟩) 1 1) m) K2) i8:=by
 subst hs;obtain⟨Y,q2,_,_,_⟩:=h.ps.list O D ho hf;have a3:=(iK D).1;have E:=fB D hf;have x:y::k≠[1]:=(iK E).1;have u:y::k≠[0]:=λe=>by injection e with e1 e2;exact kB D e2
 have ⟨_,a6,b8⟩:=K6 h.ps O D hf Y;have a:aL c s k=some (.c l):=by rw[jI a3 h0 (gT D)];exact O
 have ⟨lr,R,am⟩:=h.ps.wt.root;have ⟨bf,av⟩:=h.at' (b2,0,D'++[ax L n 1]) br;generalize hN:au s.X k y=N at *;let cs:List Cl:=(D'++[ax L n 1]).map .v;have ac:cs.map Cl.raw=D'++[ax L n 1]:=by rw[List.map_map];exact List.map_id _
 have b0:cs.length=aN r':=aq;have a4:cs.all Cl.new=true:=by
  rw[cL];intro d hd;obtain⟨g8,hy,rfl⟩:=mz.mp hd;rcases nH.mp hy with e|e
  ·exact cL.mp ab g8 e
  ·rw[va.mp e];exact nX _ _ _
 obtain⟨v',S,m2,H1,p1,p2,V,A,p5,_,p6,p7⟩:=h.ps.nr.app (e:=e) (bytes:=bytes) (cs:=cs) a Y (by rwa[ac]) b0 a4 (uv (aO q2 aB) hb);rw[b8]at V A;have p1:dn e _ _ (ax _ N _) (.slice (some ⟨b2,0,some _⟩) 1 1) m=some _:=p1;rw[p1,X4,hK _ _ p7,p2,Xj];generalize I:bz s.X _=old at *;have al:((aL c s).set (y::k) (some (.c (old++cs)))).set k (some (.c (l.set y (.s (N+1) (aN r'))))) (y::k)=some (.c (old++cs)):=by simp[NX.aE,fQ,NX.aR]
 have a9:old.length+D'.length=(old++D'.map Cl.v).length:=ar;have a0:old++cs=(old++D'.map Cl.v)++[.v (ax L n 1)]:=aq;have a2:(old++cs)[old.length+D'.length]?=some (.v (ax L n 1)):=by grind
 have ⟨bc,b3⟩:=h.at' (L.b,L.ver,vs) ar;have C:=h.lt (L.b,L.ver,vs) ar;have a5:=h.nx (L.b,L.ver,vs) ar;have a1:m2.get L.b=some (.cells vs L.ver 0 false bc):=by rwa[A.get _ C.2 a5]
 have P:((aL c s).set (y::k) (some (.c (old++cs)))).set k (some (.c (l.set y (.s (N+1) (aN r'))))) ((old.length+D'.length)::y::k)=none:=by
  rw[NX.aE _ _ (uq _ y k),NX.aE _ _ (fQ _ _)];cases bd:aL c s ((old.length+D'.length)::y::k)with
  |none=>rfl
  |some ob =>
   obtain⟨l5,n5,be,z1,z2,z3⟩:=h.ps.nr.par (old.length+D'.length) y k aq;have:bz (aL c s) (y::k)=l5:=by unfold bz;rw[z1]
   grind
 have a7:vs.all one=true:=by rw[cL];intro g8 hy;obtain⟨z,rfl⟩:=ag g8 hy;rfl
 have o1:=V.own al a2 b6 aa P (λf p=>by
  rcases A.nw f p with q|⟨U,w1,w2⟩
  ·have:=C.2;omega
  ·rw[<-w2];exact a5 U w1) (dU C.2 A.next) an a1 aa a7
 have Z:(((((aL c s).set (y::k) (some (.c (old++cs)))).set k (some (.c (l.set y (.s (N+1) (aN r')))))).set ((old.length+D'.length)::y::k) (some (.c (vs.map .v)))).set (y::k) (some (.c ((old++cs).set (old.length+D'.length) (.s n 1)))))=aL c (s.nl k y (D'.map .v) vs):=by
  have e1:(s.nl k y (D'.map .v) vs)={ s with X:=((((s.X.set (y::k) (some (.c (old++(D'.map Cl.v++[.s 0 1]))))).set k (some (.c (l.set y (.s (N+1) (aN r')))))).set ((old.length+D'.length)::y::k) (some (.c (vs.map .v)))).set (y::k) (some (.c ((old++cs).set (old.length+D'.length) (.s n 1))))) }:=by
   unfold ao.nl ao.iV ao.app;have T:=pa O Y (D'.map Cl.v++[.s 0 1]) aq;rw[I]at T;have B:bg s.X k y (D'.map Cl.v++[.s 0 1]) (y::k)=some (.c (old++(D'.map Cl.v++[.s 0 1]))):=by rw[T,NX.aE _ _ (fQ y k),NX.aR]
   rw[vY B,T,hN];have ep:N*((D'.map Cl.v).length+1)+(D'.map Cl.v).length=old.length+D'.length:=by rw[gB,a6,hc]
   rw[ep,hn];have el:(old++(D'.map Cl.v++[Cl.s 0 1])).set (old.length+D'.length) (Cl.s n 1)=(old++cs).set (old.length+D'.length) (Cl.s n 1):=by rw[a0,<-lV,a9,Xow,Xow]
   rw[el]
  rw[e1];have r1:s.X.set (y::k) (some (.c (old++(D'.map Cl.v++[.s 0 1])))) [0]=some (.c lr):=by rwa[NX.aE _ _ (bq u)]
  have r2:(s.X.set (y::k) (some (.c (old++(D'.map Cl.v++[.s 0 1]))))).set k (some (.c (l.set y (.s (N+1) (aN r'))))) [0]=some (.c lr):=by rwa[NX.aE _ _ (bq h0)]
  have a8:(old.length+D'.length)::y::k≠[0]:=λe=>aq;have b9:(old.length+D'.length)::y::k≠[1]:=λe=>aq;have r3:((s.X.set (y::k) (some (.c (old++(D'.map Cl.v++[.s 0 1]))))).set k (some (.c (l.set y (.s (N+1) (aN r')))))).set ((old.length+D'.length)::y::k) (some (.c (vs.map .v))) [0]=some (.c lr):=by rw[NX.aE _ _ (bq a8)];exact r2
  have t1:=vS (c:=c) (s:=s) (a:=y::k) (some (.c (old++(D'.map Cl.v++[.s 0 1])))) R x u (gT E);have t4:=vS (c:=c) (s:={ s with X:=((s.X.set (y::k) (some (.c (old++(D'.map Cl.v++[.s 0 1]))))).set k (some (.c (l.set y (.s (N+1) (aN r')))))).set ((old.length+D'.length)::y::k) (some (.c (vs.map .v))) }) (a:=y::k) (some (.c ((old++cs).set (old.length+D'.length) (.s n 1)))) r3 x u (gT E);rw[<-t4,<-vS (c:=c) (s:={ s with X:=(s.X.set (y::k) (some (.c (old++(D'.map Cl.v++[.s 0 1]))))).set k (some (.c (l.set y (.s (N+1) (aN r'))))) }) (a:=(old.length+D'.length)::y::k) (some (.c (vs.map .v))) r2 b9 a8 ⟨(λe=>aq),(λe=>aq)⟩,<-vS (c:=c) (s:={ s with X:=s.X.set (y::k) (some (.c (old++(D'.map Cl.v++[.s 0 1])))) }) (a:=k) (some (.c (l.set y (.s (N+1) (aN r'))))) r1 a3 h0 (gT D),<-t1];funext q;unfold NX.set;by_cases hq:q=y::k
  ·simp[hq]
  ·simp[hq]
 have bb:mL c (s.nl k y (D'.map .v) vs):=by
  have T:=pa O Y (D'.map Cl.v++[.s 0 1]) aq;rw[I]at T;have B:bg s.X k y (D'.map Cl.v++[.s 0 1]) (y::k)=some (.c (old++(D'.map Cl.v++[.s 0 1]))):=by rw[T,NX.aE _ _ (fQ y k),NX.aR]
  have w1:=h.ps.wt.ap O D hf Y aq (cs:=D'.map Cl.v++[.s 0 1]) aq b1;have w2:=w1.iV (y:=old.length+D'.length) (n:=0) (vs:=vs) B E (by rwa[a6,fd_row rfl N _ aa]) ar ag;refine⟨h.ps.ok.le,h.ps.ok.ee,?_,h.ps.ok.il,?_⟩
  ·show WT (iz (bg s.X k y _) _ _ vs)
   grind
  ·show Ge _ (iz (bg s.X k y _) _ _ vs);refine h.ps.ok.ge.to λf o' p=>?_;rw[Lj B _ _ f o' (by
    grind) (by
    rcases p with e|e<;>subst e
    ·simp
    grind)]
   exact Ll O Y _ aq f o'
 have H:∀f,aL c _ f≠none->f=(old.length+D'.length)::y::k\/((aL c s).set _ _).set k _ f≠none:=λf p=>by
  rw[<-Z]at p;by_cases e1:f=(old.length+D'.length)::y::k
  ·exact .inl e1
  ·refine .inr λe2=>p ?_;by_cases e3:f=y::k
   ·subst e3;rw[al]at e2;cases e2
   ·rw[NX.aE _ _ e3,NX.aE _ _ e1];exact e2
 have WF:=(h.wk.trans A).own C.1 (h.wk.Ys (by rw[a];simp) p6 A.low) H;rw[Z]at o1;have w:∀q,q≠(old.length+D'.length)::y::k->(H1.set _ L) q=H1 q:=λq hq=>ay.aE _ _ hq;have f0:([0])≠(old.length+D'.length)::y::k:=λe=>jA;have f1:([1])≠(old.length+D'.length)::y::k:=λe=>jA;have f2:([2])≠(old.length+D'.length)::y::k:=λe=>jA;have g0:=bq u;have g1:=bq x;have g2:([2])≠y::k:=λe=>by injection e with e1 e2;exact kB D e2.symm
 have F:∀b,b<m.next->b≠L.b->(∀U,aL c s U≠none->(j U).b≠b)->∀f,aL c _ f≠none->((H1.set _ L) f).b≠b:=λb hb aw aA f p=>by
  by_cases e1:f=(old.length+D'.length)::y::k
  ·rw[e1,ay.aR];exact bq aw
  ·rw[w _ e1];rcases H f p with e2|e2
   ·exact absurd e2 e1
   ·rcases A.nw f e2 with q|⟨U,w1,w2⟩
    ·omega
    ·rw[<-w2];exact aA U w1
 have ba:c.wb≠L.b:=by have:=h.wb;omega
 have PF:PS c _ m2 _ _:={
  nr:=o1
  wl:=h.ps.wl.wk h.ps.nb A
  nb:=F _ h.ps.wl.lt ba h.ps.nb
  pC:=by rw[w _ f1,p5 _ g1];exact h.ps.pC
  pP:=by rw[w _ f0,p5 _ g0];exact h.ps.pP
  pO:=by rw[w _ f2,p5 _ g2];exact h.ps.pO
  ok:=bb }
 have b7:L.b∉ts.map (·.1):=by have:=h.nd;rw[lx,lx,zl,zl]at this;exact this.2.1
 refine g _ m2 _ aa {
  ps:=PF
  wk:=WF
  wb:=h.wb
  lt:=λt M=>by have:=h.lt t (by simp[M]);have:=A.next;omega
  nx:=λt M=>F t.1 (h.lt t (by simp[M])).2 (λe=>b7 aq) (h.nx t (by simp[M]))
  at':=λt M=>by obtain⟨ty,q⟩:=h.at' t (by simp[M]);exact⟨ty,by rwa[A.get _ (h.lt t (by simp[M])).2 (h.nx t (by simp[M]))]⟩
  nd:=h.tl.tl.nd }
def W.ads(h:W c G Q J o m j s ((L.b,L.ver,vs)::ts))(a9:L.r<2)(hn:vs.length=n)(a2:n≠0)(a7:∀v∈vs,∃z,v=.int .u32 z)(hk:s.X k=some (.c l))(C:kt k=some r)(h0:k≠[0])(ho:y<l.length)(hf:bo r y=some (.l 11)){K:aj->Option Rs}(g:∀m1 i7,(∀d,d≠y::k->i7 d=j d)->W c G Q J (max o n) m1 i7 (s.iV k y vs) ts->aK c G Q J (K m1) i8) :
  aK c G Q J (bp (bP (Xe 1 (pt (j k).b y (j k).ver) (ax L n 1) m)) λ_ m=>K m) i8:=by
 obtain⟨q1,q2,_,_,_⟩:=h.ps.list hk C ho hf;have a0:=(iK C).1;have D:=fB C hf;have x:y::k≠[1]:=(iK D).1;have w:y::k≠[0]:=λe=>by injection e with e1 e2;exact kB C e2
 have a:aL c s k=some (.c l):=by rwa[jI a0 h0 (gT C)]
 have ⟨lr,A,a8⟩:=h.ps.wt.root;generalize hN:au s.X k y=N at *;have q1:l[y]?=some (.s N 1):=q1;have an:ax L n 1=.slice _ n _:=af a2;have O:(ax L n 1).cells=#[ax L n 1]:=by rw[an];rfl
 have a6:∀i,aL c s _=none:=λi=>by
  cases b0:aL c s (i::y::k)with
  |none=>rfl
  |some ob =>obtain⟨l5,n5,b1,z1,z2,z3⟩:=h.ps.nr.par i y k aq;rw[jI x w (gT D)]at z1;obtain⟨r5,y1,y2⟩:=h.ps.wt.ty _ _ z1;rw[D]at y1;cases y1;have:=y2 i _ z2;rw[XN]at this;exact False.elim this
 have d1:=h.ps.nr.disown a q1 a6;generalize B:((aL c s).set _ _).set k _=I at d1;have T:I k=some (.c (l.set y (.v (ax (j (y::k)) N 1)))):=by rw[<-B,NX.aR]
 have R:∀d,I d≠none->aL c s d≠none:=λd f=>by
  rw[<-B]at f;by_cases e:d=k
  ·grind
  ·rw[NX.aE _ _ e]at f;by_cases e2:d=y::k
   ·simp_all[NX.aR]
   ·rwa[NX.aE _ _ e2]at f
 obtain⟨S,u1,u2,u3,u4,u5⟩:=d1.put (y:=y) (n:=1) T (by rw[O];rfl) (by rw[O];simp[nX]) aq (λi h1 h2=>by have:i=y:=aa;subst this;exact⟨_,by rw[du,ah rfl,ah ho]⟩)
 rw[u1,Xj];have al:(l.set y (.v (ax (j (y::k)) N 1))).take y++(ax L n 1).cells.toList.map Cl.v++(l.set y (.v (ax (j (y::k)) N 1))).drop (y+1)=l.set y (.v (ax L n 1)):=by
  rw[O];apply fk;intro i;have g1:=aX (l:=l.set y (.v (ax (j (y::k)) N 1))) (z:=[Cl.v (ax L n 1)]) (y:=y) aq i;refine aU g1 ?_;rw[du,du];by_cases p:y<=i/\i<y+[Cl.v (ax L n 1)].length
  ·have:y=i:=by grind
   subst this;rw[ah p,ah rfl,ah ho,pK];rfl
  ·have:y≠i:=λe=>p aq;rw[af p,af this,af this]
 rw[al]at u2 u3;have F:I.set k _ k=some (.c (l.set y (.v (ax L n 1)))):=NX.aR _ _ _;have U:∀d,I.set k (some (.c (l.set y (.v (ax L n 1))))) d≠none->aL c s d≠none:=λd f=>by
  by_cases e:d=k
  ·grind
  ·rw[NX.aE _ _ e]at f;grind
 have ⟨aA,ac⟩:=h.at' (L.b,L.ver,vs) ar;have a1:=h.lt (L.b,L.ver,vs) ar;have a3:=h.nx (L.b,L.ver,vs) ar;have P:=u3.sub R;have Z:S.get L.b=some (.cells vs L.ver 0 false aA):=by rwa[P.get _ a1.2 a3]
 have a4:vs.all one=true:=by rw[cL];intro g8 hy;obtain⟨z,rfl⟩:=a7 g8 hy;rfl
 have M:I.set k (some (.c (l.set y (.v (ax L n 1))))) (y::k)=none:=by rw[NX.aE _ _ (fQ y k),<-B,NX.aE _ _ (fQ y k),NX.aR]
 have o1:=u2.own (sz:=1) F aq a2 aa M (λd f=>a3 d (U d f)) aa a9 Z aa a4;have V:((I.set k (some (.c (l.set y (.v (ax L n 1)))))).set (y::k) (some (.c (vs.map .v)))).set k (some (.c ((l.set y (.v (ax L n 1))).set y (.s n 1))))=aL c (s.iV k y vs):=by
  have r1:s.X.set (y::k) (some (.c (vs.map Cl.v))) [0]=some (.c lr):=by rw[NX.aE _ _ (bq w)];exact A
  have e1:s.iV k y vs={ s with X:=(s.X.set (y::k) (some (.c (vs.map Cl.v)))).set k (some (.c (l.set y (.s vs.length 1)))) }:=by unfold ao.iV;rw[vY hk y vs]
  rw[e1,<-vS (c:=c) (s:={ s with X:=s.X.set (y::k) (some (.c (vs.map Cl.v))) }) (a:=k) (some (.c (l.set y (.s vs.length 1)))) r1 a0 h0 (gT C),<-vS (c:=c) (s:=s) (a:=y::k) (some (.c (vs.map Cl.v))) A x w (gT D),List.set_set,hn,<-B];funext q;unfold NX.set;by_cases hq:q=k
  ·simp[hq]
  ·by_cases a5:q=y::k
   ·simp[a5]
   ·simp[hq,a5]
 rw[V]at o1;have Y:∀d,aL c _ d≠none->d=y::k\/I.set k _ d≠none:=λd f=>by
  by_cases e1:d=y::k
  ·exact .inl e1
  ·refine .inr λe2=>f ?_;by_cases e3:d=k
   ·rw[e3,F]at e2;cases e2
   ·rw[<-V,NX.aE _ _ e3,NX.aE _ _ e1];exact e2
 have WF:=(h.wk.trans P).own a1.1 (h.wk.Ys (by rw[a];simp) u5 P.low) Y;have u:∀q,q≠y::k->(j.set _ L) q=j q:=λq hq=>ay.aE _ _ hq;have E:∀b,b<m.next->b≠L.b->(∀k0,aL c s k0≠none->(j k0).b≠b)->∀d,aL c _ d≠none->((j.set _ L) d).b≠b:=λb hb ab aB d f=>by
  by_cases e1:d=y::k
  ·rw[e1,ay.aR];exact bq ab
  ·rw[u _ e1];rcases Y d f with e2|e2
   ·exact absurd e2 e1
   ·grind
 have aw:mL c (s.iV k y vs):=by
  refine⟨h.ps.ok.le,h.ps.ok.ee,h.ps.wt.iV hk C hf q1 a7,h.ps.ok.il,h.ps.ok.ge.to λd o' f=>?_⟩;show au s.X d o'<=au (iz s.X k y vs) d o';rw[Lj hk _ _ d o' (by
   rcases f with e|e<;>subst e
   ·grind
   ·exact bq (XaS C hf)) (by
   grind)]
  exact c6 _
 have g2:([2])≠y::k:=λe=>by injection e with e1 e2;exact kB C e2.symm
 have am:L.b∉ts.map (·.1):=by have:=h.nd;rw[lx,zl]at this;exact this.1
 have av:c.wb≠L.b:=by have:=h.wb;omega
 refine g S _ u {
  ps:={
   nr:=o1
   wl:=h.ps.wl.wk h.ps.nb P
   nb:=E c.wb h.ps.wl.lt av h.ps.nb
   pC:=by rw[u _ (bq x)];exact h.ps.pC
   pP:=by rw[u _ (bq w)];exact h.ps.pP
   pO:=by rw[u _ g2];exact h.ps.pO
   ok:=aw }
  wk:=WF
  wb:=h.wb
  lt:=λt H=>by
   have:=h.lt t (by simp[H])
   grind
  nx:=λt H=>E t.1 (h.lt t (by simp[H])).2 (λe=>am aq) (h.nx t (by simp[H]))
  at':=λt H=>by obtain⟨ty,q⟩:=h.at' t (by simp[H]);exact⟨ty,by rwa[P.get _ (h.lt t (by simp[H])).2 (h.nx t (by simp[H]))]⟩
  nd:=h.tl.nd }
def oN{i}(h:i<N):i*sz+sz<=N*sz:=by
 have:=lU sz (show i+1<=N from h)
 grind
def MU(c:cs[y]?=some g8)(e:0<sz):∃t,(cs.drop y).take sz=g8::t:=by
 obtain⟨sz,rfl⟩:∃d,sz=d+1:=⟨sz-1,aa⟩
 obtain⟨a,b⟩:=dO.mp c;rw[mB a,b];simp
def PS.aF(h:PS c o m j s)(a:s.X k=some (.c l))(e:k≠[1])(d:k≠[0]):∃ty,m.get (j k).b=some (.cells (cells j k l) (j k).ver 0 false ty):=h.nr.at' k (.c l) (by obtain⟨r,f,_⟩:=h.wt.ty _ _ a;rw[jI e d (gT f)];exact a)
def PS.BY(h:PS c o m j s)(a:s.X k=some (.c l))(g:kt k=some r)(b:aN r=sz)(u:l.length=N*sz)(hf:(ch r)[0]?=some .s)(i)(hi:i<N):(cells j k l)[i*sz]?=some (sv (di s.X k (i*sz+0))):=by
 have f:0<sz:=by rw[<-b];exact KJ r
 have q:=oN (sz:=sz) hi;have ⟨d,d1,d2⟩:=h.wt.get a g (y:=i*sz+0) aa;rw[fd_row b i 0 f,hf]at d2;cases d with
 |s n z=>trivial
 |v p =>
  obtain⟨t,rfl,w⟩:=d2;have e:di s.X k (i*sz+0)=t:=by unfold di dm;rw[cU a,d1];rfl
  rw[e,Xn];rw[gp]at d1;rw[d1];rfl
def PS.XdS(h:PS c o m j s)(a:s.X k=some (.c l))(g:kt k=some r)(b:aN r=sz)(u:l.length=N*sz)(hf:(ch r)[0]?=some (.i .u32))(i)(hi:i<N):(cells j k l)[i*sz]?=some (.int .u32 (bI s.X k (i*sz+0))):=by
 have f:0<sz:=by rw[<-b];exact KJ r
 have q:=oN (sz:=sz) hi;have ⟨d,d1,d2⟩:=h.wt.get a g (y:=i*sz+0) aa;rw[fd_row b i 0 f,hf]at d2;cases d with
 |s n z=>trivial
 |v p =>
  obtain⟨t,rfl⟩:=d2;have e:bI s.X k (i*sz+0)=t:=by unfold bI dm;rw[cU a,d1];rfl
  rw[e,Xn];rw[gp]at d1;rw[d1];rfl
def XpC(a v)(cs:List ae){m}(f:b<m.next)(e:∃ty,m.get b=some (.cells [sv v] 0 0 false ty))(d):TA (d+1) DJ [.agg ⟨sv a::cs⟩,pt b 0 0] m=some (.bool (decide (a=v)),m):=by rw[Xap];obtain⟨ty,e⟩:=e;refine cD (m1:=(aD m _).push (.cells (sv a::cs) 0 0 false (some (2*vv+1)))) ?_ (Fb.push _ aY) rfl;have l1:X9 _ 1 (pt b 0 0) ((aD m m.next).push (.cells (sv a::cs) 0 0 false (some (2*vv+1))))=some _:=Xt (by rw[Mem.bV,af (by show m.next≠b;omega)];exact e) rfl;have c:(Value.cells (.agg _)).toList=sv a::cs:=rfl;delta Ix F X B K U;rw[c,Xq];simp only[X7,X3,qa (m:=aD m m.next) (cs:=sv a::cs) (ty:=some (2*vv+1)) (y:=0+0) rfl,l1,Qh]
def Xpw(L)(k:L.r<2)(N)(s:N<=8589934592)(q:Nat->ai)(v){b}{m:aj}(g:b<m.next)(h:∃ty,m.get b=some (.cells [sv v] 0 0 false ty))(cs:List ae)(u:∃ty,m.get L.b=some (.cells cs L.ver 0 false ty))(w:cs.length=N*2)(j:∀i,i<N->cs[i*2]?=some (sv (q (i*2+0))))(d) :
  ∀n i f,i+n=N->n<f->Qq (aH (d+1)) f (I i) (I N) (.func (.func DJ) ⟨[]⟩ ⟨[pt b 0 0]⟩) (ax L N 2) m=some (fU (gx (λy=>decide (q y=v)) 2 0 n i),m)
 |0,i,f+1,e,hf=>by have:i=N:=aa;subst this;unfold Qq;delta H L E jd B K jb ja A ji;simp only[Qb,X3,j1,j4,X5];trivial
 |n+1,i,f+1,e,hf=>by
  have hi:i<N:=aa;have c:decide (((i:Nat))<((N):Int))=true:=bj aa;obtain⟨ty,a⟩:=u;have ⟨t,x⟩:=MU (sz:=2) (j i hi) aa;have o:o9 (TA _) (.func (.func _) ⟨[]⟩ _) [.agg _] m=some _:=XpC (q (i*2+0)) v t g h d;unfold Qq;delta H L E jd B K jb ja A ji;simp only[Qb,X3,c,X6,eU L k N 2 i .i64 hi,Xw a aa x,o,X4];unfold gx;by_cases l:q (i*2+0)=v
  ·rw[bj l,X6,ah rfl];rfl
  ·rw[bJ l,X5,af ak];have p:bin .add true true .int (I i) (.int .i64 1)=some (I (i+1:Nat)):=by
    rw[cz];have:((i:Nat):Int)+1=((i+1:Nat):Int):=aa;rw[this,wrap64 _ aa]
   simp only[p,X3];exact Xpw L k N s q v g h cs ⟨ty,a⟩ w j d n _ f aa aa
def XpM(h:PS c o m j s)(a:o<=8589934592)(F:s.X k=some (.c l))(u:kt k=some r)(G:y<l.length)(hf:bo r y=some (.l 7))(v)(C:b<m.next)(E:∃ty,m.get b=some (.cells [sv v] 0 0 false ty))(d) :
  TA (d+2) NL [ax (j (y::k)) (au s.X k y) 2,.func (.func DJ) ⟨[]⟩ ⟨[pt b 0 0]⟩] m=some (fU (fq s.X k y 2 0 v),m):=by
 obtain⟨_,H,_,K,I⟩:=h.list F u G hf;have f:=fB u hf;have q:y::k≠[0]:=λe=>by injection e with e1 e2;exact kB u e2
 rw[X2g];refine jV ?_ (Fr.refl _ _) Nr;delta Gs NQ NS N A;simp only[dx,X3];have p:∃ty,(aD m m.next).get b=some _:=E;have g:b<(aD m m.next).next:=C;unfold fq;by_cases z:au s.X k y=0
 ·rw[z];trivial
 ·have ⟨J,w,x,B⟩:=I z;have ⟨ty,D⟩:=h.aF w ((iK f).1) q;have n:∃ty,(aD m m.next).get _=some _:=⟨ty,D⟩
  exact Xpw _ B _ (aO H a) _ v g p _ n (by rwa[gM]) (λi hi=>h.BY w f rfl x rfl i hi) d _ 0 _ aa aa
def XpA(a v)(cs:List ae){m}(f:b<m.next)(e:∃ty,m.get b=some (.cells [sv v] 0 0 false ty))(d):TA (d+1) DK [.agg ⟨sv a::cs⟩,pt b 0 0] m=some (.bool (decide (a=v)),m):=by rw[Xay];obtain⟨ty,e⟩:=e;refine cD (m1:=(aD m _).push (.cells (sv a::cs) 0 0 false (some (2*vt+1)))) ?_ (Fb.push _ aY) rfl;have l1:X9 _ 1 (pt b 0 0) ((aD m m.next).push (.cells (sv a::cs) 0 0 false (some (2*vt+1))))=some _:=Xt (by rw[Mem.bV,af (by show m.next≠b;omega)];exact e) rfl;have c:(Value.cells (.agg _)).toList=sv a::cs:=rfl;delta Iy F X B K U;rw[c,Xq];simp only[X7,X3,qa (m:=aD m m.next) (cs:=sv a::cs) (ty:=some (2*vt+1)) (y:=0+0) rfl,l1,Qh]
def Xny(L)(k:L.r<2)(N)(s:N<=8589934592)(q:Nat->ai)(v){b}{m:aj}(g:b<m.next)(h:∃ty,m.get b=some (.cells [sv v] 0 0 false ty))(cs:List ae)(u:∃ty,m.get L.b=some (.cells cs L.ver 0 false ty))(w:cs.length=N*2)(j:∀i,i<N->cs[i*2]?=some (sv (q (i*2+0))))(d) :
  ∀n i f,i+n=N->n<f->Qk (aH (d+1)) f (I i) (I N) (.func (.func DK) ⟨[]⟩ ⟨[pt b 0 0]⟩) (ax L N 2) m=some (fU (gx (λy=>decide (q y=v)) 2 0 n i),m)
 |0,i,f+1,e,hf=>by have:i=N:=aa;subst this;unfold Qk;delta H L E jd B K jb ja A ji;simp only[Qb,X3,j1,j4,X5];trivial
 |n+1,i,f+1,e,hf=>by
  have hi:i<N:=aa;have c:decide (((i:Nat))<((N):Int))=true:=bj aa;obtain⟨ty,a⟩:=u;have ⟨t,x⟩:=MU (sz:=2) (j i hi) aa;have o:o9 (TA _) (.func (.func _) ⟨[]⟩ _) [.agg _] m=some _:=XpA (q (i*2+0)) v t g h d;unfold Qk;delta H L E jd B K jb ja A ji;simp only[Qb,X3,c,X6,eU L k N 2 i .i64 hi,Xw a aa x,o,X4];unfold gx;by_cases l:q (i*2+0)=v
  ·rw[bj l,X6,ah rfl];rfl
  ·rw[bJ l,X5,af ak];have p:bin .add true true .int (I i) (.int .i64 1)=some (I (i+1:Nat)):=by
    rw[cz];have:((i:Nat):Int)+1=((i+1:Nat):Int):=aa;rw[this,wrap64 _ aa]
   simp only[p,X3];exact Xny L k N s q v g h cs ⟨ty,a⟩ w j d n _ f aa aa
def XpK(h:PS c o m j s)(a:o<=8589934592)(F:s.X k=some (.c l))(u:kt k=some r)(G:y<l.length)(hf:bo r y=some (.l 9))(v)(C:b<m.next)(E:∃ty,m.get b=some (.cells [sv v] 0 0 false ty))(d) :
  TA (d+2) NK [ax (j (y::k)) (au s.X k y) 2,.func (.func DK) ⟨[]⟩ ⟨[pt b 0 0]⟩] m=some (fU (fq s.X k y 2 0 v),m):=by
 obtain⟨_,H,_,K,I⟩:=h.list F u G hf;have f:=fB u hf;have q:y::k≠[0]:=λe=>by injection e with e1 e2;exact kB u e2
 rw[X26];refine jV ?_ (Fr.refl _ _) Nr;delta Qw NM NN N A;simp only[dx,X3];have p:∃ty,(aD m m.next).get b=some _:=E;have g:b<(aD m m.next).next:=C;unfold fq;by_cases z:au s.X k y=0
 ·rw[z];trivial
 ·have ⟨J,w,x,B⟩:=I z;have ⟨ty,D⟩:=h.aF w ((iK f).1) q;have n:∃ty,(aD m m.next).get _=some _:=⟨ty,D⟩
  exact Xny _ B _ (aO H a) _ v g p _ n (by rwa[gM]) (λi hi=>h.BY w f rfl x rfl i hi) d _ 0 _ aa aa
def XpD(a v)(cs:List ae){m}(f:b<m.next)(e:∃ty,m.get b=some (.cells [sv v] 0 0 false ty))(d):TA (d+1) C6 [.agg ⟨sv a::cs⟩,pt b 0 0] m=some (.bool (decide (a=v)),m):=by rw[X84];obtain⟨ty,e⟩:=e;refine cD (m1:=(aD m _).push (.cells (sv a::cs) 0 0 false (some (2*su+1)))) ?_ (Fb.push _ aY) rfl;have l1:X9 _ 1 (pt b 0 0) ((aD m m.next).push (.cells (sv a::cs) 0 0 false (some (2*su+1))))=some _:=Xt (by rw[Mem.bV,af (by show m.next≠b;omega)];exact e) rfl;have c:(Value.cells (.agg _)).toList=sv a::cs:=rfl;delta Hr F X B K U;rw[c,Xq];simp only[X7,X3,qa (m:=aD m m.next) (cs:=sv a::cs) (ty:=some (2*su+1)) (y:=0+0) rfl,l1,Qh]
def Xpg(L)(k:L.r<2)(N)(s:N<=8589934592)(q:Nat->ai)(v){b}{m:aj}(g:b<m.next)(h:∃ty,m.get b=some (.cells [sv v] 0 0 false ty))(cs:List ae)(u:∃ty,m.get L.b=some (.cells cs L.ver 0 false ty))(w:cs.length=N*3)(j:∀i,i<N->cs[i*3]?=some (sv (q (i*3+0))))(d) :
  ∀n i f,i+n=N->n<f->zI (aH (d+1)) f (I i) (I N) (.func (.func C6) ⟨[]⟩ ⟨[pt b 0 0]⟩) (ax L N 3) m=some (fU (gx (λy=>decide (q y=v)) 3 0 n i),m)
 |0,i,f+1,e,hf=>by have:i=N:=aa;subst this;unfold zI;delta H L E jd B K jb ja A ji;simp only[Qb,X3,j1,j4,X5];trivial
 |n+1,i,f+1,e,hf=>by
  have hi:i<N:=aa;have c:decide (((i:Nat))<((N):Int))=true:=bj aa;obtain⟨ty,a⟩:=u;have ⟨t,x⟩:=MU (sz:=3) (j i hi) aa;have o:o9 (TA _) (.func (.func _) ⟨[]⟩ _) [.agg _] m=some _:=XpD (q (i*3+0)) v t g h d;unfold zI;delta H L E jd B K jb ja A ji;simp only[Qb,X3,c,X6,eU L k N 3 i .i64 hi,Xw a aa x,o,X4];unfold gx;by_cases l:q (i*3+0)=v
  ·rw[bj l,X6,ah rfl];rfl
  ·rw[bJ l,X5,af ak];have p:bin .add true true .int (I i) (.int .i64 1)=some (I (i+1:Nat)):=by
    rw[cz];have:((i:Nat):Int)+1=((i+1:Nat):Int):=aa;rw[this,wrap64 _ aa]
   simp only[p,X3];exact Xpg L k N s q v g h cs ⟨ty,a⟩ w j d n _ f aa aa
def XpN(h:PS c o m j s)(a:o<=8589934592)(F:s.X k=some (.c l))(u:kt k=some r)(G:y<l.length)(hf:bo r y=some (.l 12))(v)(C:b<m.next)(E:∃ty,m.get b=some (.cells [sv v] 0 0 false ty))(d) :
  TA (d+2) NP [ax (j (y::k)) (au s.X k y) 3,.func (.func C6) ⟨[]⟩ ⟨[pt b 0 0]⟩] m=some (fU (fq s.X k y 3 0 v),m):=by
 obtain⟨_,H,_,K,I⟩:=h.list F u G hf;have f:=fB u hf;have q:y::k≠[0]:=λe=>by injection e with e1 e2;exact kB u e2
 rw[X31];refine jV ?_ (Fr.refl _ _) Nr;delta Gv NT NU N A;simp only[dx,X3];have p:∃ty,(aD m m.next).get b=some _:=E;have g:b<(aD m m.next).next:=C;unfold fq;by_cases z:au s.X k y=0
 ·rw[z];trivial
 ·have ⟨J,w,x,B⟩:=I z;have ⟨ty,D⟩:=h.aF w ((iK f).1) q;have n:∃ty,(aD m m.next).get _=some _:=⟨ty,D⟩
  exact Xpg _ B _ (aO H a) _ v g p _ n (by rwa[gM]) (λi hi=>h.BY w f rfl x rfl i hi) d _ 0 _ aa aa
def XpB(a v)(cs:List ae){m}(f:b<m.next)(e:∃ty,m.get b=some (.cells [.int .u32 v] 0 0 false ty))(d):TA (d+1) zQ [.agg ⟨.int .u32 a::cs⟩,pt b 0 0] m=some (.bool (decide (a=v)),m):=by rw[X6g];obtain⟨ty,e⟩:=e;refine cD (m1:=(aD m _).push (.cells (.int .u32 a::cs) 0 0 false (some (2*sC+1)))) ?_ (Fb.push _ aY) rfl;have l1:X9 _ 1 (pt b 0 0) ((aD m m.next).push (.cells (.int .u32 a::cs) 0 0 false (some (2*sC+1))))=some _:=Xt (by rw[Mem.bV,af (by show m.next≠b;omega)];exact e) rfl;have c:(Value.cells (.agg _)).toList=.int .u32 a::cs:=rfl;delta G0 F X B K U;rw[c,Xq];simp only[X7,X3,qa (m:=aD m m.next) (cs:=.int .u32 a::cs) (ty:=some (2*sC+1)) (y:=0+0) rfl,l1,dI]
def Xpc(L)(k:L.r<2)(N)(s:N<=8589934592)(q:Nat->Int)(v){b}{m:aj}(g:b<m.next)(h:∃ty,m.get b=some (.cells [.int .u32 v] 0 0 false ty))(cs:List ae)(u:∃ty,m.get L.b=some (.cells cs L.ver 0 false ty))(w:cs.length=N*6)(j:∀i,i<N->cs[i*6]?=some (.int .u32 (q (i*6+0))))(d) :
  ∀n i f,i+n=N->n<f->zM (aH (d+1)) f (I i) (I N) (.func (.func zQ) ⟨[]⟩ ⟨[pt b 0 0]⟩) (ax L N 6) m=some (fU (gx (λy=>decide (q y=v)) 6 0 n i),m)
 |0,i,f+1,e,hf=>by have:i=N:=aa;subst this;unfold zM;delta H L E jd B K jb ja A ji;simp only[Qb,X3,j1,j4,X5];trivial
 |n+1,i,f+1,e,hf=>by
  have hi:i<N:=aa;have c:decide (((i:Nat))<((N):Int))=true:=bj aa;obtain⟨ty,a⟩:=u;have ⟨t,x⟩:=MU (sz:=6) (j i hi) aa;have o:o9 (TA _) (.func (.func _) ⟨[]⟩ _) [.agg _] m=some _:=XpB (q (i*6+0)) v t g h d;unfold zM;delta H L E jd B K jb ja A ji;simp only[Qb,X3,c,X6,eU L k N 6 i .i64 hi,Xw a aa x,o,X4];unfold gx;by_cases l:q (i*6+0)=v
  ·rw[bj l,X6,ah rfl];rfl
  ·rw[bJ l,X5,af ak];have p:bin .add true true .int (I i) (.int .i64 1)=some (I (i+1:Nat)):=by
    rw[cz];have:((i:Nat):Int)+1=((i+1:Nat):Int):=aa;rw[this,wrap64 _ aa]
   simp only[p,X3];exact Xpc L k N s q v g h cs ⟨ty,a⟩ w j d n _ f aa aa
def XpL(h:PS c o m j s)(a:o<=8589934592)(F:s.X k=some (.c l))(u:kt k=some r)(G:y<l.length)(hf:bo r y=some (.l 18))(v)(C:b<m.next)(E:∃ty,m.get b=some (.cells [.int .u32 v] 0 0 false ty))(d) :
  TA (d+2) Gy [ax (j (y::k)) (au s.X k y) 6,.func (.func zQ) ⟨[]⟩ ⟨[pt b 0 0]⟩] m=some (fU (kX s.X k y 6 0 v),m):=by
 obtain⟨_,H,_,K,I⟩:=h.list F u G hf;have f:=fB u hf;have q:y::k≠[0]:=λe=>by injection e with e1 e2;exact kB u e2
 rw[X3d];refine jV ?_ (Fr.refl _ _) Nr;delta Gz NW NY N A;simp only[dx,X3];have p:∃ty,(aD m m.next).get b=some _:=E;have g:b<(aD m m.next).next:=C;unfold kX;by_cases z:au s.X k y=0
 ·rw[z];trivial
 ·have ⟨J,w,x,B⟩:=I z;have ⟨ty,D⟩:=h.aF w ((iK f).1) q;have n:∃ty,(aD m m.next).get _=some _:=⟨ty,D⟩
  exact Xpc _ B _ (aO H a) _ v g p _ n (by rwa[gM]) (λi hi=>h.XdS w f rfl x rfl i hi) d _ 0 _ aa aa
variable [gF c]
abbrev dd(d:Nat):Gt:=(aH (d+8))
def kh:kt [3,0]=some 2:=rfl
def W.yP(h:W c G j s o m j u ts)(g:w.length<=65536)(d){i5}(e:Xl u [w]=i5) :
  aK c G j s (bp (X8 Qc [.string ⟨#[]⟩] 1 1 [(0,sv w)] m) λg8 m=>bp (TA (d+2) Qg [pt c.P 0 0,g8] m) λ_ m=>some (.tuple ⟨[]⟩,m)) (sw o j (.tuple ⟨[]⟩) i5):=by
 subst e;refine h.bO (cs:=[w].map sv) rfl ak λb i a=>?_;refine a.cs (AY a.ps (a.iE br) ar ar aq d) λk f=>?_;exact f.B5
def W.Yo(h:W c G j s o m j u ts){w1 a}(g:w1.length<=65536)(i:a.length<=65536)(d){i5}(f:Xl u [w1,a]=i5) :
  aK c G j s (bp (X8 Qc [.string ⟨#[]⟩] 1 2 [(0,sv w1),(1,sv a)] m) λg8 m=>bp (TA (d+2) Qg [pt c.P 0 0,g8] m) λ_ m=>some (.tuple ⟨[]⟩,m)) (sw o j (.tuple ⟨[]⟩) i5):=by
 subst f;refine h.bO (cs:=[w1,a].map sv) rfl ak λb l e=>?_;refine e.cs (AY e.ps (e.iE br) ar ar aq d) λn k=>?_;exact k.B5
theorem W.BK(h:W c G j s o m j u ts)(e)(b:e≠0/\e≠5)(d){i5}(a:fu c u e=i5) :
  aK c G j s (bp (TA (d+2) Qd [pt c.C 0 0,.int .i64 e] m) λ_ m=>some (.tuple ⟨[]⟩,m)) (sw o j (.tuple ⟨[]⟩) i5):=by
 subst a;exact h.cl (lJ h.ps e b d) λg f=>f.B5
def nW(a b:Nat):bin .eql true true .int (I a) (I b)=some (.bool (decide (a=b))):=by
 rw[dI];congr 2
 grind
def Xta(a b:Nat):bin .neq true true .int (I a) (I b)=some (.bool (decide (a≠b))):=by
 rw[eg];congr 2
 grind
abbrev d6(d:Nat):Gt:=(aH (d+6))
def XiN(d)(r:w.length<=65536)(h:W c G j s o m j u ts)(q:u.X [3,0]=some (.c l))(f:b*11+11<=l.length) :
    aK c G j s (R6 (dd d) (pt (j [3,0]).b (b*11) (j [3,0]).ver) (pt c.C 0 0) (pt c.P 0 0) (sv w) m) (sw o j (.tuple ⟨[]⟩)
      (let k:=c8 c u.cu false
       let t:=(u.at k.2).aC [3,0] (b*11+3) [I k.1]
       Xl (if k.1=0 then fu c t 10 else t) [w])):=by
  have p:=Ls h.ps false (d+2);generalize c8 c _ _=K at p|-;delta R6 C Z jj;refine h.cl p λH B=>?_;simp only[Xg,X7,X3];refine B.st1 q kh aa rfl rfl ak (by rw[fd_row (sz:=11) rfl b 3 aa];exact bR _ _) λF l2 a x i=>?_;delta Qq4 C E jc jk A;have ld:X9 false 1 (pt (j [3,0]).b (b*11+3) (j [3,0]).ver) F=some (I K.1):=by refine i.ps.MF (k:=[3,0]) ak a (λe=>by cases e) ?_;have n:(u.at K.2).X [3,0]=some (.c l):=q;have e:=a;rw[fp n,NX.aR]at e;cases e;refine aU (aX (l:=l) (z:=[Cl.v (I K.1)]) (y:=b*11+3) aq (b*11+3)) ?_;rw[ah ⟨c6 _,ar⟩,pK];rfl
  have e0:bin _ _ _ _ _ (.int _ 0)=some _:=nW K.1 0;simp only[Xg,X7,X3,ld,e0];refine Xh (λf=>?_) (λf=>?_)
  . rw[ah (aT f)];refine i.cl (lJ i.ps 10 ak _) λJ D=>?_;exact D.yP r (d+6) rfl
  . rw[af (aV f)];exact i.yP r (d+6) rfl
def XiR(h:0<n)(a:n<=65536):bin .rem true true .int (.int .i64 1) (I n)=some (I (1%n:Nat)):=by grind[zK,Int.tmod_eq_emod_of_nonneg]
def WE(d)(f:w.length<=65536)(h:W c G j s o m j u ts) :
  aK c G j s (DE (dd d) (pt c.P 0 0) (sv w) (pt c.C 0 0) m) (sw o j (.tuple ⟨[]⟩) (Xl u [w,(bG c (1%c.ws.length)).1])):=by
 have a:=WV h.ps;have hi:1%c.ws.length<c.ws.length:=kM _ a;have ⟨p,g,i,V,_⟩:=h.ps.wl.ix hi;delta DE H F jc B N jb jr A jp;simp only[Xg,X7,X3,h.ps.oJ,h.ps.wl.FH,XiR a h.ps.wl.len,g,i,V];exact h.Yo f ((h.ps.wl.ze _ (jO (vV hi))).1) _ rfl
def Xwr(h:PS c o m j s)(hc:o<=8589934592)(hn:0<au s.X [0] 3)(d):nN c o m j s (TA (d+9) HP [pt c.P 0 0,pt c.C 0 0] m) (.tuple ⟨[]⟩) (rh c s):=by
 refine h.stR (Xa6 _ _ _ _) λG k=>?_;obtain⟨l,hl,_,U,ld,sb,ix⟩:=k.ps.last hc (sz:=11) rfl aa rfl hn;delta HX F je B N jb A;simp only[Xg,X7,X3,ld,dx,sb,ix];delta Qq5 C;have p:=fL k.ps;refine k.cl (mO k.ps (d+6)) λm1 g=>?_;delta Qq6 Qq7 B P D;unfold rh;dsimp only;have e0:au (s.at (Xa c s.cu).2).X [0] 3=au s.X [0] 3:=rfl;rw[e0];generalize au s.X [0] 3-1=b at U|-;have e:(s.at (Xa c s.cu).2).X _=some _:=hl;generalize s.at _=s1 at g e|-;simp only[fC,Qh,X3];delta Qq8 H C L B Z js P D jp;refine Xh (λa=>?_) (λa=>?_)
 ·rw[ah (aT a)];have n:=j6 g.ps;refine g.cl (nY g.ps (d+3)) λM q=>?_;simp only[Xg,X7,X3];refine q.st1 e kh aa rfl rfl ak (by rw[fd_row (sz:=11) rfl b 1 aa];exact eJ (aO n ak)) λQ l3 u V f=>?_;exact f.yP p _ rfl
 rw[af (aV a)];simp only[fC,Qh,X3];delta Qq9 C L B Z P D;refine Xh (λa=>?_) (λa=>?_)
 ·rw[ah (aT a)];refine g.cl (qZ g.ps (d+3)) λM q=>?_;simp only[Xg,X7,X3];refine q.st1 e kh aa rfl rfl ak (by rw[fd_row (sz:=11) rfl b 2 aa];exact bR _ _) λQ l3 u V f=>?_;have key:=XiN d (b:=b) p f u aa;assumption
 rw[af (aV a)];simp only[fC,Qh,X3];delta Qqa H C L E B Z jr jk A P D jp;refine Xh (λa=>?_) (λa=>?_)
 ·rw[ah (aT a)];have n:=j6 g.ps;refine g.cl (nY g.ps (d+3)) λM q=>?_;refine q.bO (cs:=[cQ,ed].map sv) rfl ak λbs Q f=>?_;refine f.cl (qj f.ps (f.iE (ws:=[cQ,ed]) br) ar (d+5)) λY i=>?_;have e1:bin _ _ _ _ (I (aP c (s1.at (bB c _).2).cu _).1) (.int _ 0)=some (.bool (decide ((aP c (bB c s1.cu).2 [cQ,ed]).1=0))):=nW _ 0;simp only[e1,X3];refine Xh (λa=>?_) (λa=>?_)
  ·rw[ah (aT a)];simp only[Xg,X7,X3];refine i.st1 e kh aa rfl rfl ak (by rw[fd_row (sz:=11) rfl b 5 aa];exact eJ (aO n ak)) λR l5 v x r=>?_;exact r.Yo p ak _ rfl
  ·rw[af (aV a)];simp only[Xg,X7,X3];refine i.st1 e kh aa rfl rfl ak (by rw[fd_row (sz:=11) rfl b 6 aa];exact eJ (aO n ak)) λR l5 v x r=>?_;exact r.Yo p ak _ rfl
 rw[af (aV a)];simp only[fC,Qh,X3];delta Qqb H C L B Z jt js jr P D jp;refine Xh (λa=>?_) (λa=>?_)
 ·rw[ah (aT a)];refine g.bO (cs:=[.int .u8 1,.int .u8 2]) rfl ak λK M q=>?_;refine q.bO (cs:=[pS,pT].map sv) rfl ak λbs Q f=>?_;have lt:=EI c s1.cu [pS,pT] ar;refine f.cl (qj f.ps (f.iE (ws:=[pS,pT]) br) ar (d+5)) λY i=>?_;generalize hO:aP c _ _=O at i lt|-;have ix:Xd 1 (.slice (some ⟨K,0,some 1⟩) 2 1) (I O.1)=some (pt K _ 0):=eU ⟨K,0,1⟩ ar 2 1 O.1 _ lt;have W:X9 _ 1 (pt K (O.1*1) 0) Y=some (.int .u8 ((O.1+1:Nat))):=i.ld (gC _ br) (by
   grind)
  simp only[ix,X3,W,Xg,X7];refine i.st1 e kh aa rfl rfl ak (by rw[fd_row (sz:=11) rfl b 7 aa];exact bR _ _) λR l5 v x r=>?_;exact r.yP p _ rfl
 rw[af (aV a)];simp only[fC,Qh,X3];delta Qp4 H C L E Z js ju A P jh D jp;refine Xh (λa=>?_) (λa=>?_)
 ·rw[ah (aT a)];refine g.bO (cs:=[mC,mD,mF].map sv) rfl ak λbs Q f=>?_;refine f.cl (qj f.ps (f.iE (ws:=[mC,mD,mF]) br) ar (d+5)) λY i=>?_;delta Qp5 C E Z jk A jh;generalize hO:aP c _ _=O at i|-;have ez:∀z:Nat,bin _ true true _ (I O.1) (.int _ (z))=some (.bool (decide (O.1=z))):=λz=>by
   rw[dI];congr 2;simp only[gW];omega
  have S:bin _ _ _ _ _ (.int _ 0)=some _:=ez 0;have T:bin _ _ _ _ _ (.int _ 1)=some _:=ez 1;simp only[S,T,X3];refine Xh (λa=>?_) (λa=>?_)
  ·rw[ah (aT a)];refine i.cl (kz i.ps 0 _ 16777216 rfl aa _) λR r=>?_;simp only[Xg,X7,X3];refine r.st1 e kh aa rfl rfl ak (by rw[fd_row (sz:=11) rfl b 8 aa];exact bR _ _) λm6 l6 w y J=>?_;exact WE d p J
  ·rw[af (aV a)];refine Xh (λa=>?_) (λa=>?_)
   ·rw[ah (aT a)];refine i.cl (kz i.ps 1 _ 65535 rfl aa _) λR r=>?_;simp only[Xg,X7,X3];refine r.st1 e kh aa rfl rfl ak (by rw[fd_row (sz:=11) rfl b 9 aa];exact bR _ _) λm6 l6 w y J=>?_;exact WE d p J
   ·rw[af (aV a)];simp only[Xg,X7,X3];refine i.st1 e kh aa rfl rfl ak (by rw[fd_row (sz:=11) rfl b 10 aa];exact fV _) λm6 l6 w y J=>?_;exact WE d p J
 rw[af (aV a)];simp only[fC,Qh,X3];refine Xh (λa=>?_) (λa=>?_)
 ·rw[ah (aT a)];simp only[Xg,X7,X3];refine g.st1 e kh aa rfl rfl ak (by rw[fd_row (sz:=11) rfl b 4 aa];exact fV _) λM l2 a0 a1 q=>?_;exact q.yP p _ rfl
 ·rw[af (aV a)];exact g.BK 130 ak _ rfl
variable {c:Cx}{G m:Mem}{Q j i7:ay}{J s u i5 S':ao}{o A' h:Nat}{ts:List Tmp}{x:Option Rs}{i8:Value->Nat->ay->ao->Prop}{v:Value}{cu:Cu}
def jT(s:ao):Prop:=∀ws,ws≠[]->((kd s.rs.num++Xr [32] ws)∈s.rs.bM↔Xr [32] ([cQ,s.df,[46]]++ws)∈aS s.X)
def cX(i5:ao)(s:ao)(ws:List ai):ao:={ i5 with rs:={ s.rs with bM:=s.rs.bM++[kd s.rs.num++Xr [32] ws] } }
def kA(y b)(d:k≠[2]):aS (bF X k y b)=aS X:=by
 unfold aS;have:bF X k y b [2]=X [2]:=by
  cases a:X k with
  |none=>unfold bF;rw[a]
  |some ob =>
   cases ob with
   |c l=>rw[fp a];exact NX.aE _ _ (bq d)
   |m e cl=>unfold bF;rw[a]
 rw[this]
def nt(w):Xr [32] [w]=w:=by simp[Xr]
def XhB[r:cG c](f:o<=8589934592)(hn:s.rs.num<1000000000000)(a:jT s)(d){l b w}(z:w.length<=65536)(h:W c G j J o m j s ts)(i:s.X [3,0]=some (.c l))(y:b*11+11<=l.length) :
  aK c G j J (bp (TA (d+4) Qa [pt c.C 0 0] m) λv m=>bp (aI (Xu (pt (j [3,0]).b (b*11) (j [3,0]).ver)) m) λx m=>bp (aI (Xm 1 x) m) λg8 m=>bp (bP (Xe 1 g8 v m)) λ_ m=>Q0 (aH (d+4)) (pt c.P 0 0) (sv w) m)
   (QR o 1 (.tuple ⟨[]⟩) (cX (Xl ((s.at (bB c s.cu).2).aC [3,0] (b*11+1) [sv (bB c s.cu).1]) [w]) s [w])):=by
 have g:(bB c _).1.length<=65536:=fL h.ps;refine h.cl (nU h.ps _) λB t=>?_;generalize bB c _=N at *;simp only[Xg,X7,X3];refine t.st1 i kh aa rfl rfl ak (by rw[fd_row (sz:=11) rfl b 1 aa];exact eJ (aO g ak)) λD l2 n p u=>?_;delta Q0 jp;refine u.qv (i5:=cX (Xl _ [w]) s [w]) f hn aa (ws:=[w]) rfl (λq=>⟨?_,?_⟩) aa (d+1)
 ·have:=a [w] ar;rw[nt]at this;show _↔_∈aS (bF s.X _ _ _);rw[kA (X:=s.X) (k:=[3,0]) (b*11+1) [sv N.1] ak];trivial
 ·unfold cX;rw[nt];rfl
def jT.one(a:jT s){u:ao}(b:u.rs=s.rs)(c:u.df=s.df)(d:aS u.X=aS s.X)(w ws)(e:w=Xr [32] ws)(f:ws≠[]:=by simp):(kd u.rs.num++w)∈u.rs.bM↔Xr [32] ([cQ,u.df,[46]]++ws)∈aS u.X:=by rw[b,c,d,e];exact a ws f
def Xyf[r:cG c](f:o<=8589934592)(hn:s.rs.num<1000000000000)(g:jT s)(d){l b w}(T:w.length<=65536)(h:W c G j J o m j s ts)(E:s.X [3,0]=some (.c l))(S:b*11+11<=l.length) :
  aK c G j J (bp (TA (d+4) Ql [pt c.C 0 0] m) λn m=>bp (aI (Xu (pt (j [3,0]).b (b*11) (j [3,0]).ver)) m) λx m=>bp (aI (Xm 2 x) m) λg8 m=>bp (bP (Xe 1 g8 n m)) λ_ m =>
    bp (TA (d+4) CT [pt c.C 0 0,.bool false,.int .i64 1] m) λn m=>bp (aI (Xu (pt (j [3,0]).b (b*11) (j [3,0]).ver)) m) λx m=>bp (aI (Xm 3 x) m) λg8 m=>bp (bP (Xe 1 g8 n m)) λ_ m=>Q0 (aH (d+4)) (pt c.P 0 0) (sv w) m)
   (QR o 1 (.tuple ⟨[]⟩) (let a:=Xy c s.cu
    let k:=c8 c a.2 false;let B:=(((s.at a.2).aC [3,0] (b*11+2) [u32 a.1]).at k.2).aC [3,0] (b*11+3) [I k.1]
    cX (Xl (if k.1=0 then fu c B 10 else B) [w]) s [w])):=by
 dsimp only;refine h.cl (uh h.ps _) λV O=>?_;generalize Xy c _=A at *;simp only[Xg,X7,X3];refine O.st1 E kh aa rfl rfl ak (by rw[fd_row (sz:=11) rfl b 2 aa];exact bR _ _) λY l2 i H v=>?_;refine v.cl (Xof v.ps _ 1 d) λZ y=>?_;rw[show((s.at A.2).aC _ _ _).cu=A.2 from rfl]at y|-;have p:lL c A.2 _ 1=if(kE c A.2 _ 1).er.isNone=true then(c8 c A.2 false).1 else 0:=rfl;have e:kE c A.2 _ 1=if(c8 c A.2 _).1<1 then cA c _ 10 else(c8 c A.2 false).2:=rfl;generalize lL c A.2 _ 1=R at *;generalize kE c A.2 _ 1=L at *;generalize c8 c A.2 _=K at *;refine y.st1 i kh aa rfl rfl ak (by rw[fd_row (sz:=11) rfl b 3 aa];exact bR _ _) λm4 U F M z=>?_;delta Q0 jp;have D:aS (bF (bF s.X [3,0] (b*11+2) [u32 A.1]) [3,0] (b*11+3) [I R])=aS s.X:=by rw[kA _ _ ak,kA _ _ ak]
 by_cases t:K.1=0
 ·rw[ah t];rw[ah aa]at e;refine z.qv (i5:=cX (Xl (fu c ((((s.at A.2).aC _ _ _).at K.2).aC _ _ _) 10) [w]) s [w]) f hn aa (ws:=[w]) e (λq=>?_) aa (d+1);have q:(cA c K.2 10).er.isNone=true:=q;rw[fY]at q;cases q
 ·rw[af t];rw[af aa]at e;refine z.qv (i5:=cX (Xl ((((s.at A.2).aC _ _ _).at K.2).aC _ _ _) [w]) s [w]) f hn aa e (λq=>⟨g.one (u:=(((s.at A.2).aC _ _ _).at L).aC _ _ _) rfl rfl D w [w] (nt w).symm,?_⟩) aa (d+1);have q:K.2.er.isNone=true:=q;rw[e,ah q]at p;rw[p,e];unfold cX;rw[nt];rfl
def oF(a b):Xr [32] [a,b]=a++[32]++b:=by simp[Xr,]
def Xqh[r:cG c](E:o<=8589934592)(hn:s.rs.num<1000000000000)(k:jT s)(d){l b w}(hw:w.length<=65536)(h:W c G j J o m j s ts)(T:s.X [3,0]=some (.c l))(g:b*11+11<=l.length) :
  aK c G j J (bp (TA (d+4) Qa [pt c.C 0 0] m) λt m=>bp (TA (d+4) Q5 [pt c.C 0 0,sv cQ,sv ed,sv ed] m) λv m =>
    bp (aI (bin .add true true .str (sv w) (sv [32])) m) λL m=>bp (aI (bin .add false true .str L v) m) λA m=>bp (aI (bin .eql true true .str v (sv cQ)) m) λx m =>
    ke x (bp (aI (Xu (pt (j [3,0]).b (b*11) (j [3,0]).ver)) m) λx m=>bp (aI (Xm 5 x) m) λg8 m=>bp (bP (Xe 1 g8 t m)) λ_ m=>Q0 (aH (d+4)) (pt c.P 0 0) A m)
     (bp (aI (Xu (pt (j [3,0]).b (b*11) (j [3,0]).ver)) m) λx m=>bp (aI (Xm 6 x) m) λg8 m=>bp (bP (Xe 1 g8 t m)) λ_ m=>Q0 (aH (d+4)) (pt c.P 0 0) A m))
   (QR o 1 (.tuple ⟨[]⟩) (let n:=bB c s.cu
    let y:=aP c n.2 [cQ,ed]
    if y.1=0 then cX (Xl ((s.at y.2).aC [3,0] (b*11+5) [sv n.1]) [w,cQ]) s [w,cQ]else cX (Xl ((s.at y.2).aC [3,0] (b*11+6) [sv n.1]) [w,ed]) s [w,ed])):=by
 dsimp only;have H:(bB c _).1.length<=65536:=fL h.ps;refine h.cl (nU h.ps _) λm1 K=>?_;generalize bB c _=N at *;have Y:(Xa c N.2).1.length<=65536:=fL K.ps;refine K.cl (mM K.ps _ _ _ ak ak ak _) λQ D=>?_;rw[bL]at D|-;have i:=λq=>Bg (c:=c) (cu:=N.2) (a:=cQ) (b:=ed) ak q;have p:(aP c N.2 [cQ,ed]).2.er.isNone=true->(Xa c N.2).1≠cQ->(Xa c N.2).1=ed:=λq n=>by refine M7 λn2=>?_;rw[mN aq,fY]at q;cases q
 rw[ux]at D;generalize aP c N.2 _=O at *;generalize (Xa c N.2).1=z at *;simp only[Qu _ _ w [32] aq,Qu _ _ (w++[32]) z aq,Qh,X3];have fin:∀f g8 B S,f<11->(ch 2)[f]?=some Fd.s->B.cu=O.2->(O.2.er.isNone=true->g8=z/\B=cX (Xl ((s.at O.2).aC [3,0] (b*11+f) [sv N.1]) [w,g8]) s [w,g8])->W c G j J o S j ((s.at N.2).at O.2) ts ->
   aK c G j J (bp (bP (Xe 1 (pt (j [3,0]).b (b*11+f) (j [3,0]).ver) (sv N.1) S)) λ_ m=>Q0 (aH (d+4)) (pt c.P 0 0) (sv (w++[32]++z)) m) (QR o 1 (.tuple ⟨[]⟩) B):=λf g8 B S hf F M I Z=>by
  refine Z.st1 T kh aa rfl rfl ak (by rw[fd_row (sz:=11) rfl b f hf,F];exact eJ (aO H ak)) λm4 l4 U V k4=>?_;delta Q0 jp;have R:aS (bF s.X [3,0] (b*11+f) [sv N.1])=aS s.X:=kA _ _ ak;refine k4.qv E hn cF (ws:=[w,g8]) M.symm (λq=>?_) aa (d+1);rw[M]at q;obtain⟨rfl,e⟩:=I q;refine⟨k.one (u:=(s.at O.2).aC _ _ _) rfl rfl R _ _ (oF w g8).symm,?_⟩;rw[e];unfold cX;rw[oF];rfl
 refine Xh (λg=>?_) (λg=>?_)
 ·have g:=aT g;simp only[Xg,X7,X3];refine fin 5 _ _ Q aa rfl Nq (λq=>⟨g.symm,?_⟩) D;have:=i q;rw[bj g]at this;rw[ah (aT this.symm)]
 ·have g:=aV g;simp only[Xg,X7,X3];refine fin 6 _ _ Q aa rfl Nq (λq=>⟨(p q g).symm,?_⟩) D;have:=i q;rw[bJ g]at this;rw[af (aV this.symm)]
def Xte(h:X k=some (.c l))(e:y<l.length)(a b):bF (bF X k y [a]) k y [b]=bF X k y [b]:=by
 rw[fp h,fp (NX.aR _ _ _),NX.set_set,fp h];congr 3;apply fk;intro f;have d:y+[Cl.v a].length<=l.length:=e;have g:=aX (z:=[Cl.v b]) (by rw[EU d];exact e) f;have g3:=aX d f;refine g.trans (aU ?_ (aX (z:=[Cl.v b]) e f).symm)
 grind
def XiB[r:cG c](k:o<=8589934592)(hn:s.rs.num<1000000000000)(g:jT s)(d){l b w}(R:w.length<=65536)(h:W c G j J o m j s ts)(E:s.X [3,0]=some (.c l))(f:b*11+11<=l.length) :
  aK c G j J (bp (aI (Xu (pt (j [3,0]).b (b*11) (j [3,0]).ver)) m) λx m=>bp (aI (Xm 7 x) m) λg8 m=>bp (bP (Xe 1 g8 (.int .u8 2) m)) λ_ m =>
    bp (TA (d+4) Q5 [pt c.C 0 0,sv pS,sv pT,sv pT] m) λD m =>
    bp (aI (bin .eql true true .str D (sv pS)) m) λx m =>
    ke x (bp (aI (Xu (pt (j [3,0]).b (b*11) (j [3,0]).ver)) m) λx m=>bp (aI (Xm 7 x) m) λg8 m=>bp (bP (Xe 1 g8 (.int .u8 1) m)) λ_ m=>Q0 (aH (d+4)) (pt c.P 0 0) (sv w) m)
     (Q0 (aH (d+4)) (pt c.P 0 0) (sv w) m))
   (QR o 1 (.tuple ⟨[]⟩) (let y:=aP c s.cu [pS,pT]
    cX (Xl ((s.at y.2).aC [3,0] (b*11+7) [.int .u8 (y.1+1:Nat)]) [w]) s [w])):=by
 dsimp only;simp only[Xg,X7,X3];have H:dz (bo 2 (b*11+7)) (.v (.int .u8 2)):=by rw[fd_row (r:=2) (sz:=11) rfl b 7 aa];exact bR _ _
 refine h.st1 E kh aa rfl rfl ak H λT l1 B K F=>?_;refine F.cl (mM F.ps _ _ _ ak ak ak _) λU p=>?_;rw[show(s.aC _ _ _).cu=s.cu from rfl]at p|-;have i:=λq=>Bg (c:=c) (cu:=s.cu) (a:=pS) (b:=pT) ak q;have n:=EI c s.cu [pS,pT] ar;rw[ux]at p;generalize aP c _ _=O at *;generalize (Xa c _).1=z at *;have n:O.1<2:=n;simp only[Qh,X3];refine Xh (λf=>?_) (λf=>?_)
 ·have f:=aT f;refine p.st1 B kh aa rfl rfl ak (by rw[fd_row (sz:=11) rfl b 7 aa];exact bR _ _) λV S I L N=>?_;delta Q0 jp;have t:aS (bF (bF s.X [3,0] (b*11+7) [.int .u8 2]) [3,0] (b*11+7) [.int .u8 1])=aS s.X:=by rw[kA _ _ ak,kA _ _ ak]
  refine N.qv (i5:=cX (Xl _ [w]) s [w]) k hn aa rfl (λq=>⟨g.one (u:=((s.aC _ _ _).at O.2).aC _ _ _) rfl rfl t w [w] (nt w).symm,?_⟩) aa (d+1);have:=i q;rw[bj f]at this;have A:=aT this.symm;have e:((s.aC [3,0] (b*11+7) [.int .u8 2]).at O.2).aC [3,0] (b*11+7) [.int .u8 1]=(s.at O.2).aC [3,0] (b*11+7) [.int .u8 1]:=by show({ (s.at O.2)with X:=bF (bF s.X [3,0] (b*11+7) [.int .u8 2]) [3,0] (b*11+7) [.int .u8 1] }:ao)=_;rw[Xte E aa];rfl
  rw[e,A];unfold cX;rw[nt];rfl
 ·delta Q0 jp;have t:aS (bF s.X [3,0] (b*11+7) [.int .u8 2])=aS s.X:=kA _ _ ak;refine p.qv (i5:=cX _ s [w]) k hn aa rfl (λq=>⟨g.one (u:=(s.aC _ _ _).at O.2) rfl rfl t w [w] (nt w).symm,?_⟩) aa (d+1);have:=i q;rw[bJ (aV f)]at this;have A:O.1=1:=by have:=aV this.symm;omega
  rw[A];unfold cX;rw[nt];rfl
def XiL{c cu}(h:(Xa c cu).1≠[]):cH c cu=true/\(Xa c cu).1=(bG c cu.pl).1:=by
 unfold Xa at h|-
 grind
def XkP{c cu}(b:cu.er.isNone=true->cu.pl=1)(h:(Xa c cu).1≠[]):(bG c (1%c.ws.length)).1=(Xa c cu).1:=by obtain⟨a,d⟩:=XiL h;unfold cH at a;rw[bT]at a;have e:=b a.1;have lt:=aT a.2;rw[d,e,tK aa]
def W.Mx[r:cG c](e:o<=8589934592)(hn:s.rs.num<1000000000000)(a:jT s)(d){w z g8}(l:w.length<=65536)(n:z.length<=65536)(h:W c G j J o m j u ts)(b:u.rs=s.rs)(g:u.df=s.df)(i:aS u.X=aS s.X)(k:u.cu=i5.cu)
  (f:i5.cu.er.isNone=true->g8=z/\u=i5) :
  aK c G j J (Q0 (aH (d+4)) (pt c.P 0 0) (sv (w++[32]++z)) m) (QR o 1 (.tuple ⟨[]⟩) (cX (Xl i5 [w,g8]) s [w,g8])):=by
 delta Q0 jp;refine h.qv (i5:=cX (Xl i5 _) s _) e (by rw[b];exact hn) cF (ws:=[w,g8]) k (λq=>?_) aa (d+1);obtain⟨rfl,rfl⟩:=f q;refine⟨a.one b g i _ _ (oF w g8).symm,?_⟩;unfold cX iA;rw[oF,<-b];rfl
def Xyg[r:cG c](E:∀w∈c.ws,w.1≠[])(L:s.cu.er.isNone=true->s.cu.pl=1)(k:o<=8589934592)(hn:s.rs.num<1000000000000)(g:jT s)(d){l b w}(I:w.length<=65536)(h:W c G j J o m j s ts)(K:s.X [3,0]=some (.c l))(f:b*11+11<=l.length) :
  aK c G j J (bp (TA (d+4) Q5 [pt c.C 0 0,sv mC,sv mD,sv mF] m) λt m =>
    bp (aI (bin .add true true .str (sv w) (sv [32])) m) λO m=>bp (aI (bin .add false true .str O t) m) λu m =>
    bp (aI (bin .eql true true .str t (sv mC)) m) λx m=>ke x (bp (TA (d+4) Q1 [pt c.C 0 0,.int .i64 0,.int .i64 16777216] m) λQ m=>bp (aI (Xu (pt (j [3,0]).b (b*11) (j [3,0]).ver)) m) λx m=>bp (aI (Xm 8 x) m) λg8 m=>bp (bP (Xe 1 g8 Q m)) λ_ m=>Q0 (aH (d+4)) (pt c.P 0 0) u m)
    (bp (aI (bin .eql true true .str t (sv mD)) m) λx m=>ke x (bp (TA (d+4) Q1 [pt c.C 0 0,.int .i64 1,.int .i64 65535] m) λR m=>bp (aI (Xu (pt (j [3,0]).b (b*11) (j [3,0]).ver)) m) λx m=>bp (aI (Xm 9 x) m) λg8 m=>bp (bP (Xe 1 g8 R m)) λ_ m=>Q0 (aH (d+4)) (pt c.P 0 0) u m)
    (bp (aI (bin .eql true true .str t (sv mF)) m) λx m=>ke x (bp (aI (Xu (pt (j [3,0]).b (b*11) (j [3,0]).ver)) m) λx m=>bp (aI (Xm 10 x) m) λg8 m=>bp (bP (Xe 1 g8 (.bool true) m)) λ_ m=>Q0 (aH (d+4)) (pt c.P 0 0) u m)
     (Q0 (aH (d+4)) (pt c.P 0 0) u m))))
   (QR o 1 (.tuple ⟨[]⟩) (let y:=aP c s.cu [mC,mD,mF]
    let n:=Xb c y.2 0 16777216;let q:=Xb c y.2 1 65535;let s1:=if y.1=0 then(s.at n.2).aC [3,0] (b*11+8) [.int .i64 n.1]else if y.1=1 then(s.at q.2).aC [3,0] (b*11+9) [.int .i64 q.1]else(s.at y.2).aC [3,0] (b*11+10) [.bool true]
    cX (Xl s1 [w,(bG c (1%c.ws.length)).1]) s [w,(bG c (1%c.ws.length)).1])):=by
 dsimp only;have p:=fL h.ps;have M:=XkP (c:=c) L;have e0:(Xa c _).1=mC->aP c _ [mC,mD,mF]=(0,(Xa c s.cu).2):=λe=>by unfold aP de;rw[ah e]
 have e1:(Xa c _).1=mD->aP c _ [mC,mD,mF]=(1,(Xa c s.cu).2):=λe=>Ns;have e2:(Xa c _).1=mF->aP c _ [mC,mD,mF]=(2,(Xa c s.cu).2):=λe=>by unfold aP de de de;rw[af Ze,af Ze,ah e]
 have V:(Xa c _).1≠mC->(Xa c _).1≠mD->(Xa c s.cu).1≠mF->aP c _ [mC,mD,mF]=(0,cA c _ 130):=λa b e=>by unfold aP de de de de;rw[af a,af b,af e]
 refine h.cl (mM h.ps _ _ _ ak ak ak _) λm2 i=>?_;generalize (bG c _).1=g8 at *;generalize (Xa c _).1=z at *;simp only[Qu _ _ w [32] aq,Qu _ _ (w++[32]) z aq,Qh,X3];have N:∀y v,aS (bF s.X [3,0] y [v])=aS s.X:=λy v=>kA _ _ ak;refine Xh (λf=>?_) (λf=>?_)
 ·have f:=aT f;rw[e0 f]at i|-;dsimp only at i|-;rw[ah rfl];refine i.cl (ky i.ps E 0 _ 16777216 rfl aa _) λY F=>?_;rw[bL]at F|-;simp only[Xg,X7,X3];refine F.st1 K kh aa rfl rfl ak (by rw[fd_row (sz:=11) rfl b 8 aa];exact bR _ _) λT S B D H=>?_;refine W.Mx k hn g d I p H rfl rfl (N _ _) rfl (λq=>⟨M aq,?_⟩);rw[j7 q];rfl
 ·have Z:=aV f;refine Xh (λf=>?_) (λf=>?_)
  ·have f:=aT f;rw[e1 f]at i|-;dsimp only at i|-;rw[af ak,ah rfl];refine i.cl (ky i.ps E 1 _ 65535 rfl aa _) λY F=>?_;rw[bL]at F|-;simp only[Xg,X7,X3];refine F.st1 K kh aa rfl rfl ak (by rw[fd_row (sz:=11) rfl b 9 aa];exact bR _ _) λT S B D H=>?_;refine W.Mx k hn g d I p H rfl rfl (N _ _) rfl (λq=>⟨M aq,?_⟩);rw[j7 q];rfl
  ·have nC:=aV f;refine Xh (λf=>?_) (λf=>?_)
   ·have f:=aT f;rw[e2 f]at i|-;dsimp only at i|-;rw[af ak,af ak];simp only[Xg,X7,X3];refine i.st1 K kh aa rfl rfl ak (by rw[fd_row (sz:=11) rfl b 10 aa];exact fV _) λT S B D H=>?_;exact W.Mx k hn g d I p H rfl rfl (N _ _) rfl (λq=>⟨M aq,rfl⟩)
   ·rw[V Z nC (aV f)]at i|-;dsimp only at i|-;rw[ah rfl];have A:(Xb c _ 0 16777216).2=cA c (Xa c s.cu).2 130:=xY (fY _ _ _) _ _;refine W.Mx k hn g d I p i rfl rfl rfl A.symm (λq=>?_);have q:(Xb c _ 0 _).2.er.isNone=true:=q;rw[A,fY]at q;cases q
def wg(c:Cx)(J:ao):ao:=
 let w:=Xa c J.cu;let s:=J.at w.2;let b:=(au s.X [0] 3-1)*11;let k:Key:=[3,0]
 if w.1=jB then
  let n:=bB c s.cu
  cX (Xl ((s.at n.2).aC k (b+1) [sv n.1]) [w.1]) s [w.1]
 else if w.1=NB then
  let a:=Xy c s.cu;let m:=c8 c a.2 false;let d:=(((s.at a.2).aC k (b+2) [u32 a.1]).at m.2).aC k (b+3) [I m.1]
  cX (Xl (if m.1=0 then fu c d 10 else d) [w.1]) s [w.1]
 else if w.1=jC then
  let n:=bB c s.cu;let y:=aP c n.2 [cQ,ed]
  if y.1=0 then cX (Xl ((s.at y.2).aC k (b+5) [sv n.1]) [w.1,cQ]) s [w.1,cQ]else cX (Xl ((s.at y.2).aC k (b+6) [sv n.1]) [w.1,ed]) s [w.1,ed]
 else if w.1=wS then
  let y:=aP c s.cu [pS,pT]
  cX (Xl ((s.at y.2).aC k (b+7) [.int .u8 (y.1+1:Nat)]) [w.1]) s [w.1]
 else if w.1=gZ then
  let y:=aP c s.cu [mC,mD,mF];let n:=Xb c y.2 0 16777216;let q:=Xb c y.2 1 65535;let d:=if y.1=0 then(s.at n.2).aC k (b+8) [.int .i64 n.1]else if y.1=1 then(s.at q.2).aC k (b+9) [.int .i64 q.1]else(s.at y.2).aC k (b+10) [.bool true]
  cX (Xl d [w.1,(bG c (1%c.ws.length)).1]) s [w.1,(bG c (1%c.ws.length)).1]
 else if w.1=NC then cX (Xl (s.aC k (b+4) [.bool true]) [w.1]) s [w.1]
 else fu c s 130
def Xx6{c cu}(h:cu.pl=0)(q:(Xa c cu).2.er.isNone=true):(Xa c cu).2.pl=1:=by
 unfold Xa at q|-;split at q
 ·grind
 ·rw[Lm]at q;cases q
def Xuc[r:cG c](h:PS c o m j s)(z:∀w∈c.ws,w.1≠[])(F:s.cu.pl=0)(g:o<=8589934592)(hn:s.rs.num<1000000000000)(f:jT s){l b}(p:s.X [3,0]=some (.c l))(t:b*11+11<=l.length)(y:au s.X [0] 3-1=b)(d) :
  mH c o 1 m j s (TA (d+5) N6 [pt c.P 0 0,pt c.C 0 0,pt (j [3,0]).b (b*11) (j [3,0]).ver] m) (.tuple ⟨[]⟩) (wg c s):=by
 refine h.tB (X5c _ _ _ _ _) λG k=>?_;have i:=fL k.ps;have v:=Xx6 (c:=c) F;delta CK C;refine k.cl (nV k.ps (d+3)) λN n=>?_;unfold wg;dsimp only;rw[Yb,y];generalize Xa c _=V at *;delta Qjm C E B Z jj A P jh D;have I:∀a,bin _ _ _ _ _ (.string _)=some _:=λa=>Qh true true V.1 a;have f:jT (s.at V.2):=f;simp only[I,X3];refine Xh (λe=>?_) (λe=>?_)
 ·have e:=aT e;rw[ah e];exact XhB (s:=s.at V.2) g hn f d i n p t
 rw[af (aV e)];refine Xh (λe=>?_) (λe=>?_)
 ·have e:=aT e;rw[ah e];exact Xyf (s:=s.at V.2) g hn f d i n p t
 rw[af (aV e)];refine Xh (λe=>?_) (λe=>?_)
 ·have e:=aT e;rw[ah e];exact Xqh (s:=s.at V.2) g hn f d i n p t
 rw[af (aV e)];refine Xh (λe=>?_) (λe=>?_)
 ·have e:=aT e;rw[ah e];exact XiB (s:=s.at V.2) g hn f d i n p t
 rw[af (aV e)];refine Xh (λe=>?_) (λe=>?_)
 ·have e:=aT e;rw[ah e];exact Xyg (s:=s.at V.2) z v g hn f d i n p t
 rw[af (aV e)];refine Xh (λe=>?_) (λe=>?_)
 ·have e:=aT e;rw[ah e];simp only[Xg,X7,X3];refine n.st1 p kh aa rfl rfl ak (by rw[fd_row (sz:=11) rfl b 4 aa];exact fV _) λM l2 J K x=>?_;delta Q0 jp;have H:aS (bF s.X [3,0] (b*11+4) [.bool true])=aS s.X:=kA _ _ ak;refine x.qv (i5:=cX (Xl _ _) _ _) g hn aa rfl (λq=>⟨f.one (u:=(s.at V.2).aC _ _ _) rfl rfl H V.1 _ (nt V.1).symm,?_⟩) aa (d+1);unfold cX;rw[nt];rfl
 rw[af (aV e)];refine n.cl (kS n.ps (λq=>by rw[bL]at q|-;rw[v q];exact c6 _) 130 ak _) λM x=>?_;rw[bL]at x;delta Q0 jp;refine x.qv (i5:=fu c _ 130) g hn aa (ws:=[V.1]) rfl (λq=>?_) aa (d+1);have q:(cA c V.2 130).er.isNone=true:=q;rw[fY]at q;cases q
end Go.Ab.Sh
namespace Go.Ab
open Go
def NR.XrQ{o}{m:aj}{j X}(h:NR o m j X){k l y sz}(p:X k=some (.c l))(u:l[y]?=some (.v (.slice none 0 0)))(B:X (y::k)=none)(C:0<sz):NR o m j (X.set k (some (.c (l.set y (.s 0 sz))))):=by
 have t:y<l.length:=(dO.mp u).1;have hd:∀a,X.set k (some (.c (l.set y (.s 0 sz)))) a≠none->X a≠none:=λa d=>by
  by_cases e:a=k
  ·grind
  ·rwa[NX.aE _ _ e]at d
 have z:cells j k (l.set y (.s 0 sz))=cells j k l:=by
  apply fk;intro i;rw[Xn,du,Xn];by_cases e:y=i
  ·subst e;rw[ah rfl,ah t,u];rfl
  ·grind
 exact{
  inj:=λa b d w e=>h.inj a b (hd a d) (hd b w) e
  hi:=λa d=>h.hi a (hd a d)
  r2:=λa d=>h.r2 a (hd a d)
  at':=λa ob d=>by
   by_cases e:a=k
   ·subst e;rw[NX.aR]at d;cases d;obtain⟨ty,q⟩:=h.at' _ _ p;exact⟨ty,aq⟩
   ·rw[NX.aE _ _ e]at d;exact h.at' a ob d
  ok:=λa l2 d=>by
   by_cases e:a=k
   ·subst e;rw[NX.aR]at d;cases d;have:=h.ok _ _ p;rw[cL]at this|-;intro x A;rcases M4 A with q|q
    ·grind
    ·rw[q];rfl
   ·rw[NX.aE _ _ e]at d;exact h.ok a l2 d
  ow:=λa l2 f n s d g=>by
   by_cases e:a=k
   ·subst e;rw[NX.aR]at d;cases d;rw[NX.aE _ _ (fQ f a)];rw[du]at g;by_cases e2:y=f
    ·grind
    ·rw[af e2]at g;exact h.ow a l f n s p g
   ·rw[NX.aE _ _ e]at d;obtain⟨q1,q2,r⟩:=h.ow a l2 f n s d g;refine⟨q1,q2,?_⟩;by_cases e2:f::a=k
    ·rw[e2,NX.aR]
     grind
    ·rw[NX.aE _ _ e2];exact r
  par:=λi f a d=>by
   obtain⟨l2,n,s,q1,q2,r⟩:=h.par i f a (hd _ d);by_cases e:f::a=k
   ·subst e;rw[p]at q1;cases q1;refine⟨_,n,s,NX.aR _ _ _,?_,r⟩
    grind
   ·exact⟨l2,n,s,by rwa[NX.aE _ _ e],q2,r⟩ }
end Go.Ab
namespace Go.Ab.Sh
open Go Go.Ab Go.Lib
variable {K k:Key}{X:NX}{b bw za8 n y r:Nat}{b4 b5 p:Bool}{i:Option Nat}{kw t2 t3 w:ai}{l:List Cl}{pr z0 z1:Int}{ws:List ai}{yl:List Value}
variable {c:Cx}{G m:Mem}{Q j i7:ay}{J s u i5 S':ao}{o A' h:Nat}{ts:List Tmp}{x:Option Rs}{i8:Value->Nat->ay->ao->Prop}{v:Value}{cu:Cu}
def BS(X:NX)(k:Key)(y:Nat):NX:=match X k with|some (.c l)=>(X.set (y::k) none).set k (some (.c (l.set y (.s 0 1))))|_=>X
def WB(h:X k=some (.c l))(y):BS X k y=(X.set (y::k) none).set k (some (.c (l.set y (.s 0 1)))):=by unfold BS;rw[h]
def WT.BR(w:WT X)(g:X k=some (.c l))(hr:kt k=some r)(hf:bo r y=some (.l 11))(o:l[y]?=some (.s n 1)):WT (BS X k y):=by
 obtain⟨v,x⟩:=iK hr;obtain⟨t,u⟩:=iK (fB hr hf);rw[WB g];exact{
  root:=by
   obtain⟨l0,a,b⟩:=w.root;by_cases e:[0]=k
   ·rw[e,g]at a;cases a;exact⟨_,Np,aq⟩
   ·have e2:[0]≠y::k:=λe=>by
     injection e with z m;exact kB hr m.symm
    rw[NX.aE _ _ e,NX.aE _ _ e2];grind
  set:=by rw[NX.aE _ _ (bq x),NX.aE _ _ (bq u)];exact w.set
  qy:=by rw[NX.aE _ _ (bq v),NX.aE _ _ (bq t)];exact w.qy
  ty:=λj q d=>by
   by_cases e:j=k
   ·subst e;rw[NX.aR]at d;cases d;refine⟨r,hr,λp c f=>?_⟩;obtain⟨B,h1,A⟩:=w.ty _ _ g;rw[hr]at h1;cases h1;rw[du]at f;by_cases a:y=p
    ·subst a;rw[ah rfl,ah ((dO.mp o).1)]at f;cases f;rw[hf];rfl
    grind
   ·rw[NX.aE _ _ e]at d;by_cases e2:j=y::k
    ·rw[e2,NX.aR]at d;cases d
    ·rw[NX.aE _ _ e2]at d;exact w.ty j q d }
def XgM(f:X k=some (.c l))(y a b)(d:a≠k)(e:a≠y::k):au (BS X k y) a b=au X a b:=by rw[WB f,sK _ _ d,sK _ _ e]
def ao.BR(s:ao)(k:Key)(y:Nat):ao:={ s with X:=BS s.X k y }
def W.adz(h:W c G Q J o m j s ts)(O:s.X k=some (.c l))(B:kt k=some r)(h0:k≠[0])(T:y<l.length)(hf:bo r y=some (.l 11)){K:aj->Option Rs}(g:∀m1,W c G Q J o m1 j (s.BR k y) ts->aK c G Q J (K m1) i8) :
  aK c G Q J (bp (bP (Xe 1 (pt (j k).b y (j k).ver) (.slice none 0 0) m)) λ_ m=>K m) i8:=by
 obtain⟨V,q2,_,_,_⟩:=h.ps.list O B T hf;have P:=(iK B).1;have x:=fB B hf;have A:y::k≠[1]:=(iK x).1;have t:y::k≠[0]:=λe=>by injection e with e1 e2;exact kB B e2
 have a:aL c s k=some (.c l):=by rw[jI P h0 (gT B)];exact O
 obtain⟨lr,u,U⟩:=h.ps.wt.root;generalize hN:au s.X k y=N at *;have V:l[y]?=some (.s N 1):=V;have E:(Value.slice _ 0 0).cells=#[.slice none 0 0]:=rfl;have R:∀i,aL c s _=none:=λi=>by
  cases a0:aL c s (i::y::k)with
  |none=>rfl
  |some ob =>obtain⟨l5,n5,a1,z1,z2,z3⟩:=h.ps.nr.par i y k aq;rw[jI A t (gT x)]at z1;obtain⟨r5,y1,y2⟩:=h.ps.wt.ty _ _ z1;rw[x]at y1;cases y1;have:=y2 i _ z2;rw[XN]at this;exact False.elim this
 have d1:=h.ps.nr.disown a V R;generalize w:((aL c s).set _ _).set k _=F at d1;have I:F k=some (.c (l.set y (.v (ax (j (y::k)) N 1)))):=by rw[<-w,NX.aR]
 have H:∀f,F f≠none->aL c s f≠none:=λf d=>by
  rw[<-w]at d;by_cases e:f=k
  ·grind
  ·rw[NX.aE _ _ e]at d;by_cases e2:f=y::k
   ·simp_all[NX.aR]
   ·rwa[NX.aE _ _ e2]at d
 obtain⟨S,u1,u2,u3,u4,u5⟩:=d1.put (y:=y) (n:=1) I (by rw[E];rfl) (by rw[E];rfl) aq (λi h1 h2=>by have:i=y:=aa;subst this;exact⟨_,by rw[du,ah rfl,ah T]⟩)
 rw[u1,Xj];have Z:(l.set y (.v (ax (j (y::k)) N 1))).take y++(Value.slice none 0 0).cells.toList.map Cl.v++(l.set y (.v (ax (j (y::k)) N 1))).drop (y+1)=l.set y (.v (.slice none 0 0)):=by
  rw[E];apply fk;intro i;refine aU (aX (l:=l.set y (.v (ax (j (y::k)) N 1))) (z:=[Cl.v (.slice none 0 0)]) (y:=y) aq i) ?_;rw[du,du];by_cases p:y<=i/\i<y+[Cl.v (.slice none 0 0)].length
  ·have:y=i:=by grind
   subst this;rw[ah p,ah rfl,ah T,pK];rfl
  ·have:y≠i:=λe=>p aq;rw[af p,af this,af this]
 rw[Z]at u2 u3;have Y:=u3.sub H;have L:F.set k _ k=some (.c (l.set y (.v (.slice none 0 0)))):=NX.aR _ _ _;have D:F.set k (some (.c (l.set y (.v (.slice none 0 0))))) (y::k)=none:=by rw[NX.aE _ _ (fQ y k),<-w,NX.aE _ _ (fQ y k),NX.aR]
 have o1:=u2.XrQ (sz:=1) L (by rw[du,ah rfl,ah T]) D aa;have M:(F.set k (some (.c (l.set y (.v (.slice none 0 0)))))).set k (some (.c ((l.set y (.v (.slice none 0 0))).set y (.s 0 1))))=aL c (s.BR k y):=by
  have r1:s.X.set (y::k) none [0]=some (.c lr):=by rwa[NX.aE _ _ (bq t)]
  have e1:s.BR k y={ s with X:=(s.X.set (y::k) none).set k (some (.c (l.set y (.s 0 1)))) }:=by unfold ao.BR;rw[WB O]
  rw[e1,<-vS (c:=c) (s:={ s with X:=s.X.set (y::k) none }) (a:=k) (some (.c (l.set y (.s 0 1)))) r1 P h0 (gT B),<-vS (c:=c) (s:=s) (a:=y::k) none u A t (gT x),List.set_set,<-w,NX.set_set,NX.set_set]
 rw[M]at o1;have C:∀f,aL c _ f≠none->F.set k (some _) f≠none:=λf d=>by
  rw[<-M]at d;by_cases e:f=k
  ·rw[e,NX.aR];simp
  ·rwa[NX.aE _ _ e]at d
 have S4:={ Y with
  nw:=λf d=>Y.nw f (C f d)
  kp:=by
   rcases Y.kp with q|⟨q,q'⟩
   ·exact .inl q
   ·exact .inr ⟨λf d=>q f (C f d),λf d=>q' f (C f d)⟩ }
 refine g S (h.go (h.ps.step o1 S4 ⟨rfl,rfl,rfl⟩ ⟨h.ps.ok.le,h.ps.ok.ee,h.ps.wt.BR O B hf V,h.ps.ok.il,h.ps.ok.ge.to λf o' d=>?_⟩) S4);show au s.X f o'<=au (BS s.X k y) f o';rw[XgM O _ f o' (by
  rcases d with e|e<;>subst e
  ·grind
  ·exact bq (XaS B hf)) (by
  grind)]
 omega
variable [gF c]
def ME:kt [4,0]=some 3:=rfl
abbrev jN(p:Bool)(pr:Int)(a1 a2 b1 b2 d1 d2 e1 e2:Int):List ae:=[.bool p,.int .i64 pr,.int .u32 a1,.int .i64 a2,.int .u32 b1,.int .i64 b2,.int .u32 d1,.int .u32 d2,.int .u32 e1,.int .u32 e2]
def lM(c:Cx)(s:ao)(b:Nat)(p:Bool)(pr:Int):ao:=
 let a:=iy c s.cu;let q:=fR c a.2 pr;let d:=iy c q.2;let e:=fR c d.2 pr
 (s.at e.2).app [4,0] (b*2+1) [.v (.bool p),.v (.int .i64 pr),.v (u32 a.1.1),.v (I a.1.2),.v (u32 d.1.1),.v (I d.1.2),.v (.int .u32 q.1.1),.v (.int .u32 q.1.2),.v (.int .u32 e.1.1),.v (.int .u32 e.1.2)]
theorem XiV(d){b5}(R:o<=8589934592)(h:W c G j s o m j u ((b5,0,jN p pr 0 0 0 0 0 0 0 0)::ts))(S:u.X [4,0]=some (.c l))(hb:b*2+2<=l.length) :
  aK c G j s (vq (dd d) (pt c.C 0 0) (pt b5 0 0) (pt (j [4,0]).b (b*2) (j [4,0]).ver) m) (gG o 1 (.tuple ⟨[]⟩) (lM c u b p pr)):=by
 delta vq C T F jd jc Y Z jm jq;refine h.cl (Xs0 h.ps (d+1)) λm1 L=>?_;generalize O:iy c _=A at L;simp only[X7,X3,aQ];refine L.aC (l1:=[]) (za6:=jN p pr _ _ 0 0 0 0 0 0) rfl rfl aW rfl λV k=>?_;have z:X9 _ 1 (pt b5 1 0) V=some _:=k.ld br rfl;simp only[z,X3];refine k.cl (Xoo k.ps pr _) λm3 n=>?_;rw[bL]at n|-;generalize hB:fR c A.2 pr=B at n|-;refine n.aC (za6:=jN p pr _ _ 0 0 _ _ 0 0) rfl rfl aW rfl λm4 M=>?_;refine M.cl (Xs0 M.ps _) λm5 q=>?_;rw[bL]at q|-;generalize P:iy c B.2=D at q|-;refine q.aC (za6:=jN p pr _ _ _ _ _ _ 0 0) rfl rfl aW rfl λm6 t=>?_;have H:X9 _ 1 (pt b5 1 0) m6=some _:=t.ld br rfl;simp only[H,X3];refine t.cl (Xoo t.ps pr _) λm7 w=>?_;rw[bL]at w|-;generalize Q:fR c D.2 pr=E at w|-;refine w.aC (za6:=jN p pr _ _ _ _ _ _ _ _) rfl rfl aW rfl λm8 x=>?_;have f:((((u.at A.2).at B.2).at D.2).at E.2).X _=some _:=S;have hf:bo 3 (b*2+1)=some (.l 4):=by rw[fd_row (r:=3) (sz:=2) rfl b 1 aa];rfl
 obtain⟨_,_,J,_,_⟩:=x.ps.list f ME aa hf;have K:X9 _ 10 _ m8=some (.agg ⟨jN p pr _ _ _ _ _ _ _ _⟩):=x.fi (y:=0) br ar rfl;simp only[Xg,X7,X3,J,K];refine x.bO (cs:=jN p pr _ _ _ _ _ _ _ _) rfl ak λN m9 k9=>?_;have k9:W c G j s o m9 j _ ((N,0,[Cl.v _,.v _,.v (u32 _),.v (I _),.v (u32 _),.v (I _),.v _,.v _,.v _,.v _].map Cl.raw)::_):=k9;refine k9.rF R f ME aa hf rfl rfl rfl (dJ XeV) ak λA' U i7 g _ i=>?_;have e:lM c u b p pr=((((u.at A.2).at B.2).at D.2).at E.2).app [4,0] (b*2+1) [.v (.bool p),.v (.int .i64 pr),.v (u32 A.1.1),.v (I A.1.2),.v (u32 D.1.1),.v (I D.1.2),.v (.int .u32 B.1.1),.v (.int .u32 B.1.2),.v (.int .u32 E.1.1),.v (.int .u32 E.1.2)]:=by unfold lM;dsimp only;rw[O,hB,P,Q];rfl
 rw[e];exact i.iM g
def XiQ(h:PS c o m j s)(R:o<=8589934592)(hn:0<au s.X [0] 4)(d):eM c o 1 m j s (TA (d+9) Ij [pt c.P 0 0,pt c.C 0 0] m) (.tuple ⟨[]⟩) (nk c s):=by
 refine h.pad (Xb7 _ _ _ _) λG k=>?_;obtain⟨l,f,_,g,ld,sb,ix⟩:=k.ps.last R (sz:=2) rfl aa rfl hn;delta IA F je B N jb A;simp only[Xg,X7,X3,ld,dx,sb,ix];delta Qro H C B Y U jr jk A D;refine k.bO (cs:=[dq,dP].map sv) rfl ak λbs m1 w=>?_;refine w.cl (qj w.ps (w.iE (ws:=[dq,dP]) br) ar (d+5)) λm2 T=>?_;have i:nk c s=(let y:=aP c s.cu [dq,dP]
   let z:=bh c y.2 sc;let E:=bh c z.2 Gf;let J:=bh c E.2 Gg;let K:=bh c J.2 Gh;let n:=Xb c K.2 0 255;let P:=decide (y.1=0);let b:=au s.X [0] 4-1
   if z.1=true then lM c (s.at z.2) b P (-1)else if E.1=true then lM c (s.at E.2) b P 6 else if J.1=true then lM c (s.at J.2) b P 17 else if K.1=true then lM c (s.at K.2) b P 1 else lM c (s.at n.2) b P n.1):=by
  unfold nk;dsimp only;split
  ·rfl
  ·split
   ·rfl
   ·split
    ·rfl
    ·split<;>rfl
 rw[i];dsimp only;generalize hO:aP c _ _=O at T|-;generalize au s.X [0] 4-1=b at g|-;have e0:bin .eql true true .int (I O.1) (.int .i64 0)=some (.bool (decide (O.1=0))):=by simp[dI,gW]
 generalize decide (O.1=0)=p at e0|-;have eb:Xc sy [(0,1),(1,1),(2,2),(4,2),(6,2),(8,2)] [(0,.bool p)]=some (.agg ⟨jN p 0 0 0 0 0 0 0 0 0⟩):=aU rfl rfl;simp only[e0,eb,X3];refine T.new λQ m3 k3=>?_;refine k3.aC (l1:=[]) (za6:=jN p 0 0 0 0 0 0 0 0 0) rfl rfl aW rfl λm4 V=>?_;delta Qrp C L jf A D;have fin:∀x S u,u.X _=some _->W c G j s o S j u ((Q,0,jN p 0 0 0 0 0 0 0 0 0)::[(bs,0,[dq,dP].map sv)]) ->
   aK c G j s (bp (bP (Xe 1 _ _ S)) λ_ m=>vq (dd d) (pt c.C 0 0) (pt Q 0 0) (pt (j [4,0]).b (b*2) (j [4,0]).ver) m) _:=λx S u v k'=>by
  refine k'.aC (l1:=[]) (y:=1) (g8:=.int .i64 x) (za6:=jN p x 0 0 0 0 0 0 0 0) rfl rfl aW rfl λZ e=>?_;exact XiV d R e v g
 refine V.cl (kF V.ps _ (d+6)) λZ e=>?_;rw[bL]at e|-;simp only[X7,X3,aQ];refine Xh (λa=>?_) (λa=>?_)
 ·rw[ah a];exact fin _ Z _ f e
 rw[af aq];refine e.cl (kF e.ps _ _) λm6 q=>?_;rw[bL]at q|-;refine Xh (λa=>?_) (λa=>?_)
 ·rw[ah a];exact fin 6 m6 _ f q
 rw[af aq];refine q.cl (kF q.ps _ _) λm7 r=>?_;rw[bL]at r|-;refine Xh (λa=>?_) (λa=>?_)
 ·rw[ah a];exact fin 17 m7 _ f r
 rw[af aq];refine r.cl (kF r.ps _ _) λm8 t=>?_;rw[bL]at t|-;refine Xh (λa=>?_) (λa=>?_)
 ·rw[ah a];exact fin 1 m8 _ f t
 rw[af aq];refine t.cl (kz t.ps 0 255 255 rfl aa _) λm9 k9=>?_;rw[bL]at k9|-;exact fin _ m9 _ f k9
variable {c:Cx}{G m:Mem}{Q j:ay}{J s u:ao}{o h:Nat}{ts:List Tmp}{x:Option Rs}{i8:Value->Nat->ay->ao->Prop}{v:Value}{cu:Cu}
variable [gF c]
def MD:kt [10,0]=some 14:=rfl
def iC:kt [11,0]=some 16:=rfl
theorem aK.pd{x v i5}(a:aK c G Q J x (sw o j v i5)):aK c G Q J x (gG o h v i5):=by obtain⟨l,f,g,i,k,b,d,e,rfl,rfl,rfl,rfl⟩:=a;exact⟨_,f,_,_,_,b,d,e,rfl,Ch _ _,rfl⟩
def o6(L n sz m):again (aI (some (ax L n sz)) m) (ax L n sz)=true:=by show fN 8 _ _=true;unfold ax;split<;>simp[fN]
theorem Xvh(h:PS c o m j s)(H' fr T'):(ib c s.cu H' fr T').1.2.2.2.length<=65536:=by
 show(iN c _).1.length<=65536;have key:∀cu,(iN c cu).1.length<=65536:=λcu=>by
  unfold iN;split
  ·show(Xa c _).1.length<=65536;unfold Xa;split
   ·rename_i a;exact(h.wl.ze _ (jO (vV (qe (s:={ s with cu:=(bh c cu _).2 }) a)))).1
   ·simp
  ·simp
 grind
def W.red(d)(h:W c G j s o m j u ts)(A:o<=8589934592)(x:u.X k=some (.c l))(n:kt k=some r)(i:y<l.length)(hf:bo r y=some (.l 15))(H')(fr:Nat)(T') :
  aK c G j s (bp (aI (X9 false 1 (pt (j k).b y (j k).ver) m) m) λf m =>
   bp (TA (d+7) Dl [pt c.C 0 0,sv H',.int .u8 (fr:Int),.bool T'] m) λt m =>
   tb (again (aI (X9 false 1 (pt (j k).b y (j k).ver) m) m) f&&true)
    (bp (X8 pY ku 4 1 [(0,t)] m) λv m =>
   bp (dn pY 4 40 f v m) λw m =>
   bp (bP (Xe 1 (pt (j k).b y (j k).ver) w m)) λ_ m =>
   some (.tuple ⟨[]⟩,m))) (gG o 1 (.tuple ⟨[]⟩) ((u.at (ib c u.cu H' fr T').2).app k y (wG (ib c u.cu H' fr T').1))):=by
 obtain⟨_,_,ld,_,_⟩:=h.ps.list x n i hf;rw[ld,X3];have e:=Xvh h.ps H' fr T';refine h.cl (Xti h.ps _ fr _ d) λD p=>?_;generalize ib c _ _ fr _=R at p e|-;have a:(u.at R.2).X k=some _:=x;have ⟨_,_,ld1,_,_⟩:=p.ps.list a n i hf;have ld1:X9 _ 1 _ D=some (ax _ (au u.X k y) _):=ld1;rw[ld1,o6,fO,Xv];refine p.bO (cs:=gV _ _ _ _) rfl ak λz E q=>?_;have q:W c G j s o E j _ ((z,0,(wG R.1).map Cl.raw)::ts):=q;refine q.rF A a n i hf rfl rfl rfl (dJ (by repeat' (first|exact trivial|exact bR _ _|exact eJ (aO e ak)|apply And.intro))) ak λF I H g _ B=>?_
 exact B.iM g
def XhK(h:PS c o m j s)(i:o<=8589934592)(hn:0<au s.X [0] 10)(d):eM c o 1 m j s (TA (d+9) Ik [pt c.P 0 0,pt c.C 0 0] m) (.tuple ⟨[]⟩) (ry c s):=by
 refine h.pad (Xb9 _ _ _ _) λG k=>?_;obtain⟨l,p,_,g,ld,sb,ix⟩:=k.ps.last i (sz:=3) rfl aa rfl hn;delta Iz O H C jo F E jn X je B N Z jb js jm A P jh D jp jq;simp only[Xg,X7,X3,ld,dx,sb,ix];refine k.cl (mO k.ps _) λx f=>?_;unfold ry;dsimp only;have e0:au (s.at (Xa c s.cu).2).X [0] 10=au s.X [0] 10:=rfl;rw[e0];generalize au s.X [0] 10-1=b at g|-;have e:(s.at (Xa c s.cu).2).X _=some _:=p
 try simp only[fC,Qh,X3]
 refine Xh (λa=>?_) (λa=>?_)
 ·rw[ah (aT a)];refine f.cl (qZ f.ps _) λy v=>?_;refine v.st1 e MD aa rfl rfl ak (by rw[fd_row (sz:=3) rfl b 1 aa];exact bR _ _) λz l3 q t w=>?_;exact(w.yP (fL k.ps) _ rfl).pd
 rw[af (aV a)];refine Xh (λa=>?_) (λa=>?_)
 ·rw[ah (aT a)];exact f.red _ i e MD aa (by rw[fd_row (r:=14) (sz:=3) rfl b 2 aa];rfl) _ 8 _
 ·rw[af (aV a)];exact(f.BK 130 ak _ rfl).pd
def UJ(i):bin .geq true true .int (fU i) (.int .i64 0)=some (.bool i.isSome):=by
 cases i with
 |none=>rfl
 |some a=>rfl
def yC(i):bin .lss true true .int (fU i) (.int .i64 0)=some (.bool i.isNone):=by
 cases i with
 |none=>rfl
 |some a=>show bin .lss true true .int (I a) (.int .i64 0)=_;rfl
def Yv{A' i7}(h:W c G j s A' m i7 u ts)(a:A'<=o+1)(g:(bw,0,ws.map sv)∈ts)(hn:n=ws.length)(k:r<2)(e:ws≠[])(b:ws.length<=16)(i:∀w∈ws,w.length<=65536)(d){i5}(f:Xl u ws=i5) :
  aK c G j s (Di (d6 d) (pt c.P 0 0) (.slice (some ⟨bw,0,some 1⟩) n r) m) (gG o 1 (.tuple ⟨[]⟩) i5):=by
 subst f;delta Di jp;exact h.cs (AY h.ps (h.XeJ g hn k) e b i (d+4)) λp l=>l.iM a
def lK(s:ao)(b:Nat)(i:Option Nat)(y:Nat)(yl:List ae)(ws:List ai):ao:=match i with
 |none=>if y=0 then Xl (s.app [11,0] (b*6+4) (yl.map .v)) ws else s.aC [0] 16 [.bool true]
 |some a=>Xl (if y=0 then s else s.aC [b*6+4,11,0] (a*6) yl) ws
def FL(hc:o<=8589934592)(h:W c G j s o m j u ts)(hl:u.X [11,0]=some (.c l))(a0:b*6+6<=l.length)(hi:∀g,i=some g->g<au u.X [11,0] (b*6+4))(R:(za8,0,yl)∈ts)(k:yl.length=6)(J:B3 (ch 18) (yl.map .v))(H:yl.all one=true)(z:(bw,0,ws.map sv)∈ts)(hn:n=ws.length)(T:r<2)(Q:ws≠[])(C:ws.length<=16)(D:∀w∈ws,w.length<=65536)(d) :
  aK c G j s (wZ (d6 d) (I y) (fU i) (pt (j [11,0]).b (b*6) (j [11,0]).ver) (pt za8 0 0) (pt c.P 0 0) (.slice (some ⟨bw,0,some 1⟩) n r) m) (gG o 1 (.tuple ⟨[]⟩) (lK u b i y yl ws)):=by
 have hf:bo 16 (b*6+4)=some (.l 18):=by rw[fd_row (r:=16) (sz:=6) rfl b 4 aa];rfl
 have ⟨_,_,K,_,q5⟩:=h.ps.list hl iC (y:=b*6+4) aa hf;have M:X9 _ 6 _ m=some (.agg ⟨yl⟩):=h.fi (y:=0) R aa aq;have e0:bin _ _ _ _ _ (.int _ 0)=some _:=nW y 0;have e1:bin _ _ _ _ _ (.int _ 0)=some _:=Xta y 0;delta wZ E B jk jj A;simp only[e0,X3];have p:∀x7,x7=(decide (y=0)&&i.isNone)->aK c G j s (HL (d6 d) (.bool x7) (pt (j [11,0]).b (b*6) (j [11,0]).ver) (pt za8 0 0) (pt c.P 0 0) (.slice (some ⟨bw,0,some 1⟩) n r) (fU i) (I y) m) (gG o 1 (.tuple ⟨[]⟩) (lK u b i y yl ws)):=λx7 O=>by
  delta HL L E jd jc B Z jj jm A;refine Xh (λt=>?_) (λt=>?_)
  ·rw[t]at O;simp at O;obtain⟨rfl,rfl⟩:=O;simp only[Xg,X7,X3,K,M];refine h.bO (cs:=yl) (by
    match yl,k with
    |[y0,y1,y2,y3,y4,y5],_=>rfl) ak λb2 V F=>?_
   have F:W c G j s o V j u ((b2,0,(yl.map Cl.v).map Cl.raw)::ts):=by rw[List.map_map,show(Cl.raw∘Cl.v)=id from rfl,List.map_id];exact F
   refine F.rF hc hl iC aa hf rfl (by rw[gB];exact k) (by rw[List.all_map];exact H) (dJ J) ak λA' m2 i7 S _ k2=>?_
   exact Yv k2 S z hn T Q C D d bY
  ·rw[t]at O;simp only[UJ,X3,e1];have h8:∀x8,x8=(i.isSome&&decide (y≠0))->aK c G j s (HM (d6 d) (.bool x8) (pt (j [11,0]).b (b*6) (j [11,0]).ver) (fU i) (pt za8 0 0) (pt c.P 0 0) (.slice (some ⟨bw,0,some 1⟩) n r) m) (gG o 1 (.tuple ⟨[]⟩) (lK u b i y yl ws)):=λx8 a=>by
    delta HM L E jd jc Y Z jb A jh jq;refine Xh (λt=>?_) (λt=>?_)
    ·rw[t]at a;have a:=a.symm;simp only[bT,gq]at a;obtain⟨g1,g2⟩:=a;obtain⟨g,rfl⟩:=M8.mp g1;have hj:=hi g rfl;have ⟨l2,a1,a2,a3⟩:=q5 aa;have U:Xd 6 (ax _ _ (aN 18)) (fU (some g))=some _:=eU _ a3 _ 6 g _ hj;have f:=oN (sz:=aN 18) hj;have f:g*6+6<=l2.length:=by rw[a2];exact f
     simp only[Xg,X7,X3,K,M,U];refine h.stn a1 (fB iC hf) k f H (λe=>jA) (λq g8 hy=>?_) λV F=>?_
     ·have hq:q<6:=by rw[<-k];exact(dO.mp hy).1
      rw[fd_row (sz:=6) rfl g q hq];exact dJ J q _ (by rw[gX,hy];rfl)
     ·exact Yv F zv z hn T Q C D d (by unfold lK;grind)
    ·rw[t]at a;simp only[yC,X3];refine Xh (λx=>?_) (λx=>?_)
     ·rw[Option.isNone_iff_eq_none]at x;subst x;have N:y≠0:=λe=>by grind
      try simp only[Xg,X7,X3,aQ]
      refine h.MW (y:=16) rfl rfl aa (.inr ⟨aa,gF.rf⟩) (show dz _ _ from fV _) λV F=>?_;have e:lK u b none y yl ws=u.aC [0] 16 [.bool true]:=by unfold lK;simp[N]
      rw[e];exact F.iM zv
     ·cases i with
      |none=>grind
      |some g =>exact Yv h zv z hn T Q C D d (by unfold lK;grind)
   cases i with
   |none =>exact h8 _ rfl
   |some g =>exact h8 _ ar
 by_cases N:y=0
 ·rw[bj N,X6];simp only[yC,X3];exact p _ aq
 ·rw[bJ N,X5];exact p _ aq
variable {c:Cx}{G m:Mem}{Q j:ay}{J s u:ao}{o h:Nat}{ts:List Tmp}{x:Option Rs}{i8:Value->Nat->ay->ao->Prop}{v:Value}{cu:Cu}
variable [gF c]
def vI(p sz f):∀n i a,gx p sz f n i=some a->a<i+n
 |0,i,a,h=>by cases h
 |n+1,i,a,h=>by
  unfold gx at h;split at h
  ·grind
  ·have:=vI p sz f n _ a h;omega
omit [gF c] in
def PS.XeH(h:PS c o m j s){N sz}(p:s.X k=some (.c l))(u:kt k=some r)(w:aN r=sz)(A:l.length=N*sz)(b:∀q,q<sz->∀f,(ch r)[q]?≠some (.l f)){i}(hi:i<N) :
  ((cells j k l).drop (i*sz)).take sz=(List.range sz).map (λq=>dm s.X k (i*sz+q))/\∀q,q<sz->dz ((ch r)[q]?) (.v (dm s.X k (i*sz+q))):=by
 have x:=oN (sz:=sz) hi;have key:∀q,q<sz->(cells j k l)[i*sz+q]?=some (dm s.X k _)/\dz _ (.v (dm s.X k _)):=λq a=>by
  obtain⟨d,d1,d2⟩:=h.wt.get p u (y:=i*sz+q) aa;rw[fd_row w i q a]at d2;cases d with
  |s n z =>
   exfalso;cases hf:(ch r)[q]? with
   |none=>rwa[hf]at d2
   |some g =>
    rw[hf]at d2;cases g with
    |l f=>exact b q a f hf
    |_=>exact d2
  |v t =>
   have e:dm s.X k (i*sz+q)=t:=by unfold dm;rw[cU p,d1];rfl
   rw[e,Xn,d1];exact⟨rfl,d2⟩
 refine⟨?_,λq a=>(key q a).2⟩;apply fk
 grind
abbrev eC(z0 z1:Int)(t2 t3:ai)(b4 b5:Bool):List ae:=[.int .u32 z0,.int .u32 z1,sv t2,sv t3,.bool b4,.bool b5]
def rk(a:t2.length<=SB)(b:t3.length<=SB):B3 (ch 18) ((eC z0 z1 t2 t3 b4 b5).map .v):=And.intro (bR _ _) (And.intro (bR _ _) (And.intro (eJ a) (And.intro (eJ b) (And.intro (fV _) (And.intro (fV _) trivial)))))
def pe_row{f}(h:∀q,q<6->dz ((ch 18)[q]?) (.v (f q))):∃z0 z1 t2 t3 b4 b5,(List.range 6).map f=eC z0 z1 t2 t3 b4 b5/\t2.length<=SB/\t3.length<=SB:=by
 obtain⟨z0,e0⟩:=(h 0 aa)
 obtain⟨z1,e1⟩:=(h 1 aa)
 obtain⟨t2,e2,l2⟩:=(h 2 aa)
 obtain⟨t3,a,l3⟩:=(h 3 aa)
 obtain⟨b4,b⟩:=(h 4 aa)
 obtain⟨b5,e5⟩:=(h 5 aa)
 refine⟨z0,z1,t2,t3,b4,b5,?_,l2,l3⟩;show[f 0,f 1,f 2,f 3,f 4,f 5]=_
 grind
abbrev kK:ai:=zG
abbrev kJ:List ai:=[jD,dH,sg,si]
def yV(c:Cx)(s:ao)(b:Nat)(a:Nat)(i:Option Nat)(y:Nat)(g8:List ae):ao:=
 let n:=Xb c s.cu 1 4294967295;let g:=bB c s.cu;let p:=aP c g.2 [cQ,ed];let ws:List ai:=[kK,bN a]
 if y=0 then lK (s.at n.2) b i y [u32 a,.int .u32 n.1,sv [],sv [],.bool false,.bool false] (ws++[jD])
 else if y=1 then(if p.1=0 then lK (s.at p.2) b i y (g8.set 2 (sv g.1)) (ws++[dH,cQ])else lK (s.at p.2) b i y (g8.set 3 (sv g.1)) (ws++[dH,ed]))
 else if y=2 then lK s b i y (g8.set 4 (.bool true)) (ws++[sg])
 else lK s b i y (g8.set 5 (.bool true)) (ws++[si])
def VJ(a)(b:a<4294967296):(bN a).length<=65536:=aO (xW a b) ak
def XrM(N:o<=8589934592){M a}(ho:y<4)(p:kJ[y]?=some kw)(ha:a<4294967296)(h2:t2.length<=SB)(h3:t3.length<=SB)(h:W c G j s o m j u [(bw,0,[kK,bN a,kw].map sv),(za8,0,eC z0 z1 t2 t3 b4 b5),(M,0,[u32 a])])(Q:u.X [11,0]=some (.c l))(g:b*6+6<=l.length)(hi:∀i6,i=some i6->i6<au u.X [11,0] (b*6+4))(d) :
  aK c G j s (QB (d6 d) (I y) (pt M 0 0) (pt c.C 0 0) (pt za8 0 0) (fU i) (pt (j [11,0]).b (b*6) (j [11,0]).ver) (pt c.P 0 0) (.slice (some ⟨bw,0,some 1⟩) 3 1) m) (gG o 1 (.tuple ⟨[]⟩) (yV c u b a i y (eC z0 z1 t2 t3 b4 b5))):=by
 have a4:=VJ a ha;have e0:bin _ _ _ _ _ (.int _ 0)=some _:=nW y 0;have e1:bin _ _ _ _ _ (.int _ 1)=some _:=nW y 1;have e2:bin _ _ _ _ _ (.int _ 2)=some _:=nW y 2;have U:∀S (s1:ao) t1 t2,W c G j s o S j s1 [t1,t2,(M,0,[u32 a])]->X9 _ 1 _ S=some _:=λS s1 t1 t2 w=>w.ld (b:=M) (r:=0) (y:=0) (cs:=[u32 a]) ar rfl;have wl:∀w,w.length<=65536->∀x∈[kK,bN a,w],x.length<=65536:=λw hw x hx=>by grind
 have a0:∀w Z,w.length<=65536->Z.length<=65536->∀x∈[kK,bN a,w,Z],x.length<=65536:=λw Z hw a5 x hx=>by grind
 delta QB O H C jo E jn X B Y jr jk jm jf A jh D;unfold yV;simp only[e0,e1,e2,X3];refine Xh (λf=>?_) (λf=>?_)
 ·have f:=aT f;subst f;cases p;simp only[U m u _ _ h,X3];refine h.cl (kz h.ps 1 _ 4294967295 rfl aa d) λV k1=>?_;have eb:∀z,Xc sx [(0,1),(1,1),(2,1),(3,1),(4,1),(5,1)] [(0,u32 a),(1,.int _ z)]=some (.agg ⟨eC a z [] [] _ _⟩):=λz=>aU rfl rfl;simp only[U V _ _ _ k1,kQ,fO,Xv,Bk c _ 1 4294967295 aa,X4,eb,X3];refine k1.aC (l1:=[_]) (za6:=eC a _ [] [] _ _) rfl rfl aW rfl λK q=>?_;exact FL N q Q g hi ar rfl (rk c7 c7) rfl ar rfl aa ar ar (wl _ ak) d
 refine Xh (λf=>?_) (λf=>?_)
 ·have f:=aT f;subst f;cases p;have R:=j6 h.ps;refine h.cl (nY h.ps _) λV k1=>?_;refine k1.bO (cs:=[cQ,ed].map sv) rfl ak λbs K q=>?_;refine q.cl (qj q.ps (q.iE (ws:=[cQ,ed]) br) ar _) λm3 F=>?_;rw[bL]at F|-;have ez:bin _ _ _ _ (I (aP c (bB c u.cu).2 [cQ,ed]).1) (.int _ 0)=some _:=nW _ 0;simp only[ez,X3];have F:=F.tl;generalize hS:(u.at _).at _=i5 at F;have k:i5.X=u.X:=by rw[<-hS];rfl
  have app:∀w S,W c G j s o S j i5 [(bw,0,[kK,bN a,dH].map sv),(za8,0,eC z0 z1 t2 t3 b4 b5),(M,0,[u32 a])] ->
    ∃L K t V,X8 Qc [.string ⟨#[]⟩] 1 1 [(0,sv w)] S=some (t,V)/\dn Qc 1 16 (.slice (some ⟨bw,0,some 1⟩) 3 1) t V=some (.slice (some ⟨L,0,some 1⟩) 4 0,K)/\W c G j s o K j i5 [(L,0,[kK,bN a,dH,w].map sv),(za8,0,eC z0 z1 t2 t3 b4 b5),(M,0,[u32 a])]:=λw S k'=>by
   obtain⟨b1,K,e2,q⟩:=k'.Mh (T:=Qc) (n:=1) (sz:=1) (zero:=[.string ⟨#[]⟩]) (parts:=[(0,sv w)]) (cs:=[w].map sv) rfl ak;obtain⟨ty,f⟩:=q.at' (bw,0,[kK,bN a,dH].map sv) ar;refine⟨K.next,_,_,K,e2,Xk4 (e:=Qc) (za9:=[kK,bN a,dH].map sv) f rfl (q.iE br).sl ar ar,?_⟩;have F:=q.push ([kK,bN a,dH].map sv++[w].map sv) (some (2*Qc));exact F.sub (List.Sublist.cons_cons _ (List.Sublist.cons _ (List.Sublist.cons _ (M9 _))))
  refine Xh (λf=>?_) (λf=>?_)
  ·rw[ah (aT f)];obtain⟨L,m4,t,m5,q1,q2,k4⟩:=app cQ m3 F;simp only[fC]at q1|-;rw[q1,X4,q2,X4];refine k4.aC (l1:=[_]) (za6:=eC z0 z1 _ t3 b4 b5) rfl rfl aW rfl λm6 J=>?_;have:=FL N (y:=1) (yl:=eC z0 z1 _ t3 b4 b5) J (by rwa[k]) g (by rw[k];exact hi) (za8:=za8) ar rfl (rk (aO R ak) h3) rfl (bw:=L) (n:=4) (r:=0) (ws:=[kK,bN a,dH,cQ]) ar rfl aa ar ar (a0 _ _ ak ak) d;rw[<-hS]at this;trivial
  ·rw[af (aV f)];obtain⟨L,m4,t,m5,q1,q2,k4⟩:=app ed m3 F;simp only[fC]at q1|-;rw[q1,X4,q2,X4];refine k4.aC (l1:=[_]) (za6:=eC z0 z1 t2 _ b4 b5) rfl rfl aW rfl λm6 J=>?_;have:=FL N (y:=1) (yl:=eC z0 z1 t2 _ b4 b5) J (by rwa[k]) g (by rw[k];exact hi) (za8:=za8) ar rfl (rk h2 (aO R ak)) rfl (bw:=L) (n:=4) (r:=0) (ws:=[kK,bN a,dH,ed]) ar rfl aa ar ar (a0 _ _ ak ak) d;rw[<-hS]at this;trivial
 refine Xh (λf=>?_) (λf=>?_)
 ·have f:=aT f;subst f;cases p;refine h.aC (l1:=[_]) (za6:=eC z0 z1 t2 t3 _ b5) rfl rfl aW rfl λm6 J=>?_;exact FL N J Q g hi ar rfl (rk h2 h3) rfl ar rfl aa ar ar (wl _ ak) d
 ·rw[af (aV f)];rename_i a1 a2;have a3:y=3:=by
   have h0:=aV a1;have h1:=aV a2;have h2:=aV f;omega
  subst a3;cases p;refine h.aC (l1:=[_]) (za6:=eC z0 z1 t2 t3 b4 _) rfl rfl aW rfl λm6 J=>?_;exact FL N J Q g hi ar rfl (rk h2 h3) rfl ar rfl aa ar ar (wl _ ak) d
def Xut(c cu w):(c8 c cu w).1<=32:=by
 have a:∀x,qw x<=32:=λx=>Nat.sub_le _ _;unfold c8;unfold mZ
 grind
def U1(c s):ui c s=(let a:=Xy c s.cu
  let b:=au s.X [0] 11-1;let i:=kX s.X [11,0] (b*6+4) 6 0 (a.1:Int);let y:=aP c a.2 kJ
  yV c (s.at y.2) b a.1 i y.1 (match i with|some h=>(List.range 6).map λq=>dm s.X [b*6+4,11,0] (h*6+q)|none=>eC 0 0 [] [] false false)):=by
 unfold ui yV lK;dsimp only;generalize aP c _ kJ=O;generalize kX s.X _ _ 6 0 _=i;by_cases f:O.1=0
 ·simp only[ah f];rfl
 ·by_cases g:O.1=1
  ·simp only[af f,ah g];by_cases d:(aP c (bB c (s.at O.2).cu).2 [cQ,ed]).1=0
   ·have e:(aP c (bB c O.2).2 _).1=0:=d;simp only[ah d,ah e];trivial
   ·have e:¬(aP c (bB c O.2).2 _).1=0:=d;simp only[af d,af e];trivial
  ·by_cases d:O.1=2
   ·simp only[af f,af g,ah d];rfl
   ·simp only[af f,af g,af d];cases i<;>rfl
def Xmd(h:PS c o m j s)(hc:o<=8589934592)(hn:0<au s.X [0] 11)(d):eM c o 1 m j s (TA (d+7) OT [pt c.P 0 0,pt c.C 0 0,pt (j [11,0]).b ((au s.X [0] 11-1)*6) (j [11,0]).ver] m) (.tuple ⟨[]⟩) (ui c s):=by
 rw[U1];refine h.pad (X7z _ _ _ _ _) λG k=>?_;obtain⟨l,hl,_,M,_,_,_⟩:=k.ps.last hc (f:=11) (r':=16) (sz:=6) rfl aa rfl hn;generalize au s.X [0] 11-1=b at M|-;have hf:bo 16 (b*6+4)=some (.l 18):=by rw[fd_row (r:=16) (sz:=6) rfl b 4 aa];rfl
 have ha:=uo c s.cu;delta C7 C Y U;refine k.cl (qZ k.ps (d+1)) λm1 k1=>?_;generalize hA:Xy c s.cu=A at k1 ha|-;refine k1.new λx m2 k2=>?_;refine k2.aC (l1:=[]) (y:=0) (g8:=u32 A.1) (za6:=[u32 A.1]) rfl rfl aW rfl λm3 R=>?_;have K:(s.at A.2).X [11,0]=some (.c l):=hl;have ⟨_,_,t,_,q5⟩:=R.ps.list K iC (y:=b*6+4) aa hf;delta Qnw C jc;have ix:=XpL R.ps hc K iC (y:=b*6+4) aa hf (A.1:Int) ((R.lt (x,0,[u32 A.1]) br).2) (R.at' (x,0,[u32 A.1]) br) (d+4);have ix:TA (d+6) Gy [ax (j [b*6+4,11,0]) (au s.X [11,0] (b*6+4)) (aN 18),.func (.func zQ) ⟨[]⟩ ⟨[pt x 0 0]⟩] m3=some (fU (kX s.X [11,0] (b*6+4) 6 0 (A.1:Int)),m3):=ix;have t:X9 false 1 (pt (j [11,0]).b (b*6+4) (j [11,0]).ver) m3=some (ax (j [b*6+4,11,0]) (au s.X [11,0] (b*6+4)) (aN 18)):=t;simp only[Xg,X7,X3,t,ix,X4];have hi:∀a,kX s.X [11,0] (b*6+4) 6 0 (A.1:Int)=some a->a<au s.X [11,0] (b*6+4):=λa J=>by have:=vI _ _ _ _ _ _ J;omega
 generalize kX s.X [11,0] (b*6+4) 6 0 (A.1:Int)=i at hi|-;delta Qnx H C jx D;refine R.bO (cs:=kJ.map sv) rfl ak λbs m4 k4=>?_;have lt:=EI c A.2 kJ ar;refine k4.cl (qj k4.ps (k4.iE (ws:=kJ) br) ar (d+3)) λm5 T=>?_;rw[bL]at T|-;generalize hO:aP c A.2 kJ=O at T lt|-;delta Qny U;refine T.tl.new λa0 m6 V=>?_;have L:((s.at A.2).at O.2).X [11,0]=some (.c l):=hl;have ⟨kw,a7⟩:∃kw,kJ[O.1]?=some kw:=⟨_,dX aa⟩
 have fin:∀(S:aj)(v w) (t2 t3) (n p),t2.length<=SB->t3.length<=SB->(match i with|some a=>(List.range 6).map λq=>dm s.X [b*6+4,11,0] (a*6+q)|none=>eC 0 0 [] [] false false)=eC v w t2 t3 n p ->
   W c G j s o S j ((s.at A.2).at O.2) [(a0,0,eC v w t2 t3 n p),(x,0,[u32 A.1])] ->
   aK c G j s (HN (d6 d) (pt x 0 0) (I O.1) (pt c.C 0 0) (pt a0 0 0) (fU i) (pt (j [11,0]).b (b*6) (j [11,0]).ver) (pt c.P 0 0) S) (gG o 1 (.tuple ⟨[]⟩) (yV c (s.at O.2) b A.1 i O.1 (match i with|some a=>(List.range 6).map λq=>dm s.X [b*6+4,11,0] (a*6+q)|none=>eC 0 0 [] [] false false))):=λS v w t2 t3 n p h2 h3 hy k'=>by
  rw[hy];delta HN O H C jo jn X jb ju jx D;have ab:X9 _ 1 (pt x 0 0) S=some _:=k'.ld (cs:=[u32 A.1]) ar rfl;simp only[ab,X3];refine k'.bO (cs:=kJ.map sv) rfl ak λbk Z z=>?_;have a9:Xd 1 (.slice (some ⟨bk,0,some 1⟩) 4 1) (I O.1)=some (pt bk _ 0):=eU ⟨bk,0,1⟩ ar 4 1 O.1 _ lt;have ac:X9 _ 1 (pt bk (O.1*1) 0) Z=some (sv kw):=z.ld br aq;have ct:TA (d+6) _ [u32 A.1] Z=some _:=Yg A.1 ha _ Z;simp only[a9,X3,ac,ct,X4,sG,fO,Xv];have z:=z.tl;refine z.bO (cs:=[kK,bN A.1,kw].map sv) rfl ak λbw m8 k8=>?_;exact XrM hc lt a7 ha h2 h3 k8 L M hi d
 delta Qnz E jd jc Y jb A;simp only[UJ,X3];cases i with
 |none =>exact fin m6 0 0 [] [] false false c7 c7 rfl V
 |some a =>
  have J:=hi a rfl;have ⟨l2,a1,a2,a3⟩:=q5 (by show au s.X _ _≠0;omega);have ⟨_,_,u,_,_⟩:=V.ps.list L iC (y:=b*6+4) aa hf;have u:X9 false 1 (pt (j [11,0]).b (b*6+4) (j [11,0]).ver) m6=some (ax (j [b*6+4,11,0]) (au s.X [11,0] (b*6+4)) (aN 18)):=u;have a8:Xd 6 (ax (j [b*6+4,11,0]) (au s.X [11,0] (b*6+4)) (aN 18)) (fU (some a))=some (pt (j [b*6+4,11,0]).b (a*6) (j [b*6+4,11,0]).ver):=eU _ a3 _ 6 a .i64 J;have B:((s.at A.2).at O.2).X [b*6+4,11,0]=some (.c l2):=a1;obtain⟨v1,v2⟩:=V.ps.XeH (sz:=6) (N:=au s.X [11,0] (b*6+4)) B (fB iC hf) rfl a2 (λq hq r'=>by have:q=0\/q=1\/q=2\/q=3\/q=4\/q=5:=aa;rcases this with rfl|rfl|rfl|rfl|rfl|rfl<;>(intro e;cases e)) (i:=a) J
  have ⟨ty,F⟩:=V.ps.aF B (λe=>aq) (λe=>aq);have g:=oN (sz:=aN 18) J;have g:a*6+6<=l2.length:=by rw[a2];exact g
  have ag:X9 _ 6 _ m6=some (.agg ⟨(List.range 6).map (λq=>dm s.X _ _)⟩):=Xw F (by rw[gM];exact g) v1;have ⟨v,w,t2,t3,n,p,Q,h2,h3⟩:=pe_row v2;have Q:(List.range 6).map (λq=>dm s.X _ _)=eC v w t2 t3 n p:=Q;simp only[Xg,X7,X3,u,a8,ag];rw[Q];refine V.aC (l1:=[]) (za6:=eC v w t2 t3 n p) rfl rfl aW rfl λZ z=>?_;have:=fin Z v w t2 t3 n p h2 h3 Q z;simp only[Q]at this;exact this
def XkW(h:PS c o m j s)(Q:o<=8589934592)(hn:0<au s.X [0] 11)(d):eM c o 1 m j s (TA (d+9) I2 [pt c.P 0 0,pt c.C 0 0] m) (.tuple ⟨[]⟩) (rG c s):=by
 refine h.pad (Xc6 _ _ _ _) λG k=>?_;obtain⟨l,hl,_,V,ld,sb,ix⟩:=k.ps.last Q (sz:=6) rfl aa rfl hn;delta I8 O H C jo F E jn jd X je jc B N Y Z U jb js jr jj jm A P D jp jq;simp only[Xg,X7,X3,aQ,ld,dx,sb,ix];have hw:=fL k.ps;refine k.cl (mO k.ps (d+6)) λm1 f=>?_;unfold rG;dsimp only;have e0:au (s.at (Xa c s.cu).2).X [0] 11=au s.X [0] 11:=rfl;rw[e0];have z:0<au (s.at (Xa c s.cu).2).X [0] 11:=hn;generalize T:au s.X [0] 11-1=b at V|-;have x:au (s.at (Xa c s.cu).2).X [0] 11-1=b:=T;generalize (Xa c _).1=w at hw|-;have g:(s.at (Xa c s.cu).2).X [11,0]=some (.c l):=hl;generalize s.at (Xa c s.cu).2=R at f g z x|-
 try simp only[fC,Qh,X3]
 refine Xh (λa=>?_) (λa=>?_)
 ·rw[ah (aT a)];refine f.cl (qZ f.ps _) λm2 n=>?_;refine n.st1 g iC aa rfl rfl ak (by rw[fd_row (sz:=6) rfl b 2 aa];exact bR _ _) λm3 l3 a5 a6 p=>?_;exact(p.yP hw (d+6) rfl).pd
 rw[af (aV a)];refine Xh (λa=>?_) (λa=>?_)
 ·rw[ah (aT a)];have L:=uo c R.cu;refine f.cl (qZ f.ps (d+3)) λm2 n=>?_;generalize hA:Xy c _=A at n L|-;refine n.cl (Ls n.ps false (d+2)) λm3 p=>?_;rw[bL]at p|-;have t:(c8 c A.2 false).1<=32:=Xut c A.2 false;generalize hM:c8 c A.2 false=M at p t|-;refine p.cl (W7 p.ps A.1 L (M.1:Int) (d+5)) λm4 k4=>?_;have k4:W c G j s o m4 j (R.at (iX c M.2 A.1 (M.1:Int))) []:=k4;refine k4.new λS m5 k5=>?_;refine k5.aC (l1:=[]) (y:=0) (g8:=dL A.1 (M.1:Int)) (za6:=[u32 A.1,I M.1]) rfl rfl aW rfl λm6 k6=>?_;have a4:X9 true 2 (pt S 0 0) m6=some (dL A.1 (M.1:Int)):=k6.fi (y:=0) br ar rfl;have a7:(kb A.1 (M.1:Int)).length<=65536:=by
   have h1:=xW A.1 L;have h2:=KK (M.1:Int) (AX aa);have e:kb A.1 (M.1:Int)=bN A.1++47::itoa (M.1:Int):=by simp[kb]
   rw[e,fy,iq];omega
  simp only[a4,X3,XoX A.1 L (M.1:Int) (AX aa) (d+6) m6,X4];refine k6.bO (cs:=[w,kb A.1 (M.1:Int)].map sv) rfl ak λbw m7 k7=>?_;refine k7.cs (AY k7.ps (ws:=[w,kb A.1 (M.1:Int)]) (k7.iE br) ar ar aq (d+6)) λm8 q=>?_;have q:=q.tl;generalize hS:Xl (R.at (iX c M.2 A.1 (M.1:Int))) [w,kb A.1 (M.1:Int)]=i5 at q;have u:i5.X [11,0]=some (.c l):=by rw[<-hS];obtain⟨lr,a0,_⟩:=f.ps.wt.root;unfold Xl Xz;have a1:(R.at (iX c M.2 A.1 (M.1:Int))).X [0]=some (.c lr):=a0;dsimp only;rw[NX.aE _ _ ak,fp a1,NX.aE _ _ ak];exact g
  have hf:bo 16 (b*6+3)=some (.l 17):=by rw[fd_row (r:=16) (sz:=6) rfl b 3 aa];rfl
  have ⟨_,_,a3,_,_⟩:=q.ps.list u iC (y:=b*6+3) aa hf;have K:X9 _ 2 _ m8=some (dL A.1 (M.1)):=q.fi (y:=0) br ar rfl;simp only[X3,a3,K];refine q.bO (cs:=[u32 A.1,I M.1]) rfl ak λb2 m9 k9=>?_;have k9:W c G j s o m9 j i5 ((b2,0,[Cl.v (u32 A.1),.v (I M.1)].map Cl.raw)::_):=k9;refine k9.rF Q u iC aa hf rfl rfl rfl (dJ (And.intro (bR _ _) (And.intro (bR _ _) trivial))) ak λA' a8 i7 i _ a2=>?_;exact a2.iM i
 rw[af (aV a)];refine Xh (λa=>?_) (λa=>?_)
 ·rw[ah (aT a)];have J:=Xmd f.ps Q z (d+1);rw[x]at J;exact f.pd J λA' m2 i7 i n=>n.iM i
 rw[af (aV a)];refine Xh (λa=>?_) (λa=>?_)
 ·rw[ah (aT a)];exact f.red _ Q g iC aa (by rw[fd_row (r:=16) (sz:=6) rfl b 5 aa];rfl) _ 4 _
 ·rw[af (aV a)];exact(f.BK 130 ak _ rfl).pd
variable {c:Cx}{G m:Mem}{Q j:ay}{J s u:ao}{o h:Nat}{ts:List Tmp}{x:Option Rs}{i8:Value->Nat->ay->ao->Prop}{v:Value}{cu:Cu}
variable [gF c]
theorem Xle(d){K}(j:kt K=some 13)(E:K≠[0])(e:ay)(kw b V' h):∀f F a A' i7 (m:aj) (l),c.ws.length-a.cu.pl<f->c.ws.length-a.cu.pl+1<F->A'+(c.ws.length-a.cu.pl)+1<=V'+h->V'+h<=8589934592->i7 K=e K ->
  a.X K=some (.c l)->b*15+15<=l.length->W c G Q J A' m i7 a ts ->
  aK c G Q J (Ay (d6 d) F (.bool true) (pt (e K).b (b*15) (e K).ver) (pt c.C 0 0) (sv kw) m) (gG V' h (sv kw) (ir c K (b*15+12) f a))
 |f+1,F+1,a,A',i7,m,l,h1,h2,h3,I,g,p,N,k=>by
  have hf:bo 13 (b*15+12)=some (.l 11):=by rw[fd_row (r:=13) (sz:=15) rfl b 12 aa];rfl
  obtain⟨-,-,ld,-,-⟩:=k.ps.list p j aa hf;rw[g]at ld;unfold Ay;delta O H C jo L jn X je Z jm A;rw[X6];simp only[Xg,X7,X3,ld];refine k.cl (kz k.ps 1 _ 4294967295 rfl aa d) λS w=>?_;have i:(a.at (Xb c a.cu 1 4294967295).2).X K=some _:=p;obtain⟨-,-,ld1,-,-⟩:=w.ps.list i j aa hf;rw[g]at ld1;have ld1:X9 _ 1 _ S=some (ax _ (au a.X K _) _):=ld1;simp only[ld1,o6,fO,Xv,Bk c _ 1 4294967295 aa,X4];refine w.bO (cs:=[.int _ _]) rfl ak λb2 T x=>?_;have x:W c G Q J _ T i7 _ ((b2,0,[Cl.v _].map Cl.raw)::ts):=x;rw[<-g];refine x.rF aa i j aa hf rfl rfl rfl (dJ (And.intro (bR _ _) trivial)) ak λV z n M B y=>?_;have o:n K=e K:=oU;have P:TA (d+6) _ _ z=some (.bool (cH c (Xb c _ 1 _).2),z):=Fw y.ps _;simp only[P,X4];have u:ir c K _ (f+1) a=if cH c (Xb c _ 1 _).2=true then ir c K (b*15+12) f _ else(a.at _).app K _ _:=rfl;rw[u];cases t:cH c (Xb c a.cu 1 4294967295).2 with
  |true =>
   have ⟨D,g2⟩:=Xnp t;have g3:=qe D;rw[ah rfl,g];obtain⟨U,-⟩:=w.ps.list i j aa hf;have q:((a.at (Xb c a.cu 1 4294967295).2).app K (b*15+12) [.v (.int .u32 (Xb c a.cu 1 4294967295).1)]).X K=some (.c (l.set (b*15+12) (.s (au a.X K (b*15+12)+1) 1))):=by show bg a.X K (b*15+12) _ K=_;rw[pa p U _ rfl,NX.aR];rfl
   have Y:((a.at (Xb c _ 1 _).2).app K (b*15+12) [.v (.int .u32 (Xb c a.cu 1 4294967295).1)]).cu.pl=a.cu.pl+1:=g2;exact Xle d j E _ kw b _ h f F _ _ n z _ aa aa aa I o q aq y
  |false =>
   obtain⟨F,rfl⟩:∃R,F=R+1:=⟨F-1,aa⟩
   unfold Ay;delta O H C jo L jn X je Z jm A;exact y.ret ⟨rfl,aa,rfl⟩
def XkQ(h:PS c o m j s)(hc:o+c.ws.length+1<=8589934592)(Q:s.X K=some (.c l))(q:kt K=some 13)(p:K≠[0])(F:b*15+15<=l.length)(d) :
  eM c o (c.ws.length+1) m j s (TA (d+7) Rr [pt c.P 0 0,pt c.C 0 0,pt (j K).b (b*15) (j K).ver] m) (sv (gA c s K (b*15)).1) (gA c s K (b*15)).2:=by
 refine h.pad (Xcl _ _ _ _ _) λG k=>?_;delta DX Td C;refine k.cl (mO k.ps (d+4)) λO f=>?_;delta Te Tf B P D;unfold gA;dsimp only;generalize (Xa c _).1=w;have e:(s.at (Xa c s.cu).2).X K=some _:=Q;generalize s.at _=t at f e|-;have num:∀y(hi:Nat),hi<1000000000000->y<15->(ch 13)[y]?=some (.i .i64)->aK c G j s (bp (TA (d+6) Q4 [pt c.C 0 0,.int .i64 0,.int .i64 (hi:Int)] O) λY m =>
   bp (bP (Xe 1 (pt (j K).b (b*15+y) (j K).ver) Y m)) λ_ m=>tY (d6 d) (sv w) m) (gG o (c.ws.length+1) (sv w) ((t.at (Xb c t.cu 0 hi).2).aC K (b*15+y) [.int .i64 (Xb c t.cu 0 hi).1])):=λy hi R T hf=>by
  refine f.cl (kz f.ps 0 hi hi rfl R d) λI g=>?_;refine g.st1 e q aa rfl rfl p (by rw[fd_row (sz:=15) rfl b y T,hf];exact bR _ _) λJ l3 _ _ n=>?_;exact n.iM rZ
 try simp only[fC,Qh,X3]
 delta Tg C L B Z A P D;refine Xh (λa=>?_) (λa=>?_)
 ·rw[ah (aT a)];exact num 7 16777216 aa aa rfl
 rw[af (aV a)]
 try simp only[fC,Qh,X3]
 delta Th C L B Z A P D;refine Xh (λa=>?_) (λa=>?_)
 ·rw[ah (aT a)];exact num 8 16777216 aa aa rfl
 rw[af (aV a)]
 try simp only[fC,Qh,X3]
 delta Ti C L B Z A P D;refine Xh (λa=>?_) (λa=>?_)
 ·rw[ah (aT a)];exact num 9 16777216 aa aa rfl
 rw[af (aV a)]
 try simp only[fC,Qh,X3]
 delta Tj C L B Z P D;refine Xh (λa=>?_) (λa=>?_)
 ·rw[ah (aT a)];refine f.cl (kF f.ps _ (d+4)) λI g=>?_
  try simp only[Xg,X7,X3]
  refine g.st1 e q aa rfl rfl p (by rw[fd_row (sz:=15) rfl b 11 aa];exact fV _) λJ l3 z S n=>?_;obtain⟨L,V,u,H,x⟩:=Xpu n.ps (d+2);have u:TA (d+6) _ _ J=some (ax L (cM c _ (bh c _ _).2).1.length 1,V):=u;rw[u,X4];have N:=Et c (c.ws.length+1) (bh c t.cu zB).2;refine W.ads (ts:=[]) (n.join H) x (by rw[gB];rfl) (Ez _ _ _) (λv hv=>by grind) z q p aa (by rw[fd_row (r:=13) (sz:=15) rfl b 10 aa];rfl) λm5 i7 _ U=>?_
  refine U.ret ⟨rfl,?_,rfl⟩;omega
 rw[af (aV a)]
 try simp only[fC,Qh,X3]
 delta Tk C L E Z A P jh D;refine Xh (λa=>?_) (λa=>?_)
 ·rw[ah (aT a)];exact Xle d q p j w b o _ _ 18446744073709551616 t o j O l aa aa aa aa rfl e F f
 rw[af (aV a)]
 try simp only[fC,Qh,X3]
 refine Xh (λa=>?_) (λa=>?_)
 ·rw[ah (aT a)];refine f.cl (XaI f.ps d) λI g=>?_
  try simp only[Xg,X7,X3]
  refine g.st1 e q aa rfl rfl p (by rw[fd_row (sz:=15) rfl b 13 aa];exact bR _ _) λJ l3 _ _ n=>?_;exact n.iM rZ
 ·rw[af (aV a)];refine f.cl (lJ f.ps 130 ak _) λI g=>?_;exact g.iM rZ
def W.XqW{A' i7}(e:W c G j s A' m i7 u ts)(g:A'<=o+h)(k:w.length<=65536)(d){i5}(f:Xl u [w]=i5) :
  aK c G j s (bp (X8 Qc [.string ⟨#[]⟩] 1 1 [(0,sv w)] m) λg8 m=>bp (TA (d+2) Qg [pt c.P 0 0,g8] m) λ_ m=>some (.tuple ⟨[]⟩,m)) (gG o h (.tuple ⟨[]⟩) i5):=by
 subst f;refine e.bO (cs:=[w].map sv) rfl ak λb l a=>?_;refine a.cs (AY a.ps (a.iE br) ar ar aq d) λn i=>?_;exact i.iM g
def W.Mw{A' i7}(f:W c G j s A' m i7 u ts)(i:A'<=o+h){w1 a}(k:w1.length<=65536)(l:a.length<=65536)(d){i5}(g:Xl u [w1,a]=i5) :
  aK c G j s (bp (X8 Qc [.string ⟨#[]⟩] 1 2 [(0,sv w1),(1,sv a)] m) λg8 m=>bp (TA (d+2) Qg [pt c.P 0 0,g8] m) λ_ m=>some (.tuple ⟨[]⟩,m)) (gG o h (.tuple ⟨[]⟩) i5):=by
 subst g;refine f.bO (cs:=[w1,a].map sv) rfl ak λb p e=>?_;refine e.cs (AY e.ps (e.iE br) ar ar aq d) λq n=>?_;exact n.iM i
def wC:kt [9,0]=some 12:=rfl
structure Fk (X:NX):Prop where
 pos:0<=bI X [0] 17
 lt:(bI X [0] 17).toNat<au X [0] 9
 cl:0<au X [9,0] ((bI X [0] 17).toNat*3+1)
def Xwv(h:PS c o m j s)(k:0<=bI s.X [0] 17):X9 false 1 (pt c.P 17 0) m=some (I ((bI s.X [0] 17).toNat:Nat)):=by
 obtain⟨l,a,b,ld⟩:=h.root;obtain⟨d,f,g⟩:=h.wt.get a rfl (y:=17) aa;cases d with
 |s n p=>trivial
 |v i =>
  obtain⟨z,rfl⟩:=g;have e:bI s.X [0] 17=z:=by simp[bI,dm,cU,a,f]
  rw[ld 17 _ (.inr ⟨aa,gF.rf⟩) f,e]
  grind
def XjK(h:PS c o m j s)(hc:o+c.ws.length+1<=8589934592)(ha:Fk s.X)(d):eM c o (c.ws.length+1) m j s (TA (d+9) DR [pt c.P 0 0,pt c.C 0 0] m) (.tuple ⟨[]⟩) (oB c s):=by
 refine h.pad (Xc0 _ _ _ _) λG k=>?_;obtain⟨V,U,S⟩:=ha;have lp:=Xwv k.ps V;unfold oB mn sY;generalize (bI s.X [0] 17).toNat=p at U S lp|-;obtain⟨⟨lr,ab,a9⟩,q2,q3,_,q5⟩:=k.ps.dev (f:=9) (sz:=3) rfl aa rfl;have ⟨l9,a1,a2,a3⟩:=q5 aa;have hf:bo 12 (p*3+1)=some (.l 13):=by rw[fd_row (r:=12) (sz:=3) rfl p 1 aa];rfl
 obtain⟨l,hl,_,T,ld,sb,ix⟩:=k.ps.Yt aa a1 wC aa hf (sz:=15) rfl S;have W:=fB wC hf;have a7:Xd 3 _ (I p)=some _:=eU _ a3 _ 3 p _ U;have R:(p*3+1)::[9,0]≠[0]:=λe=>aq;delta I7 F je jc jb;simp only[Xg,X7,X3,q3,lp,a7,ld];delta Qsy B N jb A;simp only[dx,X3,sb,ix];delta Qsz C;have O:=fL k.ps;refine k.cl (mO k.ps (d+6)) λm1 t=>?_;delta Qt0 Qt1 B P D;generalize au s.X _ _-1=b at T|-;generalize (Xa c _).1=w at O|-;have g:(s.at (Xa c s.cu).2).X _=some _:=hl;generalize s.at _=s1 at t g|-
 try simp only[fC,Qh,X3]
 delta Qt2 H C L E jc B Z ja js jr A P D jp;refine Xh (λa=>?_) (λa=>?_)
 ·rw[ah (aT a)];have hq:=fL t.ps;refine t.cl (mO t.ps (d+6)) λm2 u=>?_;delta Qt3 C E Z A P D;generalize (Xa c _).1=q at hq|-;have J:(s1.at (Xa c s1.cu).2).X _=some _:=g;generalize s1.at _=Q at u J|-
  try simp only[fC,Qh,X3]
  have Y:∀y,y<15->(ch 13)[y]?=some .s->aK c G j s (bp (TA (d+8) Qo [pt c.C 0 0] m2) λx3 m =>
    bp (bP (Xe 1 (pt (j [p*3+1,9,0]).b (b*15+y) (j [p*3+1,9,0]).ver) x3 m)) λ_ m=>vr (dd d) (pt c.P 0 0) (sv w) (sv q) m) (gG o (c.ws.length+1) (.tuple ⟨[]⟩) (Xl ((Q.at (bB c Q.cu).2).aC [p*3+1,9,0] (b*15+y) [sv (bB c Q.cu).1]) [w,q])):=λy ho x=>by
   refine u.cl (nY u.ps _) λm3 K=>?_;refine K.st1 J W aa rfl rfl R (by rw[fd_row (sz:=15) rfl b y ho,x];exact eJ (aO (j6 u.ps) ak)) λm4 l4 _ _ k4=>?_;exact k4.Mw rZ O hq (d+6) rfl
  have num:∀y lo (hi:Nat),hi<1000000000000->y<15->(ch 13)[y]?=some (.i .i64)->aK c G j s (bp (TA (d+8) Q4 [pt c.C 0 0,.int .i64 lo,.int .i64 (hi:Int)] m2) λx3 m =>
    bp (bP (Xe 1 (pt (j [p*3+1,9,0]).b (b*15+y) (j [p*3+1,9,0]).ver) x3 m)) λ_ m=>vr (dd d) (pt c.P 0 0) (sv w) (sv q) m) (gG o (c.ws.length+1) (.tuple ⟨[]⟩) (Xl ((Q.at (Xb c Q.cu lo hi).2).aC [p*3+1,9,0] (b*15+y) [.int .i64 (Xb c Q.cu lo hi).1]) [w,q])):=λy lo hi hh ho x=>by
   refine u.cl (kz u.ps lo hi hi rfl hh _) λm3 K=>?_;refine K.st1 J W aa rfl rfl R (by rw[fd_row (sz:=15) rfl b y ho,x];exact bR _ _) λm4 l4 _ _ k4=>?_;exact k4.Mw rZ O hq (d+6) rfl
  refine Xh (λa=>?_) (λa=>?_)
  ·rw[ah (aT a)];exact Y 2 aa rfl
  rw[af (aV a)];refine Xh (λa=>?_) (λa=>?_)
  ·rw[ah (aT a)];exact Y 3 aa rfl
  rw[af (aV a)];refine Xh (λa=>?_) (λa=>?_)
  ·rw[ah (aT a)];exact num 4 0 16777216 aa aa rfl
  rw[af (aV a)];refine Xh (λa=>?_) (λa=>?_)
  ·rw[ah (aT a)];exact num 5 0 16777216 aa aa rfl
  rw[af (aV a)];refine Xh (λa=>?_) (λa=>?_)
  ·rw[ah (aT a)];exact num 6 1 4294967295 aa aa rfl
  ·rw[af (aV a)];refine u.cl (lJ u.ps 130 ak _) λm3 K=>?_;exact K.Mw rZ O hq (d+6) rfl
 rw[af (aV a)]
 try simp only[fC,Qh,X3]
 refine Xh (λa=>?_) (λa=>?_)
 ·rw[ah (aT a)];have a5:(gA c s1 [p*3+1,9,0] (b*15)).1.length<=65536:=fL t.ps;refine t.pd (XkQ t.ps hc g W R T _) λA' m2 i7 a4 u=>?_;exact u.Mw a4 O a5 _ rfl
 rw[af (aV a)];refine Xh (λa=>?_) (λa=>?_)
 ·rw[ah (aT a)];obtain⟨dv,q1,a0⟩:=t.ps.wt.get g W (y:=b*15+0) aa;rw[fd_row (sz:=15) rfl b 0 aa]at a0;cases dv with
  |s n M=>trivial
  |v g8 =>
   obtain⟨z,rfl⟩:=a0;have ez:bI s1.X [p*3+1,9,0] (b*15)=z:=by simp_all[bI,dm,cU,g,gp,q1]
   simp only[Xg,X7,X3,t.ps.MF (λe=>aq) g (λe=>absurd e R) q1,cz];rw[ez];refine t.cl (kz t.ps _ _ 65535 rfl aa _) λm2 u=>?_;refine u.st1 g W aa rfl rfl R (by rw[fd_row (sz:=15) rfl b 14 aa];exact bR _ _) λm3 l3 _ _ K=>?_;exact K.XqW rZ O _ rfl
 ·rw[af (aV a)];exact(t.BK 130 ak _ rfl).pd
end Go.Ab.Sh
namespace Go.Ab.Sh
open Go Go.Lib Go.Ab
variable {c:Cx}{G m:Mem}{Q j i7:ay}{J s u i5 S':ao}{o A' h:Nat}{ts:List Tmp}{x:Option Rs}{i8:Value->Nat->ay->ao->Prop}{v:Value}{cu:Cu}
def XbG(M':Gt)(F:Nat)(g c h:ae):aj->Option Rs:=
 je 12 c λa =>
 X a λb =>
 C M' Q1 [g,(A 1),(A 4294967295)] λd =>
 jn (O false 1 a b jo)
  (H (conv (.int .u32) d) λe =>
 jm sE [(.int .u32 0)] 1 4 b e λf =>
 Z 12 c f
  (C5 M' F g c h))
def HO(o h:Nat)(v:ae)(i5:ao)(R:Kk):ae->Nat->ay->ao->Prop:=λb A' i7 a=>QR o h v i5 b A' i7 a/\a.rs=R
def W.FN{R}(a:W c G j s A' m i7 u ts)(f:A'<=o+h)(b:u.rs=R)(d:u.cu=i5.cu)(e:i5.cu.er.isNone=true->u=i5):aK c G j s (some (v,m)) (HO o h v i5 R):=a.ret ⟨⟨rfl,f,d,e⟩,b⟩
def Xh3(d)(o:∀w∈c.ws,w.1≠[]){K}(t:kt K=some 13)(h0:K≠[0])(e:ay)(kw b V' h R):∀f F a A' i7 (m:aj) (l),c.ws.length-a.cu.pl<f->c.ws.length-a.cu.pl+1<F->A'+(c.ws.length-a.cu.pl)+1<=V'+h->V'+h<=8589934592->i7 K=e K ->
  a.X K=some (.c l)->b*15+15<=l.length->a.rs=R->W c G Q J A' m i7 a ts ->
  aK c G Q J (XbG (aH (d+4)) F (pt c.C 0 0) (pt (e K).b (b*15) (e K).ver) (sv kw) m) (HO V' h (sv kw) (ir c K (b*15+12) f a) R)
 |f+1,F+1,a,A',i7,m,l,h1,h2,h3,h4,i,E,a1,u,k=>by
  have hf:bo 13 (b*15+12)=some (.l 11):=by rw[fd_row (r:=13) (sz:=15) rfl b 12 aa];rfl
  obtain⟨-,-,ld,-,-⟩:=k.ps.list E t aa hf;rw[i]at ld;delta XbG O H C jo jn X je Z jm A;simp only[Xg,X7,X3,ld];refine k.cl (ky k.ps o 1 _ 4294967295 rfl aa _) λm1 P=>?_;have j:(a.at (Xb c a.cu 1 4294967295).2).X K=some _:=E;obtain⟨-,-,ld1,-,-⟩:=P.ps.list j t aa hf;rw[i]at ld1;have ld1:X9 _ 1 _ m1=some (ax _ (au a.X K _) _):=ld1;simp only[ld1,o6,fO,Xv,EE c _ 1 4294967295 aa,X4];have p:(Xb c a.cu 1 4294967295).2.er.isNone=true->eQ c _ 1 _=(Xb c _ 1 _).1:=λq=>j7 q;have n:cH c _=true->cH c _=true/\(Xb c _ 1 4294967295).2.pl=a.cu.pl+1:=λq=>Xnp q;have M:ir c K _ (f+1) a=if cH c (Xb c _ 1 _).2=true then ir c K (b*15+12) f _ else(a.at _).app K _ _:=rfl;rw[M];generalize eQ c _ 1 _=z at *;generalize Xb c _ 1 _=N at *;refine P.bO (cs:=[.int _ z]) rfl ak λb2 m2 S=>?_;have S:W c G Q J _ m2 i7 _ ((b2,0,[Cl.v _].map Cl.raw)::ts):=S;rw[<-i];refine S.rF aa j t aa hf rfl rfl rfl (dJ (And.intro (bR _ _) trivial)) ak λa2 U y a0 V T=>?_;have D:y K=e K:=oU;have hm:TA (d+4) _ _ U=some (.bool (cH c N.2),U):=Mj T.ps _;unfold C5;delta C L;simp only[hm,X4];cases g:cH c N.2 with
  |true =>
   have ⟨Y,g2⟩:=n g;have g3:=qe Y;have B:N.2.er.isNone=true:=by unfold cH at g;rw[bT]at g;exact g.1
   have hz:=p B;subst hz;rw[ah rfl,X6,i];obtain⟨q1,-⟩:=P.ps.list j t aa hf;have I:((a.at N.2).app K (b*15+12) [.v (.int .u32 N.1)]).X K=some (.c (l.set (b*15+12) (.s (au a.X K (b*15+12)+1) 1))):=by show bg a.X K (b*15+12) _ K=_;rw[pa E q1 _ rfl,NX.aR];rfl
   have g4:((a.at N.2).app K (b*15+12) [.v (.int .u32 N.1)]).cu.pl=a.cu.pl+1:=g2;have x:((a.at N.2).app K (b*15+12) [.v (.int .u32 N.1)]).rs=R:=u;exact Xh3 d o t h0 _ kw b _ h R f F _ _ y U _ aa aa aa h4 D I aq x T
  |false =>rw[af ak,X5];refine T.ret ⟨⟨rfl,aa,rfl,λq=>?_⟩,u⟩;rw[p q]
def XhA(h:PS c o m j s)(Q:∀w∈c.ws,w.1≠[]){K l b}(hc:o+c.ws.length+1<=8589934592)(hK:s.X K=some (.c l))(I:kt K=some 13)(H:K≠[0])(U:b*15+15<=l.length)(d) :
  aK c m j s (TA (d+5) Ow [pt c.C 0 0,pt (j K).b (b*15) (j K).ver] m) (HO o (c.ws.length+1) (sv (gA c s K (b*15)).1) (gA c s K (b*15)).2 s.rs):=by
 rw[X76];refine h.Fx ?_;have k:=W.start (h.qG m.next);generalize aD m _=G at k;delta Hm PJ C;refine k.cl (nV k.ps (d+3)) λm1 t=>?_;have hp:(s.at (Xa c _).2).cu.er.isNone=true->1<=(s.at (Xa c s.cu).2).cu.pl:=λq=>nZ q;unfold gA;dsimp only;generalize (Xa c _).1=w;have p:(s.at (Xa c s.cu).2).X K=some _:=hK;have g:(s.at (Xa c s.cu).2).rs=s.rs:=rfl;generalize s.at _=F at t p hp g|-;have T:∀a,bin _ _ _ _ _ (.string _)=some _:=λa=>Qh true true w a;have num:∀y,y<15->(ch 13)[y]?=some (.i .i64)->aK c G j s (bp (TA (d+4) Q1 [pt c.C 0 0,.int .i64 0,.int .i64 16777216] m1) λx0 m =>
   bp (aI (Xu (pt (j K).b (b*15) (j K).ver)) m) λx m=>bp (aI (Xm y x) m) λg8 m=>bp (bP (Xe 1 g8 x0 m)) λ_ m=>tU (aH (d+4)) (sv w) m) (HO o (c.ws.length+1) (sv w) ((F.at (Xb c F.cu 0 16777216).2).aC K (b*15+y) [.int .i64 (Xb c F.cu 0 16777216).1]) s.rs):=λy ho hf=>by
  refine t.cl (ky t.ps Q 0 _ 16777216 rfl aa _) λY z=>?_;simp only[Xg,X7,X3];refine z.st1 p I aa rfl rfl H (by rw[fd_row (sz:=15) rfl b y ho,hf];exact bR _ _) λm3 l3 _ _ J=>?_;exact J.FN rZ g rfl λq=>by rw[j7 q]
 delta PK PL PM PN PO C L B Z A P D;simp only[T,X3];refine Xh (λe=>?_) (λe=>?_)
 ·rw[ah (aT e)];exact num 7 aa rfl
 rw[af (aV e)];refine Xh (λe=>?_) (λe=>?_)
 ·rw[ah (aT e)];exact num 8 aa rfl
 rw[af (aV e)];refine Xh (λe=>?_) (λe=>?_)
 ·rw[ah (aT e)];exact num 9 aa rfl
 rw[af (aV e)];delta PQ C L B Z A P D;simp only[T,X3];refine Xh (λe=>?_) (λe=>?_)
 ·rw[ah (aT e)];refine t.cl (kT t.ps _ _) λY z=>?_;simp only[Xg,X7,X3];refine z.st1 p I aa rfl rfl H (by rw[fd_row (sz:=15) rfl b 11 aa];exact fV _) λm3 l3 N a0 J=>?_;obtain⟨L,m4,S,n,f⟩:=Xl0 J.ps (d+1);have S:TA (d+4) _ _ m3=some (ax L (oh c (bh c _ _).2).length 1,m4):=S;rw[S,X4];have n:=J.join n;have n:W c G j s o m4 j (((F.at _).aC K _ _).at (cM c _ (bh c _ _).2).2) (iL L (oh c (bh c _ _).2)++[]):=n;have f:(oh c (bh c _ _).2).length≠0->L.r<2:=f;have O:=Et c (c.ws.length+1) (bh c F.cu zB).2;have u:=Ez c c.ws.length (bh c F.cu zB).2;unfold oh jJ at n f|-;rw[my]at n f|-;generalize cM c _ _=M at n f O u|-;cases q:M.2.er.isNone with
  |true =>
   rw[q,ah rfl]at n f;unfold iL at n;rw[af u]at n;refine W.ads (ts:=[]) n (f u) (by rw[gB]) u (λv hv=>by grind) N I H aa (by rw[fd_row (r:=13) (sz:=15) rfl b 10 aa];rfl) λm5 i7 _ V=>?_
   exact V.FN aa g rfl λ_=>rfl
  |false =>
   refine W.adz (n.sub (Y0 _)) N I H aa (by rw[fd_row (r:=13) (sz:=15) rfl b 10 aa];rfl) λm5 V=>?_;exact V.FN aa g rfl λq'=>by
    have q':M.2.er.isNone=true:=q'
    grind
 rw[af (aV e)];refine Xh (λe=>?_) (λe=>?_)
 ·rw[ah (aT e)];exact Xh3 d Q I H j w b o _ _ _ 18446744073709551616 F o j m1 l aa aa aa aa rfl p U g t
 rw[af (aV e)];delta C E Z A P D;simp only[T,X3];refine Xh (λe=>?_) (λe=>?_)
 ·rw[ah (aT e)];refine t.cl (Xst t.ps d) λY z=>?_;simp only[Xg,X7,X3];refine z.st1 p I aa rfl rfl H (by rw[fd_row (sz:=15) rfl b 13 aa];exact bR _ _) λm3 l3 _ _ J=>?_;exact J.FN rZ g rfl λ_=>rfl
 ·rw[af (aV e)];refine t.cl (kS t.ps hp 130 ak _) λY z=>?_;exact z.FN rZ g rfl λ_=>rfl
variable {k:Key}{y:Nat}
variable {V' Z':Nat}
def W.yO[r:cG c](g:o<=8589934592)(hn:s.rs.num<1000000000000)(f:jT s)(d){ws w}(p:w.length<=1000000000)(h:W c G Q J o m j u ts)(k:u.rs=s.rs)(l:u.cu=i5.cu)
  (i:i5.cu.er.isNone=true->u=i5/\w=Xr [32] ws/\i5.df=s.df/\aS i5.X=aS s.X) (n:o+1<=V'+Z') (t:ws≠[]:=by simp) :
  aK c G Q J (bp (TA (d+3) Qj [pt c.P 0 0,sv w] m) λ_ m=>some (.tuple ⟨[]⟩,m)) (QR V' Z' (.tuple ⟨[]⟩) (cX (Xl i5 ws) s ws)):=by
 refine h.qv (i5:=cX (Xl i5 ws) s ws) g aq p (ws:=ws) l (λq=>?_) n d;obtain⟨rfl,e,a,b⟩:=i q;refine⟨f.one k a b _ ws e t,?_⟩;unfold cX iA;rw[e,<-k];rfl
def wz(c:Cx)(J:ao):ao:=
 let k:=mn J.X;let b:=sY J.X;let w:=Xa c J.cu;let s:=J.at w.2
 if w.1=zC then
  let q:=Xa c s.cu;let t:=s.at q.2;let n:=bB c t.cu;let g:=Xb c t.cu 0 16777216;let h:=Xb c t.cu 1 4294967295;let r:=if q.1=wQ then(t.at n.2).aC k (b+2) [sv n.1]else if q.1=wR then(t.at n.2).aC k (b+3) [sv n.1]else if q.1=lX then(t.at g.2).aC k (b+4) [.int .i64 g.1]else if q.1=oV then(t.at g.2).aC k (b+5) [.int .i64 g.1]else if q.1=jD then(t.at h.2).aC k (b+6) [.int .i64 h.1]else fu c t 130
  cX (Xl r [w.1,q.1]) s [w.1,q.1]
 else if w.1=zE then
  let r:=gA c s k b
  cX (Xl r.2 [w.1,r.1]) s [w.1,r.1]
 else if w.1=zF then
  let n:=Xb c s.cu (IntKind.i64.wrap (bI s.X k b+1)) 65535
  cX (Xl ((s.at n.2).aC k (b+14) [.int .i64 n.1]) [w.1]) s [w.1]
 else fu c s 130
def YL(X)(h:k≠[2])(y b):bF X k y b [2]=X [2]:=by
 cases a:X k with
 |none=>unfold bF;rw[a]
 | some ob=>cases ob with
  |c l=>rw[fp a];exact NX.aE _ _ (bq h)
  |m d cl=>unfold bF;rw[a]
def po(X)(h:k≠[2])(b:y::k≠[2])(cs):bg X k y cs [2]=X [2]:=by
 cases a:X k with
 |none=>unfold bg;rw[a]
 | some ob=>cases ob with
  |c l=>unfold bg;rw[a];show(NX.set _ _ _) _=_;rw[NX.aE _ _ (bq h),NX.aE _ _ (bq b)]
  |m d cl=>unfold bg;rw[a]
def XW(X)(h:k≠[2])(b:y::k≠[2])(vs):iz X k y vs [2]=X [2]:=by
 cases a:X k with
 |none=>unfold iz;rw[a]
 | some ob=>cases ob with
  |c l=>unfold iz;rw[a];show(NX.set _ _ _) _=_;rw[NX.aE _ _ (bq h),NX.aE _ _ (bq b)]
  |m d cl=>unfold iz;rw[a]
def kU{X M}(h:M [2]=X [2]):aS M=aS X:=by unfold aS;rw[h]
def KO(c){k:Key}(d:k≠[2])(g:∀y,y::k≠[2])(y):∀f s,(ir c k y f s).df=s.df/\(ir c k y f s).X [2]=s.X [2]
 |0,s=>⟨rfl,rfl⟩
 |f+1,s=>by
  have e:∀s:ao,∀cs,(s.app k y cs).X [2]=s.X [2]:=λs cs=>po s.X d (g y) cs;unfold ir;dsimp only;split
  ·have ⟨a,b⟩:=KO c d g y f ((s.at (Xb c s.cu 1 4294967295).2).app k y [.v (.int .u32 (Xb c s.cu 1 4294967295).1)]);exact⟨a,b.trans (e _ _)⟩
  ·exact⟨rfl,e _ _⟩
def Xxc(c s)(f:k≠[2])(g:∀y,y::k≠[2])(b):(gA c s k b).2.df=s.df/\(gA c s k b).2.X [2]=s.X [2]:=by
 have e:∀(s:ao) y d,(s.aC k y d).X [2]=s.X [2]:=λs y d=>YL s.X f y d;have h:∀(s:ao) y d,(s.iV k y d).X [2]=s.X [2]:=λs y d=>XW s.X f (g y) d;unfold gA;dsimp only;split
 ·exact⟨rfl,e _ _ _⟩
 split
 ·exact⟨rfl,e _ _ _⟩
 split
 ·exact⟨rfl,e _ _ _⟩
 split
 ·exact⟨rfl,(h _ _ _).trans (e _ _ _)⟩
 split
 ·have ⟨a,b⟩:=KO c f g (b+12) (c.ws.length+1) (s.at (Xa c s.cu).2);trivial
 split
 ·exact⟨rfl,e _ _ _⟩
 trivial
def XhM[r:cG c](h:PS c o m j s)(J:∀w∈c.ws,w.1≠[])(hc:o+c.ws.length+2<=8589934592)(hn:s.rs.num<1000000000000)(g:jT s){p b l}(hK:mn s.X=[p*3+1,9,0])(hB:sY s.X=b*15)(I:s.X [p*3+1,9,0]=some (.c l))(L:kt [p*3+1,9,0]=some 13)(a3:b*15+15<=l.length)(d) :
  mH c o (c.ws.length+2) m j s (TA (d+6) Oq [pt c.P 0 0,pt c.C 0 0,pt (j [p*3+1,9,0]).b (b*15) (j [p*3+1,9,0]).ver] m) (.tuple ⟨[]⟩) (wz c s):=by
 refine h.tB (X6h _ _ _ _ _) λG k=>?_;have M:(p*3+1)::[9,0]≠[0]:=λe=>aq;have h2:[p*3+1,9,0]≠[2]:=(gT L).2;have h3:∀y,y::[p*3+1,9,0]≠[2]:=λy e=>aq;have a8:=fL k.ps;delta CU C A D;refine k.cl (mM k.ps _ _ _ ak ak ak (d+3)) λm1 t=>?_;unfold wz;rw[hK,hB];have H:=λh=>sO (c:=c) (cu:=s.cu) (l:=[zC,zE,zF]) h;have N:=λh=>mN (c:=c) (cu:=s.cu) (l:=[zC,zE,zF]) h;generalize Xa c _=V at *;have es:∀a,bin _ _ _ _ _ (.string _)=some _:=λa=>Qh true true V.1 a;delta Qln C E jc B Z ja A P D;have a0:bin _ _ _ _ _ (.string ⟨#[32]⟩)=some (sv (V.1++[32])):=Qu true true V.1 _ cF;simp only[es,X3,a0];refine Xh (λf=>?_) (λf=>?_)
 ·have f:=aT f;rw[ah f];rw[H (by simp[f])]at t;have a7:(Xa c V.2).1.length<=65536:=fL t.ps;refine t.cl (nV t.ps _) λS u=>?_;rw[show(s.at V.2).cu=V.2 from rfl]at u|-;have hp:(Xa c V.2).2.er.isNone=true->1<=(Xa c V.2).2.pl:=λq=>nZ q;generalize Xa c V.2=U at *;have eq:∀a,bin _ _ _ _ _ (.string _)=some _:=λa=>Qh true true U.1 a;simp only[Qu _ _ (V.1++[32]) U.1 aq,eq,X3];have a4:(bB c U.2).1.length<=65536:=fL u.ps;have sX:∀y v,aS (bF s.X _ y [v])=aS s.X:=λy v=>kA _ _ h2;have O:∀y,y<15->(ch 13)[y]?=some .s->aK c G j s (bp (TA (d+5) Qa [pt c.C 0 0] S) λx3 m =>
    bp (aI (Xu (pt (j [p*3+1,9,0]).b (b*15) (j [p*3+1,9,0]).ver)) m) λx m=>bp (aI (Xm y x) m) λR m =>
    bp (bP (Xe 1 R x3 m)) λ_ m=>Qy (aH (d+5)) (pt c.P 0 0) (sv (V.1++[32]++U.1)) m) (QR o (c.ws.length+2) (.tuple ⟨[]⟩) (cX (Xl ((((s.at V.2).at U.2).at (bB c U.2).2).aC [p*3+1,9,0] (b*15+y) [sv (bB c U.2).1]) [V.1,U.1]) (s.at V.2) [V.1,U.1])):=λy ho F=>by
   refine u.cl (nU u.ps _) λm3 K=>?_;simp only[Xg,X7,X3];refine K.st1 I L aa rfl rfl M (by rw[fd_row (sz:=15) rfl b y ho,F];exact eJ (aO a4 ak)) λm4 l4 _ _ k4=>?_;exact W.yO aa hn g (d+2) aq k4 rfl rfl (λ_=>⟨rfl,(oF _ _).symm,rfl,sX _ _⟩) aa
  have num:∀y lo (hi:Nat),hi<1000000000000->y<15->(ch 13)[y]?=some (.i .i64)->aK c G j s (bp (TA (d+5) Q1 [pt c.C 0 0,.int .i64 lo,.int .i64 (hi:Int)] S) λx3 m =>
    bp (aI (Xu (pt (j [p*3+1,9,0]).b (b*15) (j [p*3+1,9,0]).ver)) m) λx m=>bp (aI (Xm y x) m) λR m =>
    bp (bP (Xe 1 R x3 m)) λ_ m=>Qy (aH (d+5)) (pt c.P 0 0) (sv (V.1++[32]++U.1)) m) (QR o (c.ws.length+2) (.tuple ⟨[]⟩) (cX (Xl ((((s.at V.2).at U.2).at (Xb c U.2 lo hi).2).aC [p*3+1,9,0] (b*15+y) [.int .i64 (Xb c U.2 lo hi).1]) [V.1,U.1]) (s.at V.2) [V.1,U.1])):=λy lo hi hh ho F=>by
   refine u.cl (ky u.ps J lo hi hi rfl hh _) λm3 K=>?_;simp only[Xg,X7,X3];refine K.st1 I L aa rfl rfl M (by rw[fd_row (sz:=15) rfl b y ho,F];exact bR _ _) λm4 l4 _ _ k4=>?_;refine W.yO aa hn g (d+2) aq k4 rfl rfl (λq=>⟨?_,(oF _ _).symm,rfl,sX _ _⟩) aa;rw[bL,j7 q]
  refine Xh (λf=>?_) (λf=>?_)
  ·rw[ah (aT f)];exact O 2 aa rfl
  rw[af (aV f)];refine Xh (λf=>?_) (λf=>?_)
  ·rw[ah (aT f)];exact O 3 aa rfl
  rw[af (aV f)];refine Xh (λf=>?_) (λf=>?_)
  ·rw[ah (aT f)];exact num 4 0 16777216 aa aa rfl
  rw[af (aV f)];refine Xh (λf=>?_) (λf=>?_)
  ·rw[ah (aT f)];exact num 5 0 16777216 aa aa rfl
  rw[af (aV f)];refine Xh (λf=>?_) (λf=>?_)
  ·rw[ah (aT f)];exact num 6 1 4294967295 aa aa rfl
  ·rw[af (aV f)];refine u.cl (kS u.ps hp 130 ak _) λm3 K=>?_;exact W.yO aa hn g (d+2) aq K rfl rfl (λ_=>⟨rfl,(oF _ _).symm,rfl,rfl⟩) aa
 rw[af (aV f)];refine Xh (λf=>?_) (λf=>?_)
 ·have f:=aT f;rw[ah f];rw[H (by simp[f])]at t;have a6:(gA c _ [p*3+1,9,0] (b*15)).1.length<=65536:=fL t.ps;have ⟨a1,a2⟩:=Xxc c (s.at V.2) h2 h3 (b*15);obtain⟨v',S,ab,a9,s2,w1,w2,w3,⟨rfl,w4,w5,w6⟩,w7⟩:=XhA t.ps J aa I L M a3 d;rw[w1,X4];have u:=t.go w2 w3;simp only[Qu _ _ _ _ (show(V.1++[32]).length+(gA c (s.at V.2) [p*3+1,9,0] (b*15)).1.length<_ by simp;omega),X3];exact W.yO aa hn g (d+2) aq u w7 w5 (λq=>⟨w6 q,(oF _ _).symm,a1,kU a2⟩) aa
 rw[af (aV f)];refine Xh (λf=>?_) (λf=>?_)
 ·have f:=aT f;rw[ah f];rw[H (by simp[f])]at t;have ⟨dv,T,Q⟩:=t.ps.wt.get I L (y:=b*15+0) aa;rw[fd_row (sz:=15) rfl b 0 aa]at Q;cases dv with
  |s n Y=>trivial
  |v R =>
   obtain⟨z,rfl⟩:=Q;have ez:bI (s.at V.2).X [p*3+1,9,0] (b*15)=z:=by have T:l[b*15]?=some (.v (.int .i64 z)):=T;unfold bI dm;rw[cU (show(s.at V.2).X [p*3+1,9,0]=some (.c l) from I),T];rfl
   simp only[Xg,X7,X3,t.ps.MF (λe=>aq) I (λe=>absurd e M) T,cz];rw[ez];refine t.cl (ky t.ps J _ _ 65535 rfl aa _) λS u=>?_;refine u.st1 I L aa rfl rfl M (by rw[fd_row (sz:=15) rfl b 14 aa];exact bR _ _) λm3 l3 _ _ K=>?_;refine W.yO aa hn g (d+2) aa K rfl rfl (λq=>⟨?_,(nt _).symm,rfl,kA _ _ h2⟩) aa;have q:(Xb c V.2 _ _).2.er.isNone=true:=q;rw[show(s.at V.2).cu=V.2 from rfl,j7 q]
 ·rw[af (aV f)];rw[N aq]at t;refine t.qv (i5:=fu c _ 130) aa hn aa (ws:=[V.1]) rfl (λq=>?_) aa (d+2);have q:(cA c V.2 130).er.isNone=true:=q;rw[fY]at q;cases q
end Go.Ab.Sh
end
