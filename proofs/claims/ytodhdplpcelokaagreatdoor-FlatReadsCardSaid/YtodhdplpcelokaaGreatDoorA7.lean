/-
  What the functions of the program answer, at every text and every question. No conditions.
-/
import Derived.Test.YtodhdplpcelokaaGreatDoorA5
import Derived.Test.YtodhdplpcelokaaGreatDoorA6
import Derived.Test.YtodhdplpcelokaaGreatDoorA1
set_option linter.all false
set_option maxRecDepth 100000
noncomputable section
namespace Go.Ab.Sh
open Go Go.Ab Go.Lib
variable {B O P f g i n y p p2 V r r' sz:Nat}{i5:ao}{X:NX}{cs l:List Cl}{e:Int}{k:Key}{r0:Bool}{H:ai}{ty:Option Nat}{vs xs:List Value}{ws:List ai}{g8:Value}{ψ:ay}
variable {c:Cx}{G m:Mem}{Q j:ay}{J s u:ao}{o h:Nat}{ts:List Tmp}{x:Option Rs}{i8:Value->Nat->ay->ao->Prop}{v:Value}{cu:Cu}
abbrev XsA:ae:=.func (.func Ec) #[] #[]
def EO:Prop:=∀(L:Lc)(n d:Nat) (m:aj) (cs:List ae) (ty:Option Nat),(n≠0->L.r<2/\L.b<m.next/\m.get L.b=some (.cells cs L.ver 0 false ty))->cs.length=n*15->n<=8589934592->(∀i,i<n->∃z,cs[i*15]?=some (.int .i64 z))->cs.all one=true ->
 ∃S,TA (d+9) NV [ax L n 15,XsA] m=some (.tuple ⟨[]⟩,S)/\m.next<=S.next/\S.low<=m.low/\(n=0/\S=m\/n≠0/\(∀g8,g8<=m.low->g8<=L.b->g8<=S.low)/\S.low<=L.b/\(∀b,b<m.next->b≠L.b->S.get b=m.get b)/\S.get L.b=some (.cells (oO cs 0 n) L.ver 0 false ty))
theorem Xjz(hS:EO)(d:Nat){B P O p2 V:Nat}{i5:ao}{G:aj}(h:LI false B P O o G j i5)(a6:o<=8589934592)(av:B<=G.next)(hN:0<au i5.X [0] 9):∀(n i f:Nat)(m:aj),i+n=au i5.X [0] 9->n<f->Fb B G m->(∀b,b<G.next->(∀g,g<i->i5.X [g*3+1,9,0]≠none->b≠(j [g*3+1,9,0]).b)->m.get b=G.get b)->(∀g,g<i->Ma i5.X j m g) ->
  ∃S,xG (d9 d) f (I i) (I (au i5.X [0] 9)) (ax (j [9,0]) (au i5.X [0] 9) 3) (pt P 0 0) (pt p2 0 0) (pt V 0 0) m=Ed (d9 d) (pt P 0 0) (pt p2 0 0) (pt V 0 0) S/\Fb B G S/\(∀b,b<G.next->(∀g,i5.X [g*3+1,9,0]≠none->b≠(j [g*3+1,9,0]).b)->S.get b=G.get b)/\∀g,g<au i5.X [0] 9->Ma i5.X j S g
 |0,i,f+1,m,e,hf,hF,hg,hD=>by have:i=au i5.X [0] 9:=aa;subst this;refine⟨m,?_,hF,λb R w=>hg b R λg _ t=>w g t,hD⟩;unfold xG;delta C F E jd B Y U jb ja A ji;simp only[Qb,X3,j1,j4,X5]
 |n+1,i,f+1,m,e,hf,hF,hg,hD=>by
  have hi:i<au i5.X [0] 9:=aa;have a8:decide (((i):Int)<((au i5.X [0] 9:Nat)))=true:=bj aa
  have ⟨lr,W,a9⟩:=h.wt.root;have J:∀k:Key,k≠[0]->bX _ P O i5 k=i5.X k:=λk hk=>wi h.wt hk (.inr rfl);have root:∃l',bX false P O i5 [0]=some (.c l')/\l'[9]?=some (.s (au i5.X [0] 9) 3):=by
   refine⟨_,Bj W,?_⟩;rw[yi a9 9 (.inl aa)];obtain⟨am,q1,q2⟩:=h.wt.get W (r:=0) rfl (y:=9) aa;cases am with
   |v g8=>trivial
   |s a b =>
    have q2:b=3:=q2;have:au i5.X [0] 9=a:=by unfold au;rw[cU W,q1];rfl
    grind
  obtain⟨l',a1,a2⟩:=root;have ba:=h.nr.ow [0] l' 9 _ 3 a1 a2;have o3:=ba.2.2;rw[af aa,J _ ak]at o3;obtain⟨l9,N,b2⟩:=o3;have b8:=h.nr.r2 [9,0] aq;obtain⟨bf,g9⟩:=h.nr.at' [9,0] _ (by exact N);have aA:=h.nr.hi [9,0] aq;have b9:∀g,i5.X _≠none->(j _).b≠(j _).b:=λg t e=>by have:=h.nr.inj [9,0] [g*3+1,9,0] (by rw[J _ ak,N];simp) (by rw[J _ (λe=>jA)];exact t) e;injection this with q1 q2;cases q2
  have an:m.get (j [9,0]).b=some (.cells (cells j [9,0] l9) (j [9,0]).ver 0 false bf):=by rwa[hg _ aA (λg _ t=>b9 g t)]
  have x:kt [9,0]=some 12:=rfl
  have ⟨c0,bc,ab⟩:=h.wt.get N x (y:=i*3+0) aa;have ⟨c1,a0,ac⟩:=h.wt.get N x (y:=i*3+1) aa;have ⟨c2,bd,ag⟩:=h.wt.get N x (y:=i*3+2) aa;rw[fd_row (sz:=3) rfl i 0 aa]at ab;rw[fd_row (sz:=3) rfl i 1 aa]at ac;rw[fd_row (sz:=3) rfl i 2 aa]at ag;cases c0 with
  |s _ _=>trivial
  |v y0 =>
  cases c1 with
  |v _=>trivial
  |s M z =>
  subst ac;cases c2 with
  |s _ _=>trivial
  |v y2 =>
  obtain⟨t0,rfl,_⟩:=ab;obtain⟨t2,rfl⟩:=ag;have H:((cells j [9,0] l9).drop (i*3)).take 3=[sv t0,ax (j [i*3+1,9,0]) M 15,.bool t2]:=by
   apply fk;intro q;rw[jP];have:q=0\/q=1\/q=2\/3<=q:=aa;rcases this with rfl|rfl|rfl|hq
   ·rw[ah aa,lz,Xn,bc];rfl
   ·rw[ah aa,lz,Xn,a0];rfl
   ·rw[ah aa,lz,Xn,bd];rfl
   ·grind
  have ix:Xd 3 _ (I i)=some _:=eU _ b8 _ 3 i _ hi;have lg:=Xw an Nl H;obtain⟨m1,n1,n2,n3,n4⟩:=kR [] m (some (2*su+1)) sq (v:=.agg _) (n:=3) rfl rfl (by show([sv t0,ax (j [i*3+1,9,0]) M 15,.bool t2]:List ae).all one=true;show(one (sv t0)&&(one (ax (j [i*3+1,9,0]) M 15)&&(one (.bool t2)&&true)))=true;rw[nX];rfl);have u:=λb R=>n2.get b R ar;have bn:=hF.next;have F1:Fb B m m1:=n2.iP aa;have l1:X9 _ 1 (pt _ 1 0) m1=some _:=Xt n4 rfl
  have bb:=h.nr.ow [9,0] l9 _ M 15 (by exact N) a0;have oc:=bb.2.2;rw[J _ (λe=>aq)]at oc;have b4:∃cs ty,(M≠0->i5.X [i*3+1,9,0]≠none/\(j [i*3+1,9,0]).r<2/\(j [i*3+1,9,0]).b<G.next/\B<=(j [i*3+1,9,0]).b/\m1.get (j [i*3+1,9,0]).b=some (.cells cs (j [i*3+1,9,0]).ver 0 false ty))/\cs.length=M*15/\(∀g,g<M->∃z,cs[g*15]?=some (.int .i64 z))/\cs.all one=true/\(∀L,i5.X [i*3+1,9,0]=some (.c L)->M≠0/\cs=cells j [i*3+1,9,0] L):=by
   by_cases D:M=0
   ·subst D;exact⟨[],none,λq=>absurd rfl q,ar,λg t=>absurd t (vb _),rfl,λL q=>aq⟩
   ·rw[af D]at oc;obtain⟨L,q1,q2⟩:=oc;have Q:bX false P O i5 [i*3+1,9,0]=some (.c L):=by rwa[J _ (λe=>aq)]
    have l:bX false P O i5 [i*3+1,9,0]≠none:=by rw[Q];simp
    have ⟨a3,gc⟩:=h.nr.at' _ _ Q;have a5:=h.nr.hi _ l;have b7:=fB x (by rw[fd_row (r:=12) (sz:=3) rfl i 1 aa];rfl);refine⟨cells j [i*3+1,9,0] L,a3,λ_=>⟨aq,h.nr.r2 _ l,a5,h.hB _ l,?_⟩,by rwa[gM],λg t=>?_,Ml (h.nr.ok _ _ Q),λbA q=>⟨D,aq⟩⟩
    ·rw[u _ aa,hg _ a5 (λg t T e=>by
      have:=h.nr.inj _ _ l (by rw[J _ (λe=>jA)];exact T) e
      grind)]
     exact gc
    ·have b5:=oN (sz:=15) t;obtain⟨dd,d1,d2⟩:=h.wt.get q1 b7 (y:=g*15+0) aa;rw[fd_row (sz:=15) rfl g 0 aa]at d2;cases dd with
     |s _ _=>trivial
     |v g8 =>obtain⟨z,rfl⟩:=d2;rw[gp]at d1;exact⟨z,by rw[Xn,d1];rfl⟩
  obtain⟨cs,a3,p,aB,b0,b3,bv⟩:=b4;have hM:au i5.X [9,0] (i*3+1)=M:=by unfold au;rw[cU N,a0];rfl
  have ⟨m2,s1,s2,s3,s4⟩:=hS _ M d m1 cs a3 (λq=>⟨(p q).2.1,by have:=(p q).2.2.1;omega,(p q).2.2.2.2⟩) aB aa b0 b3;have F2:Fb B m1 m2:=by
   rcases s4 with⟨_,rfl⟩|⟨D,u1,u2,u3,_⟩
   ·exact .refl _ _
   ·have bs:=(p D).2.2.2.1;exact{
     next:=s2
     low:=s3
     bQ:=λg8 a b=>u1 g8 a aa
     get:=λb R=>u3 b aa aa
     lo:=λb R=>by grind }
  have b6:∀b,b<G.next->(∀g,g<i+1->i5.X _≠none->b≠(j _).b)->m2.get b=G.get b:=λb R w=>by
   have e1:m1.get b=G.get b:=by rw[u b aa];exact hg b R λg t T=>w g aa T
   rcases s4 with⟨_,rfl⟩|⟨D,u1,u2,u3,_⟩
   ·exact e1
   ·rw[u3 b aa (w i aa (p D).1)];exact e1
  have aw:∀g,g<i+1->Ma i5.X j m2 g:=λg t L a7=>by
   have hk:∀g:Nat,[g*3+1,9,0]≠[0]:=λg e=>aq;have K:bX false P O i5 [g*3+1,9,0]≠none:=by rw[J _ (hk g),a7];simp
   have a8:=h.nr.hi _ K;by_cases bw:g=i
   ·grind
   ·have ⟨ty,q⟩:=hD g aa L a7;refine⟨ty,?_⟩;have e1:=u _ (show(j [g*3+1,9,0]).b<m.next by omega);rcases s4 with⟨_,rfl⟩|⟨D,_,_,u3,_⟩
    ·grind
    ·rw[u3 _ aa (λe=>by
      have:=h.nr.inj _ _ K (by rw[J _ (hk i)];exact(p D).1) e
      grind),e1]
     exact q
  obtain⟨S,v1,v2,v3⟩:=Xjz hS d h a6 av hN n (i+1) f m2 aa aa (hF.trans (F1.trans F2)) b6 aw;refine⟨S,?_,v2,v3⟩;have ei:bin .add true true .int (I i) (.int .i64 1)=some (I (i+1:Nat)):=by rw[cz];have:((i:Nat):Int)+1=((i+1:Nat):Int):=aa;rw[this,wrap64 _ aa]
  unfold xG;delta C F E jd B Y U jb ja A ji;simp only[Qb,X3,a8,X6,ix,lg,Xq,X4,n1,Xj,X7,aQ,l1,s1,ei];exact v1
def pn(y:Except (Nat × Nat × Int) ao):Nat × Nat × Int:=match y with
 |.error e=>e
 |.ok i5=>if di i5.X [0] 0=[]then(0,0,5)else(0,0,0)
def yL(y:Except (Nat × Nat × Int) ao):List Tn:=match y with
 |.error _=>BD
 |.ok i5=>if di i5.X [0] 0=[]then BD else tc i5.X
theorem Xsu(hS:EO)(d:Nat)(h:LI false B P O o m j i5)(ab:o<=8589934592)(b0:B<=m.next)(G:jS m p2 V)(a0:B<=p2)(a6:B<=V)(M:∀k,bX false P O i5 k≠none->(j k).b≠p2/\(j k).b≠V) :
  ∃(Z:List ae)(S:aj),AH (d9 d) (pt P 0 0) (pt p2 0 0) (pt V 0 0) m=some (.tuple ⟨[.agg ⟨Z⟩,aZ 0 0,.int .i64 (pn (.ok i5)).2.2]⟩,S)/\Fb B m S/\Z.length=12/\Z.all one=true/\fK B S (yL (.ok i5)) Z/\nI B S Z:=by
 obtain⟨T,w,J⟩:=h.wt.root;have hX:∀k:Key,k≠[0]->bX false P O i5 k=i5.X k:=λk hk=>wi h.wt hk (.inr rfl);have C:bX false P O i5 [0]=some (.c (dt (uJ false P O) i5 T)):=Bj w;have t:(dt (uJ false P O) i5 T).length=18:=vJ J;have u:∀y,y<12->(dt (uJ false P O) i5 T)[y]?=T[y]?:=λy ho=>yi J y (.inl ho);generalize dt _ i5 T=z at C t u;have ⟨bc,g0⟩:=h.nr.at' [0] _ C;rw[h.pP]at g0;obtain⟨c0,q1,q2⟩:=h.wt.get w (r:=0) rfl (y:=0) aa;cases c0 with
 |s _ _=>exact False.elim q2
 |v y0 =>
 obtain⟨t0,rfl,_⟩:=q2;have b9:di i5.X [0] 0=t0:=by unfold di dm;rw[cU w,q1];rfl
 have oJ:X9 false 1 (pt P 0 0) m=some (sv t0):=Xt g0 (by rw[Xn,u 0 aa,q1];rfl);have e0:bin .eql true true .str (sv t0) (.string ⟨#[]⟩)=some (.bool (decide (t0=[]))):=Qh _ _ _ [];have eb:Xc Q8 [(0,1),(1,1),(2,1),(3,1),(4,1),(5,1),(6,1),(7,1),(8,1),(9,1),(10,1),(11,1)] []=some zD:=aU rfl rfl;have ep:Xc Q2 [(0,1),(1,1)] []=some (aZ 0 0):=aU rfl rfl;delta AH F E je B Y jl A P D;unfold pn yL;simp only[Xg,X7,X3,aQ,oJ,e0];rw[b9];by_cases R:t0=[]
 ·rw[bj R,X6,ah R,ah R];obtain⟨m1,m2,a1,a2,a3,a4,a5,_⟩:=vN G a0 a6 Q8 rfl rfl 0 0;refine⟨Q8,m2,?_,a5,rfl,rfl,Bh _ _,VQ _ _⟩;simp only[eb,ep,X3,a1,Xj,a2,a3,a4];exact Yz _ _ _ _
 ·rw[bJ R,X5,af R,af R]
  have a9:z[9]?=some (.s (au i5.X [0] 9) 3):=by
   obtain⟨aw,q1,q2⟩:=h.wt.get w (r:=0) rfl (y:=9) aa;cases aw with
   |v g8=>trivial
   |s a b =>
    have q2:b=3:=q2;have:au i5.X [0] 9=a:=by unfold au;rw[cU w,q1];rfl
    grind
  have ba:X9 false 1 (pt P 9 0) m=some (ax (j [9,0]) (au i5.X [0] 9) 3):=Xt g0 (by rw[Xn,a9];rfl);have an:∃S,xG (d9 d) 18446744073709551616 (I (0:Nat)) (I (au i5.X [0] 9)) (ax (j [9,0]) (au i5.X [0] 9) 3) (pt P 0 0) (pt p2 0 0) (pt V 0 0) m=Ed (d9 d) (pt P 0 0) (pt p2 0 0) (pt V 0 0) S/\Fb B m S/\(∀b,b<m.next->(∀i,i5.X [i*3+1,9,0]≠none->b≠(j [i*3+1,9,0]).b)->S.get b=m.get b)/\∀i,i<au i5.X [0] 9->Ma i5.X j S i:=by
   have hN:=(h.nr.ow [0] z 9 _ 3 C a9).1;by_cases hz:au i5.X [0] 9=0
   ·refine⟨m,?_,.refl _ _,λb _ _=>rfl,λi x=>aa⟩;rw[hz];rfl
   ·exact Xjz hS d h ab b0 aa (au i5.X [0] 9) 0 _ m aa aa (.refl _ _) (λb _ _=>rfl) (λi x=>absurd x (vb _))
  obtain⟨m1,e1,W,hg,K⟩:=an;have a8:∀i,i5.X [i*3+1,9,0]≠none->P≠(j [i*3+1,9,0]).b:=λi x e=>by have:=h.nr.inj [0] [i*3+1,9,0] (by rw[C];simp) (by rwa[hX _ (λe=>jA)]) (by rw[h.pP];exact e);injection this with e1 e2;cases e2
  have a7:P<m.next:=by have:=h.nr.hi [0] aq;rwa[h.pP]at this
  have av:∀i,i5.X [i*3+1,9,0]≠none->(j [i*3+1,9,0]).b≠p2/\(j [i*3+1,9,0]).b≠V:=λi x=>M _ (by rwa[hX _ (λe=>jA)]);have gP:m1.get P=some (.cells (cells j [0] z) 0 0 false bc):=by rwa[hg P a7 a8]
  have aB:jS m1 p2 V:={
   l2:=by have:=G.l2;have:=W.next;omega
   l3:=by have:=G.l3;have:=W.next;omega
   ne:=G.ne
   g2:=by rw[hg p2 G.l2 (λi x=>bq (av i x).1)];exact G.g2
   g3:=by rw[hg V G.l3 (λi x=>bq (av i x).2)];exact G.g3 }
  have ac:((cells j [0] z).take 12).length=12:=by rw[kl,gM,t];rfl
  have bb:X9 true 12 (pt P 0 0) m1=some (.agg ⟨(cells j [0] z).take 12⟩):=Xw gP (by rw[gM,t];omega) (by rw[mA]);have H:((cells j [0] z).take 12).all one=true:=by have:=Ml (j:=j) (k:=[0]) (h.nr.ok _ _ C);rw[cL]at this|-;exact λg8 hy=>this g8 (wL hy)
  have ⟨m2,Q,b1,b2,b3,b4,b5,_,b7⟩:=vN aB a0 a6 ((cells j [0] z).take 12) ac H 0 0;have ag:∀i:Nat,[i*3+1,9,0]≠[0]:=λi e=>aq;have b6:fK B Q (tc i5.X) ((cells j [0] z).take 12)/\nI B Q ((cells j [0] z).take 12):=by
   have aA:(cells j [0] z).take 12=(cells j [0] T).take 12:=by
    apply fk;intro q;rw[jP,jP];by_cases hq:q<12
    ·rw[ah hq,ah hq,Xn,Xn,u q hq]
    ·grind
   rw[aA];have aF:∀k l,i5.X k=some (.c l)->k≠[0]->(∀i,k≠[i*3+1,9,0])->(j k).r<2/\B<=(j k).b/\(j k).b<Q.next/\∃ty,Q.get (j k).b=some (.cells (cells j k l) (j k).ver 0 false ty):=λk l hk h0 x=>by
    have L:m.next<=Q.next:=by have:=W.next;have:=b5.next;omega
    have al:bX false P O i5 k=some _:=yJ h.wt h0 hk;have p:bX false P O i5 k≠none:=by rw[al];simp
    have ⟨ty,g⟩:=h.nr.at' k _ al;refine⟨h.nr.r2 k p,h.hB k p,dU (h.nr.hi k p) L,ty,?_⟩;rw[b7 _ (M k p).1 (M k p).2,hg _ (h.nr.hi k p) λi b8 e=>x i (h.nr.inj k _ p (by rw[hX _ (ag i)];exact b8) e)];exact g
   have L:m.next<=Q.next:=by have:=W.next;have:=b5.next;omega
   refine⟨Xz5 h.wt (λk l y n sz a b c e=>(wx h k l y n sz a b c e).2) aF (λi lc x am=>?_) w,XjO h.wt (λk l y n sz a b c e=>(wx h k l y n sz a b c e).2) (λk h0 hk=>h.hB k aq) (λk k' a b h1 h2 e=>h.nr.inj k k' aq aq e) (λf l hl=>(aF [f,0] l hl ar ar).2.2.2) w⟩;obtain⟨ty,q⟩:=K i x lc am;have p:bX false P O i5 [i*3+1,9,0]≠none:=by rw[hX _ (ag i),am];simp
   exact⟨h.nr.r2 _ p,h.hB _ p,dU (h.nr.hi _ p) L,ty,aq⟩
  refine⟨(cells j [0] z).take 12,Q,?_,W.trans b5,ac,H,b6⟩;delta TJ F je N A;simp only[Xg,X7,X3,ba,dx];refine aU e1 ?_;delta Ed jd je B Y jl A;simp only[Xg,X7,X3,bb,ep,b1,Xj,b2,b3,b4];trivial
theorem Xsa(L:Lc)(h:l[y]?=some (.s n sz)):cells (ψ.set (y::k) L) k l=(cells ψ k l).take y++[ax L n sz]++(cells ψ k l).drop (y+1):=by
 have d:=(dO.mp h).1;have e:(cells ψ k l).take y++[ax L n sz]++(cells ψ k l).drop (y+1)=(cells ψ k l).set y (ax L n sz):=by rw[YR,ah (by rwa[gM])];simp
 rw[e];apply fk;intro i;rw[du,Xn,Xn,gM];by_cases e:y=i
 ·subst e;rw[ah rfl,ah d,h];show some (ax _ n sz)=_;rw[ay.aR]
 ·rw[af e];cases l[i]? with
  |none=>rfl
  |some c =>
   cases c with
   |v f=>rfl
   |s a b =>show some (ax _ a b)=some (ax _ a b);rw[ay.aE _ _ (λq=>e aq)]
theorem Vl{j:ay}(l:List Cl)(h:∀y,ψ (y::k)=j (y::k)):cells ψ k l=cells j k l:=by
 apply fk;intro i;rw[Xn,Xn];cases l[i]? with
 |none=>rfl
 |some c =>
  cases c with
  |v d=>rfl
  |s a b=>show some (ax (ψ (i::k)) a b)=some (ax (j (i::k)) a b);rw[h]
structure PD (i5:ao) (B:Nat) (G:Mem) (j:ay) (l9:List Cl) (i:Nat) (m:Mem) (ψ:ay):Prop where
 lP:∀k,(∀i6,i6<i->k≠[i6*3+1,9,0])->ψ k=j k
 rN:∃ty,m.get (j [9,0]).b=some (.cells (cells ψ [9,0] l9) (j [9,0]).ver 0 false ty)
 old:∀b,b<G.next->b≠(j [9,0]).b->m.get b=G.get b
 done:∀i6,i6<i->∀lc,i5.X [i6*3+1,9,0]=some (.c lc)->(ψ [i6*3+1,9,0]).r<2/\G.next<=(ψ [i6*3+1,9,0]).b/\(ψ [i6*3+1,9,0]).b<m.next/\∃ty,m.get (ψ [i6*3+1,9,0]).b=some (.cells (oO (cells j [i6*3+1,9,0] lc) 0 (au i5.X [9,0] (i6*3+1))) (ψ [i6*3+1,9,0]).ver 0 false ty)
 fb:Fb B G m
theorem Xh5(d:Nat){B P O p2 V:Nat}{i5:ao}(h:LI true B P O o G j i5)(hP:kO i5.X (aS i5.X))(w:o<=8589934592)(am:B<=G.next){D:List Cl}(l:i5.X [9,0]=some (.c D))(a6:D.length=au i5.X [0] 9*3):∀(n i f:Nat)(m:aj) (ψ:ay),i+n=au i5.X [0] 9->n<f->PD i5 B G j D i m ψ ->
  ∃S Z,vl (d9 d) f (I i) (pt P 0 0) (pt p2 0 0) (pt V 0 0) m=DN (d9 d) (pt P 0 0) (pt p2 0 0) (pt V 0 0) S/\PD i5 B G j D (au i5.X [0] 9) S Z
 |n,i,f+1,m,ψ,e,hf,u=>by
  obtain⟨lr,J,a7⟩:=h.wt.root;have a1:=Bj (r:=true) (P:=P) (O:=O) J;obtain⟨ag,q1,q2⟩:=h.wt.get J rfl (y:=9) aa;have r9:lr[9]?=some (.s (au i5.X [0] 9) 3):=by
   cases ag with
   |v g8=>trivial
   |s a b =>
    subst q2;have:au i5.X [0] 9=a:=by unfold au;rw[cU J,q1];rfl
    rwa[this]
  have b9:=yJ (r:=true) (P:=P) (O:=O) h.wt ak l;have b1:=h.nr.r2 [9,0] (by rw[b9];simp);have b6:=h.nr.hi [9,0] (by rw[b9];simp);have Q:P≠(j [9,0]).b:=λe=>by have:=h.nr.inj [0] [9,0] (by rw[a1];simp) (by rw[b9];simp) (by rw[h.pP];exact e);cases this
  have L:P<G.next:=by have:=h.nr.hi [0] aq;rwa[h.pP]at this
  have ⟨bd,g0⟩:=h.nr.at' [0] _ a1;rw[h.pP]at g0;have ab:∀mm,mm.get P=G.get P->X9 false 1 (pt P 9 0) mm=some (ax (j [9,0]) (au i5.X [0] 9) 3):=λmm hm=>Xt (by rwa[hm]) (by rw[Xn,yi a7 9 (.inl aa),r9];rfl);have a8:=ab m (u.old P L Q);by_cases hz:n=0
  ·have hi:i=au i5.X [0] 9:=by omega
   subst hi;refine⟨m,ψ,?_,u⟩;unfold vl;delta O C jo T F E jn X je B N jb ja jf A ji;simp only[Xg,X7,X3,aQ,a8,dx,Qb,j1,j4,X5]
  ·obtain⟨n,rfl⟩:∃k,n=k+1:=⟨n-1,aa⟩
   have hi:i<au i5.X [0] 9:=aa;have b0:decide (((i:Nat):Int)<((au i5.X [0] 9:Nat):Int))=true:=bj aa
   have a5:kt [9,0]=some 12:=rfl;have ⟨c1,t,x⟩:=h.wt.get l a5 (y:=i*3+1) aa;rw[fd_row (sz:=3) rfl i 1 aa]at x;cases c1 with
   |v _=>exact False.elim x
   |s M z =>
   have x:z=15:=x;subst x;have hM:au i5.X [9,0] (i*3+1)=M:=by unfold au;rw[cU l,t];rfl
   have b2:ψ [i*3+1,9,0]=j [i*3+1,9,0]:=u.lP _ λg W e=>by injection e with e _;omega
   have ⟨ac,g9⟩:=u.rN;have ix:Xd 3 (ax (j [9,0]) (au i5.X [0] 9) 3) (I i)=some (pt (j [9,0]).b (i*3) (j [9,0]).ver):=eU _ b1 _ 3 i .i64 hi;have b3:X9 false 1 (pt (j [9,0]).b (i*3+1) (j [9,0]).ver) m=some (ax (j [i*3+1,9,0]) M 15):=Xt g9 (by rw[Xn,t];show some (ax (ψ [i*3+1,9,0]) M 15)=_;rw[b2])
   have av:M<=8589934592:=by
    by_cases q:M=0
    ·omega
    ·exact aO (wx h [9,0] D (i*3+1) M 15 l ar t q).1 w
   have aw:∃cs,cs.length=M*15/\cs.all one=true/\(∀g,g<M->∃z,cs[g*15]?=some (.int .i64 z))/\(∀a b,a<M->b<M->keyOf cs 0 M a=keyOf cs 0 M b->a=b)/\(M≠0->(j [i*3+1,9,0]).r<2/\(j [i*3+1,9,0]).b<m.next/\∃ty,m.get (j [i*3+1,9,0]).b=some (.cells cs (j [i*3+1,9,0]).ver 0 false ty))/\(∀U,i5.X [i*3+1,9,0]=some (.c U)->M≠0->cs=cells j [i*3+1,9,0] U):=by
    by_cases q:M=0
    ·subst q;simp
    ·obtain⟨_,U,x1,x2⟩:=wx h _ D _ M 15 l ar t q;have bc:=yJ (r:=true) (P:=P) (O:=O) h.wt ar x1;have p:bX true P O i5 [i*3+1,9,0]≠none:=by rw[bc];simp
     have ⟨b5,gc⟩:=h.nr.at' _ _ bc;have a4:=h.nr.hi _ p;have a3:(j _).b≠(j _).b:=λe=>by have:=h.nr.inj [i*3+1,9,0] [9,0] p (by rw[b9];simp) e;injection this with _ e2;cases e2
     have aB:=fB a5 (by rw[fd_row (r:=12) (sz:=3) rfl i 1 aa];rfl);have hz:∀g,g<M->∃z,(cells j [i*3+1,9,0] U)[g*15]?=some (.int _ z)/\bI i5.X _ _=z:=λg W=>by
      obtain⟨dd,d1,d2⟩:=h.wt.get x1 aB (y:=g*15+0) aa;rw[fd_row (r:=13) (sz:=15) rfl g 0 aa]at d2;cases dd with
      |s _ _=>exact False.elim d2
      |v g8 =>obtain⟨z,rfl⟩:=d2;rw[gp]at d1;exact⟨z,by rw[Xn,d1];rfl,by unfold bI dm;rw[cU x1,d1];rfl⟩
     have R:∀g,g<M->keyOf _ 0 M g=bI i5.X _ _:=λg W=>by obtain⟨z,z1,z2⟩:=hz g W;unfold keyOf;rw[ah W,aQ,z1,z2];rfl
     exact⟨cells j [i*3+1,9,0] U,by rwa[gM],Ml (h.nr.ok _ _ bc),λg W=>aq,λa b ha hb e=>by rw[R a ha,R b hb]at e;exact hP.sd i a b hi aa aa e,λ_=>⟨h.nr.r2 _ p,dU a4 u.fb.next,b5,by rw[u.old _ a4 a3];exact gc⟩,λbb q' _=>aq⟩
   obtain⟨cs,y1,y2,y3,y4,y5,y6⟩:=aw;have ⟨m1,K,s1,s2,s3⟩:=XqH (d+8) av y1 y2 y3 y4 y5;have b7:=u.fb.next;have b8:=s2.next;have al:m1.get (j [9,0]).b=some (.cells (cells ψ [9,0] D) (j [9,0]).ver 0 false ac):=by rwa[s2.get _ aa ar]
   obtain⟨m2,k1,k2⟩:=iJ (y:=i*3+1) (n:=1) (v:=ax K M 15) (c':=cells (ψ.set [i*3+1,9,0] K) [9,0] D) al zq c7 Nl (by
    have:(ax K M 15).cells=#[ax K M 15]:=zq;rw[this];simp[nX]) (by
    have:(ax K M 15).cells=#[ax K M 15]:=zq;rw[this,Xsa K t])
   have F2:=(s2.iP aa).trans (((Fb.refl B m1).put _ (h.hB _ (by rw[b9];simp))).jL k2);have ba:m2.next=m1.next:=by rw[k2.next,Mem.ij]
   have aA:∀b,b≠(j _).b->b<m.next->m2.get b=m.get b:=λb hb hl=>by rw[k2.get,Mem.aX,af (bq hb),s2.get _ hl ar]
   have an:PD i5 B G j D (i+1) m2 (ψ.set [i*3+1,9,0] K):={
    lP:=λk hk=>by rw[ay.aE _ _ (hk i aa)];exact u.lP k λg W=>hk g aa
    rN:=⟨ac,by rw[k2.get,Mem.aX,ah rfl]⟩
    old:=λb hb p=>by rw[aA b p aa];exact u.old b hb p
    done:=λg W U Y=>by
     by_cases e:g=i
     ·subst e;rw[ay.aR];have a2:M≠0:=λq=>by
       have ow:=h.nr.ow _ D _ M 15 b9 t;have e:=ow.2.2;rw[ah q,yJ h.wt ar Y]at e;cases e
      have ⟨u1,u2,u3,ty,u4⟩:=s3 a2;rw[hM,<-y6 U Y a2];exact⟨u1,aa,aa,ty,by rw[k2.get,Mem.aX,af aa];exact u4⟩
     ·rw[ay.aE _ _ (λq=>aq)];obtain⟨u1,u2,u3,ty,u4⟩:=u.done g aa U Y;exact⟨u1,u2,aa,ty,aq⟩
    fb:=u.fb.trans F2 }
   obtain⟨S,Z,v1,v2⟩:=Xh5 d h hP w am l a6 n (i+1) f m2 _ aa aa an;refine⟨S,Z,?_,v2⟩;have a9:=ab m1 (by rw[s2.get _ aa ar];exact u.old P L Q);have ei:bin .add true true .int (I i) (.int .i64 1)=some (I (i+1:Nat)):=by
    have:au i5.X [0] 9<=8589934592:=by
     by_cases q:au i5.X [0] 9=0
     ·omega
     ·exact aO (wx h [0] lr 9 _ 3 J ar r9 q).1 w
    rw[cz];have:((i:Nat):Int)+1=((i+1:Nat):Int):=aa;rw[this,wrap64 _ aa]
   unfold vl;delta O C jo T F E jn X je B N jb ja jf A ji;simp only[Xg,X7,X3,aQ,a8,dx,Qb,b0,X6,ix,b3,s1,X4,a9,o6,fO,Xv,k1,Xj,ei];exact v1
theorem Xq4(d:Nat)(h:LI true B P O o m j i5)(hP:kO i5.X (aS i5.X))(al:o<=8589934592)(bb:B<=m.next)(L:jS m p2 V)(ab:B<=p2)(ac:B<=V)(R:∀k,bX true P O i5 k≠none->(j k).b≠p2/\(j k).b≠V) :
  ∃(dv:List ae)(S:aj),Ak (d9 d) (pt P 0 0) (pt p2 0 0) (pt V 0 0) m=some (.tuple ⟨[.agg ⟨dv⟩,aZ 0 0,.int .i64 (pn (.ok i5)).2.2]⟩,S)/\Fb B m S/\dv.length=12/\dv.all one=true/\fK B S (yL (.ok i5)) dv:=by
 obtain⟨lr,w,Z⟩:=h.wt.root;have K:=Bj (r:=true) (P:=P) (O:=O) w;have t:(dt (uJ true P O) i5 lr).length=18:=vJ Z;have f:∀y,y<12->(dt (uJ true P O) i5 lr)[y]?=lr[y]?:=λy ho=>yi Z y (.inl ho);generalize dt (uJ true P O) i5 lr=H at K t f;obtain⟨b6,g0⟩:=h.nr.at' [0] _ K;rw[h.pP]at g0;have g0:m.get P=some (.cells (cells j [0] H) 0 0 false b6):=g0;obtain⟨c0,q1,Q⟩:=h.wt.get w (r:=0) rfl (y:=0) aa;have Q:dz (some .s) c0:=Q;cases c0 with
 |s _ _=>exact False.elim Q
 |v y0 =>
 obtain⟨t0,rfl,_⟩:=Q;have be:di i5.X [0] 0=t0:=by unfold di dm;rw[cU w,q1];rfl
 have oJ:X9 false 1 (pt P 0 0) m=some (sv t0):=Xt g0 (by rw[Xn,f 0 aa,q1];rfl);have e0:bin .eql true true .str (sv t0) (.string ⟨#[]⟩)=some (.bool (decide (t0=[]))):=Qh _ _ _ [];have ep:Xc Q2 [(0,1),(1,1)] []=some (aZ 0 0):=aU rfl rfl;delta Ak F E je B Y jl A P D;unfold pn yL;dsimp only;simp only[Xg,X7,X3,aQ,oJ,e0];rw[be];by_cases ht:t0=[]
 ·rw[bj ht,X6,ah ht,ah ht];obtain⟨G,m2,a1,a2,a3,a4,a5,_⟩:=vN L ab ac Q8 rfl rfl 0 0;refine⟨Q8,m2,?_,a5,rfl,rfl,Bh _ _⟩;have a2:=a2;simp only[Fl,ep,X3,a1,Xj,a2,a3,a4];exact Yz _ _ _ _
 ·rw[bJ ht,X5,af ht,af ht];have a9:lr[9]?=some (.s (au i5.X [0] 9) 3):=by
   obtain⟨a7,q1,Q⟩:=h.wt.get w (r:=0) rfl (y:=9) aa;have Q:dz (some (.l 12)) a7:=Q;cases a7 with
   |v g8=>trivial
   |s a b =>
    have Q:b=3:=Q;subst Q;have:au i5.X [0] 9=a:=by unfold au;rw[cU w,q1];rfl
    grind
  have aA:X9 false 1 (pt P 9 0) m=some (ax (j [9,0]) (au i5.X [0] 9) 3):=Xt g0 (by rw[Xn,f 9 aa,a9];rfl);have aB:∃G J,vl (d9 d) 18446744073709551616 (I (0:Nat)) (pt P 0 0) (pt p2 0 0) (pt V 0 0) m=DN (d9 d) (pt P 0 0) (pt p2 0 0) (pt V 0 0) G/\Fb B m G/\(∀k,(∀i,k≠[i*3+1,9,0])->J k=j k)/\(∀l9,i5.X [9,0]=some (.c l9)->∃ty,G.get (j [9,0]).b=some (.cells (cells J [9,0] l9) (j [9,0]).ver 0 false ty)) /\
    (∀b,b<m.next->(i5.X [9,0]≠none->b≠(j [9,0]).b)->G.get b=m.get b) /\
    (∀i lc,i<au i5.X [0] 9->i5.X [i*3+1,9,0]=some (.c lc)->(J [i*3+1,9,0]).r<2/\m.next<=(J [i*3+1,9,0]).b/\(J [i*3+1,9,0]).b<G.next/\∃ty,G.get (J [i*3+1,9,0]).b=some (.cells (oO (cells j [i*3+1,9,0] lc) 0 (au i5.X [9,0] (i*3+1))) (J [i*3+1,9,0]).ver 0 false ty)):=by
   by_cases hz:au i5.X [0] 9=0
   ·have bn:i5.X [9,0]=none:=by
     cases hx:i5.X [9,0]with
     |none=>rfl
     |some ob =>have ow:=(h.nr.ow [0] H 9 _ 3 K (by rwa[f 9 aa])).2.2;rw[ah hz,wi h.wt ak (.inl ⟨_,fB rfl rfl⟩),hx]at ow;cases ow
    refine⟨m,j,?_,.refl _ _,λ_ _=>rfl,λl9 q=>aq,λ_ _ _=>rfl,λi lc U=>aa⟩;rw[hz]at aA;rw[vl];delta O C jo T F E jn X je B N jb ja jf A ji;simp only[Xg,X7,X3,aA,dx,Qb,j1,j4,X5]
   ·obtain⟨_,l9,x1,x2⟩:=wx h [0] lr 9 _ 3 w ar a9 hz;have b9:=yJ (r:=true) (P:=P) (O:=O) h.wt ak x1;obtain⟨G,J,w1,w2⟩:=Xh5 d h hP al bb x1 x2 (au i5.X [0] 9) 0 18446744073709551616 m j (aQ _) (by
     omega) ⟨λ_ _=>rfl,h.nr.at' [9,0] _ b9,λ_ _ _=>rfl,λi U=>absurd U (vb _),.refl _ _⟩
    exact⟨G,J,w1,w2.fb,λk M=>w2.lP k λi _=>M i,λbs q=>by rw[x1]at q;cases q;exact w2.rN,λb hb hn=>w2.old b hb (hn aq),λi lc U a6=>w2.done i U lc a6⟩
  obtain⟨G,J,e1,F1,x,aw,z,a0⟩:=aB;have a8:∀k:Key,k≠[9,0]->bX true P O i5 k≠none->i5.X [9,0]≠none->(j k).b≠(j [9,0]).b:=λk M hx h9 e=>M (h.nr.inj k [9,0] hx (by rwa[wi h.wt ak (.inl ⟨_,fB (k:=[0]) (r:=0) rfl rfl⟩)]) e);have ag:P<m.next:=by have:=h.nr.hi [0] (by rw[K];simp);rwa[h.pP]at this
  have gP:G.get P=some (.cells (cells j [0] H) 0 0 false b6):=by rwa[z P ag λq e=>a8 [0] ak aq q (by rw[h.pP];exact e)]
  have b0:∀p,(∀k,bX true P O i5 k≠none->(j k).b≠p)->i5.X [9,0]≠none->p≠(j [9,0]).b:=λp hp q e=>hp [9,0] (by rwa[wi h.wt ak (.inl ⟨_,fB (k:=[0]) (r:=0) rfl rfl⟩)]) e.symm;have av:=F1.next;have ba:jS G p2 V:={
   l2:=dU L.l2 av
   l3:=dU L.l3 av
   ne:=L.ne
   g2:=by rw[z p2 L.l2 (b0 p2 λk M=>(R k M).1)];exact L.g2
   g3:=by rw[z V L.l3 (b0 V λk M=>(R k M).2)];exact L.g3 }
  have am:((cells j [0] H).take 12).length=12:=by rw[kl,gM,t];rfl
  have bf:X9 true 12 (pt P 0 0) G=some (.agg ⟨(cells j [0] H).take 12⟩):=Xw gP (by rw[gM,t];omega) (by rw[mA]);have W:((cells j [0] H).take 12).all one=true:=by have:=Ml (j:=j) (k:=[0]) (h.nr.ok _ _ K);rw[cL]at this|-;exact λg8 hy=>this g8 (wL hy)
  obtain⟨m2,m3,b1,b2,b3,b4,b5,_,b7⟩:=vN ba ab ac ((cells j [0] H).take 12) am W 0 0;have bi:=b5.next;have bd:fK B m3 (tc i5.X) ((cells j [0] H).take 12):=by
   have b8:(cells j [0] H).take 12=(cells J [0] lr).take 12:=by
    have e:cells J [0] H=cells j [0] H:=Vl _ λy=>x _ λi q=>aq;rw[<-e];apply fk;intro q;rw[jP,jP];by_cases hq:q<12
    ·rw[ah hq,ah hq,Xn,Xn,f q hq]
    ·grind
   rw[b8];refine Xz5 h.wt (λk l y n sz a b c e=>(wx h k l y n sz a b c e).2) (λk l M h0 U=>?_) (λi lc U a6=>?_) w
   ·have an:bX true P O i5 k=some _:=yJ h.wt h0 M;have u:bX true P O i5 k≠none:=by rw[an];simp
    obtain⟨ty,g⟩:=h.nr.at' k _ an;have bc:=h.nr.hi k u;rw[x k U];by_cases e:k=[9,0]
    ·subst e;obtain⟨ty,g⟩:=aw l M;exact⟨h.nr.r2 _ u,h.hB _ u,aa,ty,aq⟩
    ·refine⟨h.nr.r2 k u,h.hB k u,aa,ty,?_⟩;rw[b7 _ (R k u).1 (R k u).2,z _ bc λq=>a8 k e u q,Vl l λy=>x _ λi q=>e (by injection q)];exact g
   ·obtain⟨u1,u2,u3,ty,u4⟩:=a0 i lc U a6;have l2:=L.l2;have l3:=L.l3;rw[Vl lc λy=>x _ λj' q=>by injection q with _ q;injection q with _ q;injection q with _ q;cases q];exact⟨u1,aa,aa,ty,aq⟩
  refine⟨(cells j [0] H).take 12,m3,?_,F1.trans b5,am,W,bd⟩;delta RC RD A;refine aU e1 ?_;delta DN jd je B Y jl A;have b2:=b2;simp only[Xg,X7,X3,bf,ep,b1,Xj,b2,b3,b4];trivial
def BN(r:Nat):Nat:=if r=11 then 80000 else 4200
theorem deep(i:kt k=some r)(hf:bo r y=some (.l r')):r'=11\/k.length<=2:=by
 have dN:∀r,r<19->((ch r).all λx=>match x with|.l q=>decide (q<19)&&(decide (q≠0)&&(decide (r=0)||(ch q).all λj=>match j with|.l z=>decide (z=11)|_=>true))|_=>true)=true:=by decide +kernel
 have t2:∀{r y q:Nat},bo r y=some (.l q)->q<19/\q≠0/\(r≠0->∀{y z:Nat},bo q y=some (.l z)->z=11):=fun{r y q} h=>by
  have n:=jO h;by_cases d:r<19
  ·have c:=cL.mp (dN r d) _ n;simp only[bT,Nf,gq]at c;refine⟨c.1,c.2.1,λm {y z} o=>?_⟩;have u:=cL.mp (c.2.2.resolve_left m) _ (jO o)
   grind
  ·have e:ch r=[.f]:=by
    unfold ch;split<;>first|rfl|omega
   grind
 have up:∀{a:Nat} {k:Key} {r:Nat},k≠[]->kt (a::k)=some r->∃g,kt k=some g/\bo g a=some (.l r):=fun{a k r} p h=>by
  cases k with
  |nil=>grind
  |cons b t =>
   have h:(kt _).bind (λr=>match bo r a with|some (.l r')=>some r'|_=>none)=some r:=h
   cases s:kt (b::t)with
   |none=>grind
   |some g =>grind
 match k,i with
 |[],_=>simp
 |[_],_=>simp
 |[_,_],_=>simp
 |a::b::x::l,i =>grind
theorem W9(a:kt k=some r)(hf:bo r y=some (.l r'))(h:n<=80000/\(k.length<=2->n<=4200)):n<=BN r':=by
 unfold BN;rcases deep a hf with rfl|q
 ·exact h.1
 grind
inductive Ty:Fd->Tn->Prop where
 |i (k:IntKind) (z:Int):Ty (.i k) (.v (.int k z))
 |s (t:ai) (h:t.length<=SB):Ty .s (.v (sv t))
 |b (x:Bool):Ty .b (.v (.bool x))
 |f (t:Tn):Ty .f t
 |l (r n:Nat) (ts:List Tn) (hn:n<=BN r) (hl:ts.length=n*aN r) (h:∀(i:Nat)(t:Tn) (g:Fd),ts[i]?=some t->bo r i=some g->Ty g t):Ty (.l r) (.l (aN r) n ts)
def nQ(ts:List Tn):Prop:=ts.length=12/\∀(a:Nat)(t:Tn) (g:Fd),ts[a]?=some t->(ch 0)[a]?=some g->Ty g t
theorem YA{g:Fd}(h:dz (some g) (.v g8)):Ty g (.v g8):=by
 cases g with
 |i k=>obtain⟨n,rfl⟩:=h;exact .i k n
 |s=>obtain⟨t,rfl,a⟩:=h;exact .s t a
 |b=>obtain⟨x,rfl⟩:=h;exact .b x
 |l r=>trivial
 |f=>exact .f _
theorem MZ{X:NX}(wt:WT X)(j:∀k l y n sz,X k=some (.c l)->k≠[]->l[y]?=some (.s n sz)->n≠0->(n<=80000/\(k.length<=2->n<=4200))/\∃m,X (y::k)=some (.c m)/\m.length=n*sz) :
  ∀(d:Nat)(k:Key) (l:List Cl) (r:Nat),X k=some (.c l)->kt k=some r->hT r<=d->∀y c g,l[y]?=some c->bo r y=some g->Ty g (rQ (mv X d) k y c)
 |d,k,l,r,p,a,hd,y,.v g8,g,f,b=>by obtain⟨A,o,h⟩:=wt.get p a (dO.mp f).1;rw[f]at o;cases o;rw[b]at h;exact YA h
 |d,k,l,r,p,a,hd,y,.s n sz,g,f,b=>by
  obtain⟨A,o,h⟩:=wt.get p a (dO.mp f).1;rw[f]at o;cases o;rw[b]at h;obtain⟨r',rfl⟩:∃r',g=.l r':=by cases g<;>first|exact⟨_,rfl⟩|exact False.elim h
  subst h;show Ty _ (.l _ n _);by_cases hn:n=0
  ·subst hn;exact .l r' 0 [] c7 ar ar
  ·rw[af hn];have w:k≠[]:=λe=>by rw[e]at a;cases a
   have ⟨B,m,z,D⟩:=j k l y n _ p w f hn;have C:=XbO b;obtain⟨q,rfl⟩:∃q,d=q+1:=⟨d-1,aa⟩
   rw[Xz4 z];refine .l r' n _ (W9 a b B) aq λi t g hi u=>?_;rw[tF]at hi;cases x:m[i]? with
   |none=>grind
   |some c =>rw[x]at hi;cases hi;exact MZ wt j q (y::k) m r' z (fB a b) aa i c g x u
theorem XjP(wt:WT X)(i:∀k l y n sz,X k=some (.c l)->k≠[]->l[y]?=some (.s n sz)->n≠0->(n<=80000/\(k.length<=2->n<=4200))/\∃W,X (y::k)=some (.c W)/\W.length=n*sz):nQ (tc X):=by
 obtain⟨l,D,A⟩:=wt.root;have N:tc X=(l.take 12).mapIdx (Yj X):=by unfold tc;rw[D]
 rw[N];refine⟨by rw[zp,kl,A];rfl,λd t g F V=>?_⟩;have x:d<12:=by have:=(dO.mp F).1;rw[zp,kl]at this;omega
 rw[tF,jP,ah x]at F;have q:bo 0 d=some g:=by have e:d=0*aN 0+d:=aa;rw[e,fdAt_row 0 0 d (by show d<18;omega)];exact V
 cases E:l[d]? with
 |none=>grind
 |some c =>
  rw[E]at F;cases F;obtain⟨c',C,u⟩:=wt.get D rfl (y:=d) aa;rw[E]at C;cases C;rw[q]at u;cases c with
  |v g8=>exact YA u
  |s n sz =>
   show Ty g (.l sz n _);have R:=MZ wt i 3 [0] l 0 D rfl aY d (.s n sz) g E q;by_cases hn:n=0
   ·subst hn;exact R
   ·by_cases U:d=9
    ·subst U;rw[af hn,ah rfl];obtain rfl:g=.l 12:=by cases V;rfl
     obtain rfl:sz=aN 12:=u;have ⟨hN,G,H,x2⟩:=i [0] l 9 n _ D ar E hn;have Q:B4 X=G.mapIdx (YF X):=by unfold B4;rw[H]
     rw[Q];have j:kt [9,0]=some 12:=rfl;refine .l 12 n _ (W9 (k:=[0]) rfl q hN) (by rwa[zp]) λy t g P h=>?_;rw[tF]at P;cases f:G[y]? with
     |none=>grind
     |some c =>
      rw[f]at P;cases P;obtain⟨c',C,u⟩:=wt.get H j (dO.mp f).1;rw[f]at C;cases C;rw[h]at u;cases c with
      |v g8=>exact YA u
      |s M z =>
       show Ty g (.l z M _);have R:=MZ wt i 2 [9,0] G 12 H j aY y (.s M z) g f h;by_cases J:M=0
       ·subst J;exact R
       ·rw[af J];have I:g=.l 13:=by
         have hm:g=.s\/g=.l 13\/g=.b:=by have:g∈ch 12:=jO h;simpa[ch]using this
         rcases hm with rfl|rfl|rfl
         ·trivial
         ·rfl
         ·trivial
        subst I;obtain rfl:z=aN 13:=u;have ⟨K,m,Z,y2⟩:=i [9,0] G y M _ H ar f J;have L:BU X [y,9,0] M=Bw (gK (vU m) 0 M) (m.mapIdx (rQ (mv X 1) [y,9,0])):=by unfold BU;rw[Z]
        rw[L];have ⟨o1,o2⟩:=LC (vU m) 0 M;have S:m.length=M*15:=y2;have ⟨Y,p2⟩:=WC (.v .nilFunc) (m.mapIdx (rQ (mv X 1) [y,9,0])) (gK (vU m) 0 M) 0 M o1 o2 (by rw[zp,S];omega);refine .l 13 M _ (W9 j h K) Y λa t g o O=>?_;have a0:a<M*15:=by rw[<-Y];exact(dO.mp o).1
        have T:a=a / 15*15+a%15:=aa;have e1:=p2 (a / 15) (a%15) aa (kM _ aa);rw[<-T]at e1;unfold Bw at o;rw[e1]at o;have w:bo 13 (0+((gK (vU m) 0 M)[a / 15]!*15+a%15))=some g:=by rw[aQ,fd_row (r:=13) (sz:=15) rfl _ _ (kM _ aa),<-fd_row (r:=13) (sz:=15) rfl (a / 15) _ (kM _ aa),<-T];exact O
        generalize 0+((gK _ 0 M)[a / 15]!*15+a%15)=p at o w;rw[tF]at o;cases B:m[p]? with
        |none=>grind
        |some c =>rw[B]at o;cases o;exact MZ wt i 1 _ m 13 Z (fB j h) aY p c g B w
    ·rw[af hn,af U];have e:rQ (mv X 3) [0] d (.s n sz)=.l sz n (mv X 3 [d,0]):=by
      show Tn.l sz n (if n=0 then[]else _)=_;rw[af hn]
     grind
theorem Wp:nQ BD:=by refine⟨rfl,λi t g hi b=>?_⟩;have:i<12:=(dO.mp hi).1;have a:i=0\/i=1\/i=2\/i=3\/i=4\/i=5\/i=6\/i=7\/i=8\/i=9\/i=10\/i=11:=aa;rcases a with rfl|rfl|rfl|rfl|rfl|rfl|rfl|rfl|rfl|rfl|rfl|rfl<;>cases hi<;>cases b<;>first|exact .s [] c7|exact .i _ _|exact .l _ 0 [] c7 rfl ar
theorem XjT{o:Nat}{m:aj}{j:ay}(h:LI r0 B P O o m j i5)(g:o<=80000)(f:∀k y,k.length=1\/k.length=2->au i5.X k y<=4200):nQ (if di i5.X [0] 0=[]then BD else tc i5.X):=by
 split
 ·exact Wp
 ·refine XjP h.wt λk l y n i a b c d=>?_;have q:=wx h k l y n i a b c d;refine⟨⟨aO q.1 g,λe=>?_⟩,q.2⟩;have:=f k y (by cases k with
   |nil=>grind
   |cons x p=>grind)
  unfold au at this;rwa[Uv a c]at this
def Gx(a b:Nat)(X Y:NX):Prop:=∀k y,(k.length=1->au Y k y<=au X k y+a)/\(k.length=2->au Y k y<=au X k y+b)
def Gw(a b:Nat)(s t:ao):Prop:=Gx a b s.X t.X
theorem Gx.of{a b:Nat}{Y Z:NX}(h:Gx a b X Y)(g:∀k y,k.length=1\/k.length=2->au Z k y<=au Y k y):Gx a b X Z:=λk y=>⟨λe=>aO (g k y (.inl e)) ((h k y).1 e),λe=>aO (g k y (.inr e)) ((h k y).2 e)⟩
def nO:Option Cl->Nat|some (.s n _)=>n|_=>0
def n0(l:List Cl):Bool:=l.all λc=>(nO (some c)).beq 0
theorem XaU(h:n0 l=true)(y:Nat):nO l[y]?=0:=by
 cases a:l[y]? with
 |none=>rfl
 |some c=>exact wM (cL.mp h c (jO a))
theorem yz(h:X k=some (.c l))(y:Nat):au X k y=nO l[y]?:=by
 unfold au;rw[cU h];cases l[y]? with
 |none=>rfl
 |some c=>cases c<;>rfl
theorem XmA(l:List Cl)(y i:Nat)(xs:List ae):nO (l.take y++xs.map Cl.v++l.drop (y+xs.length))[i]?<=nO l[i]?:=by
 simp only[tL,fy,kl,gB,jP,lz,gX];split
 ·split
  ·grind
  ·cases xs[i-min y _]?<;>exact kn _
 grind
theorem XdV(X:NX)(k:Key)(y:Nat)(xs:List ae)(a:Key)(b:Nat):au (bF X k y xs) a b<=au X a b:=by
 cases d:X k with
 |none=>unfold bF;grind
 | some ob=>cases ob with
  |m f c=>unfold bF;grind
  |c l =>
   rw[fp d];by_cases e:a=k
   ·subst e;rw[yz (NX.aR _ _ _),yz d];exact XmA l y b xs
   ·rw[sK _ _ e];omega
theorem Yu(X:NX)(k:Key)(y:Nat)(cs:List Cl)(g:n0 cs=true)(a:Key)(b:Nat):au (bg X k y cs) a b<=au X a b+if a=k then 1 else 0:=by
 cases d:X k with
 |none=>unfold bg;grind
 | some ob=>cases ob with
  |m f c=>unfold bg;grind
  |c l =>
   unfold bg;rw[d];by_cases e:a=k
   ·subst e;rw[ah rfl,yz (NX.aR _ _ _),du];split
    ·split
     ·rename_i q _;subst q;exact c6 _
     ·exact kn _
    ·rw[yz d];omega
   ·rw[af e,sK _ _ e];by_cases e2:a=y::k
    ·subst e2;rw[yz (NX.aR _ _ _)];have i:=XaU g (b-(bz X (y::k)).length);rw[tL];split
     ·unfold bz;cases h:X (y::k)with
      |none=>exact kn _
      | some ob=>cases ob with
       |m f c=>exact kn _
       |c j=>rw[yz h];simp
     grind
    ·rw[sK _ _ e2];omega
variable {a b:Nat}{t:ao}
theorem fE:Gw a b s s:=λ_ _=>⟨λ_=>Ch _ _,λ_=>Ch _ _⟩
theorem bC{cu:Cu}(h:Gw a b s t):Gw a b s (t.at cu):=h
theorem uD(h:Gw a b s t):Gw a b s (fu c t e):=h
theorem iw(h:Gw a b s t):Gw a b s (t.aC k y xs):=Gx.of h λc d _=>XdV _ _ _ _ _ _
theorem cV{p:Prop}[Decidable p]{A B:ao}(c:Gw a b s A)(d:Gw a b s B):Gw a b s (if p then A else B):=aq
theorem wj(d:n0 cs=true)(h:Gw 0 b s t):Gw 1 b s (t.app [f] y cs):=λa c=>by
 have q:=Yu t.X [f] y cs d a c;have ⟨g,i⟩:=h a c;refine⟨λe=>aO q ?_,λe=>aO q ?_⟩
 ·grind
 grind
theorem wm(d:n0 cs=true)(h:Gw a 0 s t):Gw a 1 s (t.app [f,g] y cs):=λb c=>by
 have q:=Yu t.X [f,g] y cs d b c;have ⟨i,j⟩:=h b c;refine⟨λe=>aO q ?_,λe=>aO q ?_⟩
 ·grind
 grind
theorem XbW{i6:Nat}(c:n0 cs=true)(h:Gw a b s t):Gw a b s (t.app [f,g,i6] y cs):=Gx.of h λd e i=>by have q:=Yu t.X [f,g,i6] y cs c d e;rwa[af (λx=>aq)]at q
theorem XdP{i6:Nat}(h:Gw a b s t):Gw a b s (t.iV [f,g,i6] y vs):=Gx.of h λd i p=>by
 have ne:∀k:Key,3<=k.length->d≠k:=λk j e=>aq;show au (iz t.X _ y vs) d i<=_;cases n:t.X [f,g,i6]with
 |none=>unfold iz;grind
 | some ob=>cases ob with
  |m o cl=>unfold iz;grind
  |c l=>rw[Lj n y vs d i (ne _ ar) (ne _ ar)];omega
theorem KU(h:Gw a b s t):Gw a b s (Xz t ws):=Gx.of h λc d f=>by
 show au (NX.set _ [2] _) c d<=_;by_cases e:c=[2]
 ·subst e;unfold au cl;exact kn _
 ·rw[sK _ _ e];exact XdV _ _ _ _ _ _
theorem nq(h:Gw a b s t):Gw a b s (Xl t ws):=KU h
theorem E3(h:Gw a b s t):Gw a b s (mj t f ws):=KU (ws:=ws) h
theorem g_row{n:ai}(a:n0 cs=true)(h:Gw 0 b s t):Gw 1 b s (rowOf t y sz n cs).2:=by
 unfold rowOf;split
 ·exact λk y=>⟨λe=>Cj ((h k y).1 e),(h k y).2⟩
 ·exact wj a h
theorem Xzh{f g i6 y:Nat}:∀(F:Nat)(t:ao),Gw a b s t->Gw a b s (ir c [f,g,i6] y F t)
 |0,t,h=>h
 |F+1,t,h=>by unfold ir;exact cV (Xzh F _ (XbW rfl (bC h))) (XbW rfl (bC h))
theorem XnP(i6 y:Nat)(h:Gw a b s t):Gw a b s (gA c t [i6,9,0] y).2:=cV (iw (bC (bC h))) <| cV (iw (bC (bC h))) <| cV (iw (bC (bC h))) <| cV (XdP (bC (iw (bC (bC h))))) <| cV (Xzh _ _ (bC h)) <| cV (iw (bC (bC h))) (uD (bC h))
theorem XgD:Gw 1 1 s (rh c s):=cV (nq (iw (bC (bC fE)))) <| cV (nq (cV (uD (iw (bC (iw (bC (bC fE)))))) (iw (bC (iw (bC (bC fE))))))) <| cV (cV (nq (iw (bC (bC fE)))) (nq (iw (bC (bC fE))))) <| cV (nq (iw (bC (bC fE)))) <| cV (nq (cV (iw (bC (bC fE))) (cV (iw (bC (bC fE))) (iw (bC (bC fE)))))) <| cV (nq (iw (bC fE))) (uD (bC fE))
theorem XjN:Gw 1 1 s (nk c s):=wm rfl (bC fE)
theorem XmG:Gw 1 1 s (oB c s):=cV (nq (by have q:∀{cu:Cu} {y:Nat} {a:List _},Gw 1 1 s ((((s.at (Xa c s.cu).2).at (Xa c (Xa c s.cu).2).2).at cu).aC (mn s.X) y a):=iw (bC (bC (bC fE)));exact cV q (cV q (cV q (cV q (cV q (uD (bC (bC fE))))))))) <| cV (nq (XnP _ _ (bC fE))) <| cV (nq (iw (bC (bC fE)))) (uD (bC fE))
theorem XkO:Gw 1 1 s (ry c s):=cV (nq (iw (bC (bC fE)))) <| cV (wm rfl (bC (bC fE))) (uD (bC fE))
theorem XhW(l:List ae):n0 (l.map Cl.v)=true:=by simp[n0,nO]
theorem Xra(h:Gw 1 0 s t):Gw 1 1 s (ui c t):=by
 have up:∀{u:ao},Gw 1 0 s u->Gw 1 1 s u:=λh k y=>⟨(h k y).1,λe=>Cj ((h k y).2 e)⟩
 unfold ui;dsimp only;split
 ·exact cV (nq (wm (XhW _) (bC h))) (up (iw (bC h)))
 ·exact nq (cV (up (bC h)) (up (iw (bC h))))
theorem XnZ:Gw 1 1 s (rG c s):=cV (nq (iw (bC (bC fE)))) <| cV (wm rfl (nq (bC (bC fE)))) <| cV (Xra (bC fE)) <| cV (wm rfl (bC (bC fE))) (uD (bC fE))
theorem XmC:Gw 1 1 s (qE c s):=by
 have rt:∀{u:ao},Gw 0 0 s u->Gw 1 1 s (vK c u):=λh=>by
  have up:∀{u:ao},Gw 0 0 s u->Gw 0 1 s u:=λh k y=>⟨(h k y).1,λe=>Cj ((h k y).2 e)⟩
  exact cV (wj rfl (E3 (bC (up h)))) (wj rfl (E3 (bC (up h))))
 have b:∀{u:ao},Gw 0 0 s u->Gw 1 1 s (rK c u):=λh=>by
  have up:∀{u:ao},Gw 0 0 s u->Gw 0 1 s u:=λh k y=>⟨(h k y).1,λe=>Cj ((h k y).2 e)⟩
  have a:∀{u:ao},Gw 0 0 s u->Gw 1 1 s u:=λh k y=>⟨λe=>Cj ((h k y).1 e),λe=>Cj ((h k y).2 e)⟩
  refine cV (wj rfl (bC (bC (up h)))) <| cV (wj rfl (E3 (bC (bC (up h))))) <| cV (wm rfl (g_row rfl (bC (bC h)))) <| cV ?_ <| cV (wj rfl (bC (bC (up h)))) (uD (bC (a h)));exact XdP (wm rfl (g_row rfl (bC (bC h))))
 exact cV (KU (iw (bC (bC fE)))) <| cV (wj rfl (KU (bC (bC fE)))) <| cV (wj rfl (E3 (bC (bC fE)))) <| cV (b (bC fE)) <| cV (E3 (wm rfl (iw (g_row rfl (bC (bC fE)))))) <| cV (rt (bC fE)) (uD (bC fE))
theorem XiX(ind:Nat):Gw 1 1 s (jX c s ind):=by
 have e:∀t:ao,Gw 1 1 s t->Gw 1 1 s (jZ c t):=λt h=>by have q:Gw 1 1 s (if cH c t.cu=true then t.at (cB t.cu (bG c t.cu.pl).2 130)else t):=cV (bC h) h;exact cV (bC q) (cV (bC q) q)
 exact e _ (cV (XmC) (cV (cV XgD (cV XjN (cV XmG (cV XkO XnZ)))) (bC fE)))
theorem Xzg:∀(l:List Ln)(s i5:ao) (L:Nat),mY l s=.ok i5->(∀k y,k.length=1\/k.length=2->au s.X k y<=L)->∀k y,k.length=1\/k.length=2->au i5.X k y<=L+l.length
 |[],s,i5,L,h,b,k,y,a=>by cases h;grind
 |x::l,s,i5,L,h,b,k,y,a=>by
  unfold mY at h;split at h
  ·cases h
  ·have:=Xzg l _ i5 (L+1) h (λk y a=>by
    have g:=XiX (s:=s.at ⟨0,none⟩) (c:=Mn x) x.ind k y;have:=b k y a;rcases a with e|e
    ·exact aO (g.1 e) (Nat.succ_le_succ this)
    ·exact aO (g.2 e) (Nat.succ_le_succ this)) k y a
   grind
theorem Vu:∀(r:ai)(l k:Nat),l<=4097->(lh r l k).2.2=0->l+r.count 10<=4097
 |[],l,k,a,_=>a
 |c::r,l,k,a,h=>by
  unfold lh at h;split at h
  ·cases h
  ·split at h
   ·have:=Vu r _ 1 aa h
    grind
   ·split at h
    ·cases h
    ·have:=Vu r l _ a h;rw[List.count_cons_of_ne (by intro e;simp_all)]
     grind
def MQ:List Cl:=[.v (sv []),.v (.int .u8 1),.s 0 1,.s 0 11,.s 0 2,.s 0 3,.s 0 7,.s 0 2,.s 0 2,.s 0 3,.s 0 3,.s 0 6,.v .nilFunc,.v (sv []),.v .nilFunc,.v (.bool false),.v (.bool false),.v (I 0)]
def vB:NX:=λk=>if k=[0]then some (.c MQ)else if k=[2]then some (lv [])else none
def gm:ao:=⟨⟨0,none⟩,vB,0,[],⟨[],0,[]⟩⟩
theorem UE(a:k≠[0])(b:k≠[2]):vB k=none:=by unfold vB;grind
theorem YP:WT vB where
 root:=⟨MQ,rfl,rfl⟩
 set:=⟨[],rfl⟩
 qy:=rfl
 ty:=λk l h=>by
  by_cases h0:k=[0]
  ·subst h0;cases h;refine⟨0,rfl,λy d hd=>?_⟩;have ho:y<18:=(dO.mp hd).1;have:=fd_row (r:=0) (sz:=18) rfl 0 y ho;rw[aQ]at this;rw[this];have ok:B3 (ch 0) MQ:=by repeat' (first|exact trivial|exact bR _ _|exact fV _|exact eJ c7|exact jM _ _|apply And.intro)
   exact dJ ok y d hd
  ·by_cases h2:k=[2]
   ·subst h2;cases h
   ·rw[UE h0 h2]at h;cases h
set_option maxHeartbeats 4000000 in
theorem XrG(y:P<m.next)(x:O<m.next)(t:P≠O)(r:B<=P)(q:B<=O)(o:m.get O=some (.map [] 0))(p:m.get P=some (.cells [sv [],.int .u8 1,.slice none 0 0,.slice none 0 0,.slice none 0 0,.slice none 0 0,.slice none 0 0,.slice none 0 0,.slice none 0 0,.slice none 0 0,.slice none 0 0,.slice none 0 0,.nilFunc,sv [],rM O,.bool false,.bool false,I 0] 0 0 false ty)) :
  LI false B P O 0 m (λk=>if k=[0]then⟨P,0,0⟩else⟨O,0,0⟩) gm:=by
 have e0:bX false P O gm [0]=some (.c [.v (sv []),.v (.int .u8 1),.s 0 1,.s 0 11,.s 0 2,.s 0 3,.s 0 7,.s 0 2,.s 0 2,.s 0 3,.s 0 3,.s 0 6,.v .nilFunc,.v (sv []),.v (rM O),.v (.bool false),.v (.bool false),.v (I 0)]):=by rfl
 have en:∀k,k≠[0]->bX _ P O gm k=vB k:=λk g=>wi YP g (.inr rfl);have e2:bX _ P O gm [2]=some _:=en [2] ak;have f:∀k,bX _ P O gm k≠none->k=[0]\/k=[2]:=λk g=>by
  by_cases h:k=[0]
  ·exact .inl h
  ·by_cases j:k=[2]
   ·exact .inr j
   ·rw[en k h,UE h j]at g;exact absurd rfl g
 have f0:(λk=>if k=[0]then⟨P,0,0⟩else⟨O,0,0⟩:ay) [0]=⟨P,0,0⟩:=rfl;have f2:(λk=>if k=[0]then⟨P,0,0⟩else⟨O,0,0⟩:ay) [2]=⟨O,0,0⟩:=rfl;exact{
  nr:={
   inj:=λa b d z e=>by grind
   hi:=λa d=>by grind
   r2:=λa d=>by grind
   at':=λa ob d=>by
    rcases f a aq with rfl|rfl
    ·rw[e0]at d;cases d;exact⟨ty,p⟩
    ·rw[e2]at d;cases d;exact o
   ok:=λa l d=>by
    rcases f a aq with rfl|rfl
    ·rw[e0]at d;cases d;rfl
    ·rw[e2]at d;cases d
   ow:=λa l i n w d hi=>by
    rcases f a aq with rfl|rfl
    ·rw[e0]at d;cases d;have key:n=0/\0<w:=by
      have:i<18:=(dO.mp hi).1;have u:i=0\/i=1\/i=2\/i=3\/i=4\/i=5\/i=6\/i=7\/i=8\/i=9\/i=10\/i=11\/i=12\/i=13\/i=14\/i=15\/i=16\/i=17:=aa;rcases u with rfl|rfl|rfl|rfl|rfl|rfl|rfl|rfl|rfl|rfl|rfl|rfl|rfl|rfl|rfl|rfl|rfl|rfl<;>cases hi<;>exact⟨rfl,ak⟩
     grind
    ·rw[e2]at d;cases d
   par:=λi A a d=>by grind }
  pP:=f0
  pO:=f2
  wt:=YP
  il:=kn _
  hB:=λk g=>by grind
  bk:=.none rfl }
theorem VM(n:Nat):∀(f:Nat)(a:ai),a.length<=n->(eV n f a).length<=a.length/\∀w∈eV n f a,w.1.length<=n/\w.2<=n
 |0,a,h=>⟨kn _,λw c=>by cases c⟩
 |f+1,a,h=>by
  unfold eV;by_cases b:a=[]
  ·rw[ah b];simp
  ·rw[af b];have d:=Xpo 32 a;have g:=Xsf b;have i:=ya (eZ 32 a).2.1;have ⟨k,j⟩:=VM n f (cZ (eZ 32 a).2.1) aa;refine⟨aq,λw c=>?_⟩;rcases eF.mp c with rfl|e
   ·exact⟨by show(eZ 32 a).1.length<=n;omega,aa⟩
   ·exact j w e
theorem VT(N:Nat):∀(c:List ai)(i:Nat),(∀r∈c,r.length<=N)->(eO c i).length<=c.length/\lS (eO c i)<=c.length*(N+3)/\∀x∈eO c i,x.ws.length<=N/\∀w∈x.ws,w.1.length<=N/\w.2<=N
 |[],i,h=>⟨c6 _,kn _,λx g=>by cases g⟩
 |r::l,i,h=>by
  obtain⟨n,o,i3⟩:=VT N l (i+1) λr' f=>h r' (gC _ f);have e:(r::l).length*(N+3)=l.length*(N+3)+(N+3):=by rw[iq,rU,Ng]
  unfold eO;cases d:iO r with
  |none=>exact⟨aq,aq,i3⟩
  |some g8 =>
   have m:g8.2.length<=N/\∀w∈g8.2,w.1.length<=N/\w.2<=N:=by
    unfold iO at d;dsimp only at d;split at d
    ·cases d
    ·cases d;have j:=ya r;have ⟨a,b⟩:=VM _ (r.length+1) _ j;exact⟨aq,λw k=>by grind⟩
   refine⟨aq,?_,λx g=>?_⟩
   ·rw[e];show g8.2.length+3+lS _<=_;omega
   grind
theorem XoA{s:ai}(h:mY (lu s) gm=.ok i5)(k:Key)(y:Nat)(a:k.length=1\/k.length=2):au i5.X k y<=(lu s).length:=by
 have:=Xzg _ _ _ 0 h (λk y _=>by
  show au vB k y<=0;by_cases e:k=[0]
  ·rw[yz (by unfold vB;rw[ah e]),XaU rfl];omega
  ·unfold au cl vB;rw[af e];by_cases e2:k=[2]
   ·rw[ah e2];exact c6 _
   grind) k y a
 omega
theorem Xlj(c:UInt8):∀l:ai,((split c l).map List.length).sum<=l.length
 |[]=>by simp[split]
 |a::l=>by
  have b:=Xlj c l;rw[Eu]
  grind
theorem Xzo:∀(a:List ai)(i:Nat),lS (eO a i)<=(a.map List.length).sum+3*a.length
 |[],i=>kn _
 |r::l,i=>by
  have e:=Xzo l (i+1);unfold eO;rw[lx,XeP,iq];cases b:iO r with
  |none=>grind
  |some g8 =>
   have d:g8.2.length<=r.length:=by
    unfold iO at b;dsimp only at b;split at b
    ·cases b
    ·cases b;have c:=ya r;have:=(VM _ (r.length+1) _ c).1
     grind
   show g8.2.length+3+lS _<=_;omega
def ic(s:ai):Nat × Nat × Int:=if(Xp s).2.2≠0 then((Xp s).1,(Xp s).2.1,((Xp s).2.2:Int))else pn (mY (lu s) gm)
def XbN(s:ai):Prop:=(Xp s).2.2=0->∀e,mY (lu s) gm=.error e->e.2.2≠0/\e.2.2≠5
def sP(s:ai):List Tn:=if(Xp s).2.2≠0 then BD else yL (mY (lu s) gm)
theorem XcN(hS:EO)(s:ai)(d:Nat)(m:aj):∃(f:List ae)(S:aj),TA (d+10) JN [sv s] m=some (.tuple ⟨[.agg ⟨f⟩,aZ (ic s).1 (ic s).2.1,.int .i64 (ic s).2.2]⟩,S)/\Fr [] m S/\XbN s/\f.length=12/\f.all one=true/\fK m.next S (sP s) f/\nI m.next S f/\nQ (sP s):=by
 rw[Xkc];generalize H:aD m m.next=G;have b8:G.next=m.next:=by rw[<-H];rfl
 generalize J:G.push (.cells Q8 0 0 false (some (2*iH+1)))=D;have b9:D.next=G.next+1:=by rw[<-J];rfl
 have F1:Fb m.next G D:=by rw[<-J];exact Fb.push _ aa
 have g1:D.get G.next=some (.cells Q8 0 0 false (some (2*iH+1))):=by rw[<-J,Mem.bV,ah rfl]
 generalize w:D.push (.cells Q2 0 0 false (some (2*Q7+1)))=F;have ba:F.next=D.next+1:=by rw[<-w];rfl
 have F2:Fb m.next G F:=by rw[<-w];exact F1.trans (Fb.push _ aa)
 have a9:F.get G.next=some (.cells Q8 0 0 false (some (2*iH+1))):=by rwa[<-w,Mem.bV,af aa]
 have ab:F.get D.next=some (.cells Q2 0 0 false (some (2*Q7+1))):=by rw[<-w,Mem.bV,ah rfl]
 have A2:jS F G.next D.next:=⟨aa,aa,aa,⟨_,_,a9,rfl⟩,⟨_,_,ab,rfl⟩⟩
 have hx:∃(f:List ae)(S:aj),Ee (d9 d) (sv s) G=some (.tuple ⟨[.agg ⟨f⟩,aZ (ic s).1 (ic s).2.1,.int .i64 (ic s).2.2]⟩,S)/\Fb m.next G S/\XbN s/\f.length=12/\f.all one=true/\fK m.next S (sP s) f/\nI m.next S f/\nQ (sP s):=by
  delta Ee U;simp only[Xq,X4,J,w];delta TL C Y U jg;unfold ic sP;by_cases o:(Xp s).2.2=0
  ·
   rw[af (λh=>h o),af (λh=>h o)];obtain⟨V,L,l,a1,a2,a3,a4⟩:=XoQ s o (d+5) F;have bb:=a4.next;have F3:=F2.trans (a4.iP aa);obtain⟨j,n1,W,n3,n4⟩:=kR [] V (some (2*Q7+1)) Q2 (v:=aZ 0 0) (n:=2) rfl rfl rfl;have F4:=F3.trans (W.iP aa);have en:bin .neq true true .int (I 0) (.int .i64 0)=some (.bool false):=bY;simp only[a1,X4,dy,dK,pz,X3,Xq,n1,Xj];delta JU O jo E jn jd B Y jl A;simp only[en,X3,X5];delta TM B U jy;have a7:Xc Q8 [(0,1),(1,1),(2,1),(3,1),(4,1),(5,1),(6,1),(7,1),(8,1),(9,1),(10,1),(11,1)] [(1,.int .u8 1)]=some (.agg ⟨[sv [],.int .u8 1,.slice _ 0 0,.slice _ 0 0,.slice _ 0 0,.slice _ 0 0,.slice _ 0 0,.slice _ 0 0,.slice _ 0 0,.slice _ 0 0,.slice _ 0 0,.slice _ 0 0]⟩):=aU rfl rfl;have a0:A4 j=(rM _,j.push _):=aU rfl rfl;generalize K:j.push _=p at a0;have bc:p.next=j.next+1:=by rw[<-K];rfl
   have g5:p.get j.next=some (.map [] 0):=by rw[<-K,Mem.bV,ah rfl]
   have F5:Fb m.next j p:=by rw[<-K];exact Fb.push _ aa
   have a8:Xc Qzk [(0,12),(12,1),(13,1),(14,1),(15,1),(16,1),(17,1)] [(0,.agg ⟨[sv [],.int .u8 1,.slice _ 0 0,.slice _ 0 0,.slice _ 0 0,.slice _ 0 0,.slice none 0 0,.slice none 0 0,.slice none 0 0,.slice _ 0 0,.slice _ 0 0,.slice _ 0 0]⟩),(3,rM _)]=some (.agg ⟨[sv [],.int .u8 1,.slice none 0 0,.slice none 0 0,.slice none 0 0,.slice none 0 0,.slice _ 0 0,.slice _ 0 0,.slice _ 0 0,.slice none 0 0,.slice none 0 0,.slice none 0 0,.nilFunc,sv [],rM j.next,.bool _,.bool _,I 0]⟩):=aU rfl rfl;have ec:(Value.cells (.agg _)).toList=[sv [],.int .u8 1,.slice none 0 0,.slice none 0 0,.slice none 0 0,.slice none 0 0,.slice none 0 0,.slice none 0 0,.slice none 0 0,.slice none 0 0,.slice none 0 0,.slice none 0 0,.nilFunc,sv [],rM j.next,.bool false,.bool false,I 0]:=rfl;simp only[a7,X3,a0,X4,a8];rw[ec,Xq];generalize z:p.push _=M;have bd:M.next=p.next+1:=by rw[<-z];rfl
   have al:M.get p.next=some (.cells [sv [],.int .u8 1,.slice none 0 0,.slice none 0 0,.slice none 0 0,.slice none 0 0,.slice none 0 0,.slice none 0 0,.slice none 0 0,.slice none 0 0,.slice none 0 0,.slice none 0 0,.nilFunc,sv [],rM j.next,.bool false,.bool false,I 0] 0 0 false (some (2*Qzl+1))):=by rw[<-z,Mem.bV,ah rfl]
   have ac:M.get j.next=some (.map [] 0):=by rwa[<-z,Mem.bV,af aa]
   have F6:Fb m.next G M:=by rw[<-z];exact(F4.trans F5).trans (Fb.push _ aa)
   have k6:∀b,b<V.next->M.get b=V.get b:=λb hb=>by rw[<-z,Mem.bV,af aa,<-K,Mem.bV,af aa];exact W.get b hb ar
   have a5:LI _ m.next _ _ 0 M (λk=>if k=[0]then⟨p.next,0,0⟩else⟨j.next,0,0⟩) gm:=XrG aa aa aa aa aa ac al;have av:s.length<=65536:=by
    rcases lT 65536 s.length with q|q
    ·unfold Xp at o
     grind
    ·exact q
   obtain⟨o1,o2,o3⟩:=VT 65536 _ 0 (λr hr=>by have:=xV 10 s r hr;omega);have b0:l.length=(lu s).length:=by rw[<-a3,gB]
   have o1:(lu s).length<=(split 10 s).length:=o1;have am:(split 10 s).length<=4097:=by
    have q:(lh s 1 1).2.2=0:=by unfold Xp at o;rwa[af aa]at o
    have:=Vu s 1 1 aa q;rw[AZ 10 s.length s aY];omega
   have aw:lS (lu s)<=80000:=by have X:=Xzo (split 10 s) 0;have q2:=Xlj 10 s;have q3:lS (lu s)=lS (eO (split 10 s) 0):=rfl;omega
   have O6:gv 0 M L l:={
    out:=λq=>by
     obtain⟨a,b,c',ty,g⟩:=a2.out q
     grind
    ls:=λP hy=>by obtain⟨⟨R,b2,b3,b4,ty,b5⟩,Z⟩:=a2.ls P hy;exact⟨⟨R,kn _,aa,b4,ty,aq⟩,Z⟩ }
   have A6:jS M G.next D.next:={
    l2:=aa
    l3:=aa
    ne:=aa
    g2:=by rw[k6 _ aa,a4.get _ aa ar];exact A2.g2
    g3:=by rw[k6 _ aa,a4.get _ aa ar];exact A2.g3 }
   have a6:∀k,bX false p.next j.next gm k≠none->((λk=>if k=[0]then⟨p.next,0,0⟩else⟨j.next,0,0⟩:ay) k).b=p.next\/((λk=>if k=[0]then⟨p.next,0,0⟩else⟨j.next,0,0⟩:ay) k).b=j.next:=λk o=>by grind
   have pr:∀b,(b=G.next\/b=D.next\/(l≠[]/\b=L.b)\/∃x∈l,b=x.2.b)->∀k,bX _ _ _ gm k≠none->((λk=>if k=[0]then⟨p.next,0,0⟩else⟨j.next,0,0⟩:ay) k).b≠b:=λb hb k o=>by
    have aB:b<V.next:=by
     rcases hb with rfl|rfl|⟨q,rfl⟩|⟨P,hy,rfl⟩
     ·omega
     ·omega
     ·exact(a2.out q).2.1
     ·exact(a2.ls P hy).1.2.2.1
    rcases a6 k o with e|e<;>rw[e]<;>omega
   have ⟨p1,p2⟩:=Xgu d L l aa (λP hy=>o3 P.1 (by show P.1∈lu s;rw[<-a3];exact M6 hy)) aa aa l.length 0 18446744073709551616 0 M _ gm aa aa aa a5 O6 A6 (by rw[mA,a3];omega) pr
   rw[mA,a3]at p1 p2;delta TN N A;simp only[dx,X3];cases hf:mY (lu s) gm with
   |error e =>have ⟨_,S,R,b2⟩:=p1 e hf;exact⟨Q8,S,R,F6.trans b2,λ_ e' T=>(p1 e' T).1,rfl,rfl,Bh _ _,VQ _ _,Wp⟩
   |ok i5 =>
    have ⟨S,bf,H1,R,b2,b3,b4,b5,Z⟩:=p2 i5 hf;have ⟨f,u,c1,c2,c3⟩:=Xsu hS d b3 aa (by have:=b2.next;omega) b4 aa aa Z;have hz:(pn (.ok i5)).1=0/\(pn (.ok i5)).2.1=0:=by unfold pn;dsimp only;split<;>exact⟨rfl,rfl⟩
    refine⟨f,u,?_,F6.trans (b2.trans c2),λ_ e' T=>(p1 e' T).1,c3.1,c3.2.1,c3.2.2.1,c3.2.2.2,XjT b3 aa λk y o=>aO (XoA hf k y o) aa⟩;rw[hz.1,hz.2];exact aU R c1
  ·rw[ah o,ah o];have a1:TA (d+9) _ _ F=_:=XoR s o _ F;obtain⟨V,n1,W,n3,n4⟩:=kR [] F (some (2*Q7+1)) Q2 (v:=aZ (Xp s).1 (Xp s).2.1) (n:=2) rfl rfl rfl;have F3:=F2.trans (W.iP aa);have A3:jS V G.next D.next:={
    l2:=aa
    l3:=aa
    ne:=aa
    g2:=by rw[W.get _ aa ar];exact A2.g2
    g3:=by rw[W.get _ aa ar];exact A2.g3 }
   obtain⟨j,p,R,b2,b3,b4,b5,Z,b7⟩:=vN (B:=m.next) A3 aa aa Q8 rfl rfl (Xp s).1 (Xp s).2.1;have en:bin .neq true true .int (I (Xp s).2.2) (.int .i64 0)=some (.bool true):=Zk;have eb:Xc _ [(0,1),(1,1),(2,1),(3,1),(4,1),(5,1),(6,1),(7,1),(8,1),(9,1),(10,1),(11,1)] []=some zD:=aU rfl rfl;have l3:X9 _ 2 _ V=some (aZ _ _):=Xw n4 (by show 2≤2;simp) rfl;have l4:X9 _ 2 (pt F.next 0 0) j=some (aZ _ _):=Xw (by rwa[Z _ aa]) (by show 2≤2;simp) rfl;have ag:∀mm,again (aI (some (aZ _ _)) mm) (aZ _ _)=true:=λmm=>by show fN 8 (aZ (Xp s).1 (Xp s).2.1) (aZ (Xp s).1 (Xp s).2.1)=true;simp[fN,fN.vsames]
   refine⟨Q8,p,?_,F3.trans b5,λq=>absurd q o,rfl,rfl,Bh _ _,VQ _ _,Wp⟩;simp only[a1,X4,dy,dK,pz,X3,Xq,n1,Xj];delta JU O jo E jn jd B Y jl A;simp only[en,X3,X6,eb,l3,R,Xj,l4,ag,fO,Xv,b2,b3,b4];rfl
 obtain⟨f,S,e1,e2,e3,e4,e5,e6,eD,e7⟩:=hx;rw[<-H]at e1 e2;cases hv:refs m.next 8 (.tuple ⟨[.agg ⟨f⟩,aZ (ic s).1 (ic s).2.1,.int .i64 (ic s).2.2]⟩)with
 |true =>
  obtain⟨u,X,q2,q3⟩:=Xw7 e1 (Fb.oP e2);have Q:∀P∈f,refs m.next 6 P=true:=by have:((f.all (refs m.next 6))&&_)=true:=hv;rw[bT]at this;exact cL.mp this.1
  exact⟨f,u,by rwa[H]at X,q2,e3,e4,e5,e6.none u Q,Xph λy v ho hv=>eD.none (Q v (jO hv)) ho hv,e7⟩
 |false =>have ⟨u,X,q2,q3,q4⟩:=A7 e1 (Fb.oP e2) hv;exact⟨f,u,by rwa[H]at X,q2,e3,e4,e5,⟨e6.1,λi t c hi hc=>(e6.2 i t c hi hc).same (oT q3.symm) q4⟩,eD.same q4,e7⟩
def ft:ai->Nat->Nat->Nat × Nat
 |[],l,k=>(l,k)
 |c::r,l,k=>if c.toNat=10 then ft r (l+1) 1 else ft r l (k+1)
theorem KS(a:UInt8):∀(u:ai)(l k:Nat),ft (u++[a]) l k=if a.toNat=10 then((ft u l k).1+1,1)else((ft u l k).1,(ft u l k).2+1)
 |[],l,k=>rfl
 |c::r,l,k=>by
  show(if c.toNat=10 then ft (r++[a]) _ 1 else ft (r++[a]) l _)=if a.toNat=10 then((if c.toNat=10 then ft r _ 1 else ft r l _).1+1,1)else((if c.toNat=10 then ft r _ 1 else ft r l _).1,(if c.toNat=10 then ft r _ 1 else ft r l _).2+1)
  split
  ·exact KS a r _ _
  ·exact KS a r _ _
theorem Ly:∀(u:ai)(l k:Nat),(ft u l k).1<=l+u.length/\(ft u l k).2<=k+1+u.length
 |[],l,k=>by unfold ft;simp
 |c::r,l,k=>by
  unfold ft;have a:=Ly r (l+1) 1;have b:=Ly r l (k+1)
  grind
theorem sW(n:Nat)(hn:n<=4194304):bin .add true true .int (I n) (.int .i64 1)=some (I (n+1:Nat)):=by rw[cz];have:((n):Int)+1=((n+1:Nat)):=aa;rw[this,wrap64 _ aa]
theorem eh.XrR{m:aj}{b a c:Nat}(h:eh m b a c)(hB:B<=b)(d:Nat):∃S,Xe 1 (pt b 0 0) (I d) m=some S/\eh S b d c/\Fb B m S/\∀e,e≠b->S.get e=m.get e:=by obtain⟨ty,h⟩:=h;obtain⟨S,i,f⟩:=iJ (y:=0) (n:=1) (v:=I d) (c':=[I d,I c]) h rfl c7 ar rfl rfl;exact⟨S,i,⟨ty,by rw[f.get,Mem.aX,ah rfl]⟩,((Fb.refl B m).put _ hB).jL f,λe g=>by rw[f.get,Mem.aX,af (bq g)]⟩
theorem qq(a:UInt8)(n:Nat)(g8:Bool):bin .eql g8 true .int (.int .u8 (a.toNat:Int)) (.int .u8 (n:Int))=some (.bool (decide (a.toNat=n))):=by rw[dI];congr 2;rw[gW];omega
theorem XcF(M':Gt)(s:ai)(i b c B:Nat)(a:b≠c)(o:B<=b)(w:B<=c)(G:s.length<=65536)(hi:i<=s.length):∀(n k f:Nat)(m:aj) (x g8:Nat),k+n=i->n<f->eh m b (ft (s.take k) 1 1).1 (ft (s.take k) 1 1).2->eh m c x g8 ->
  ∃S,xC M' f (I k) (I i) (pt b 0 0) (sv s) (pt c 0 0) m=some (aZ (ft (s.take i) 1 1).1 (ft (s.take i) 1 1).2,S)/\Fb B m S
 |0,k,f+1,m,x,g8,e,hf,h,l=>by obtain⟨S,r,j,p,_⟩:=l.put w (ft (s.take i) 1 1).1 (ft (s.take i) 1 1).2;refine⟨S,?_,p⟩;have e:k=i:=e;subst e;unfold xC;delta Ts E jd B jl ji;have e1:bin .lss false true .int (I k) (I k)=some (.bool false):=Zi;simp only[e1,X3,X5,h.l2,r,Xj,j.l2];rfl
 |n+1,k,f+1,m,x,g8,e,hf,h,l=>by
  have y:k<s.length:=aa;have H:s.take (k+1)=s.take k++[s[k]]:=(Nh y).symm;have e1:bin .lss false true .int (I k) (I i)=some (.bool true):=Zj;have D:=Ly (s.take k) 1 1;have tl:(s.take k).length<=s.length:=List.length_take_le' _ _;have d:=KS s[k] (s.take k) 1 1;rw[<-H]at d;generalize R:ft _ 1 1=A at D d h;have step:∀S,eh S b (ft (s.take (k+1)) 1 1).1 (ft (s.take (k+1)) 1 1).2->eh S c x g8->∃q,JA M' (xC M' f) (I k) (I i) (pt b 0 0) (sv s) (pt c 0 0) S=some (aZ (ft (s.take i) 1 1).1 (ft (s.take i) 1 1).2,q)/\Fb B S q:=λS P Q=>by delta JA B ja A;simp only[sW k aa,X3];exact XcF M' s i b c B a o w G hi n (k+1) f S x g8 aa aa P Q
  unfold xC;delta Quc F E B ja jk jf A ji;obtain⟨J,r,j,p,z⟩:=h.YH o (A.2+1);simp only[e1,X3,X6,X7,aQ,h.l1,sW A.2 aa,r,Xj,iu s .i64 k y,qq s[k] 10 true];by_cases g:s[k].toNat=10
  ·obtain⟨q,N,p2,V,O⟩:=j.XrR o (A.1+1);obtain⟨C,u,K,L,M⟩:=p2.YH o 1;rw[ah g]at d;obtain⟨t,v,r2⟩:=step C (by rw[d];exact K) (((l.ne (z c (bq a))).ne (O c (bq a))).ne (M c (bq a)));refine⟨t,?_,p.trans (V.trans (L.trans r2))⟩;have u:Xe 1 _ (.int _ 1) q=some C:=u;have e2:=qq s[k] 10 true;rw[bj g]at e2;have e2:bin _ _ _ _ _ (.int .u8 10)=some _:=e2;simp only[e2,X3,X6,j.l0,sW A.1 aa,N,Xj,u];exact v
  ·rw[af g]at d;obtain⟨t,v,r2⟩:=step J (by rwa[d]) (l.ne (z c (bq a)));refine⟨t,?_,p.trans r2⟩;have e2:=qq s[k] 10 true;rw[bJ g]at e2;have e2:bin _ _ _ _ _ (.int .u8 10)=some _:=e2;simp only[e2,X3,X5];exact v
theorem XoY(s:ai)(o:s.length<=65536)(i:Nat)(hi:i<=s.length)(d:Nat)(m:aj):TA (d+1) D0 [sv s,I i] m=some (aZ (ft (s.take i) 1 1).1 (ft (s.take i) 1 1).2,m):=by
 rw[Xdc];generalize c:aD m m.next=G;have l:G.next=m.next:=by rw[<-c];rfl
 generalize a:G.push (.cells Q2 0 0 false (some (2*Q7+1)))=e;generalize b:e.push (.cells Q2 0 0 false (some (2*Q7+1)))=f;have n:e.next=G.next+1:=by rw[<-a];rfl
 have g:Fb m.next G f:=by rw[<-b,<-a];exact(Fb.push _ aa).trans (Fb.push _ (by show _<=G.next+1;omega))
 have j:eh f e.next 0 0:=⟨_,by rw[<-b,Mem.bV,ah rfl];rfl⟩
 have h:eh f G.next 0 0:=⟨some (2*Q7+1),by rw[<-b,Mem.bV,af aa,<-a,Mem.bV,ah rfl];rfl⟩
 obtain⟨u,p,q,r,t⟩:=j.put (B:=m.next) aa 1 1;obtain⟨x,v,w⟩:=XcF (aH d) s i e.next G.next m.next aa aa aa o hi i 0 18446744073709551616 u 0 0 aa aa q (h.ne (t _ aa));have k:Xc Q2 [(0,1),(1,1)] [(0,.int _ 1),(1,.int _ 1)]=some (aZ 1 1):=aU rfl rfl;rw[<-c]at g;refine cD ?_ (g.trans (r.trans w)) rfl
 try rw[c]
 delta D4 Tt B Y U A;simp only[k,X3,Xq,a,b];simp only[p,Xj];exact v
theorem Xg1(d:Nat)(s:ai)(c:Nat)(z:s.length<=65536):∀(n k f l a:Nat)(m:aj) (x g8:Nat),k+n=s.length->n<f->ft (s.take k) 1 1=(l,a)->eh m c x g8 ->
  ∃S,xk (aH (d+1)) f (I k) (sv s) (I l) (pt c 0 0) m=some (uI (lh (s.drop k) l a),S)/\Fb c m S
 |0,k,f+1,l,a,m,x,g8,e,hf,u,o=>by obtain⟨S,p,r,t,_⟩:=o.put (c6 c) 0 0;refine⟨S,?_,t⟩;have e:k=s.length:=e;subst e;rw[FY];unfold xk;delta RE E B N jl A ji;have e1:bin .lss false true .int (I s.length) (I s.length)=some (.bool false):=Zi;have K:Xc Q2 [(0,1),(1,1)] []=some (aZ 0 0):=aU rfl rfl;simp only[dw,e1,X3,X5,K,p,Xj,r.l2];trivial
 |n+1,k,f+1,l,a,m,x,g8,e,hf,u,o=>by
  have v:k<s.length:=aa;have M:s.take _=s.take k++[s[k]]:=(Nh v).symm;have F:=Ly (s.take k) 1 1;have tl:(s.take k).length<=s.length:=List.length_take_le' _ _;have b:=KS s[k] (s.take k) 1 1;rw[<-M]at b;have g:TA (d+1) D0 [sv s,I k] m=some (aZ l a,m):=by rw[XoY s z k aa d m,u]
  rw[u]at F b;have e1:bin .lss false true .int (I k) (I s.length)=some (.bool true):=Zj;have e2:bin .gtr true true .int (I l) (.int .i64 4096)=some (.bool (decide (4096<l))):=Cp;have G:=iu s .i64 k v;have H:bin _ _ _ _ _ (.int .u8 10)=some _:=qq s[k] 10 true;have e5:bin .lss true true .int (.int .u8 (s[k].toNat)) (.int .u8 32)=some (.bool (decide (s[k].toNat<32))):=Nt;have J:bin .gtr true true .int (.int .u8 (s[k].toNat)) (.int .u8 126)=some (.bool (decide (126<s[k].toNat))):=Cp;obtain⟨S,p,r,t,_⟩:=o.put (c6 c) l a;rw[mB v];have step:∀y w,ft _ 1 1=(y,w)->∃D,IQ (aH (d+1)) _ (I k) _ _ _ m=some (uI _,D)/\Fb c m D:=λy w q=>by delta IQ B ja A;simp only[sW k aa,X3];exact Xg1 d s c z n (k+1) f y w m x g8 aa aa q o
  unfold xk;delta Qpn C E B N jl A ji;unfold lh;simp only[dw,e1,X3,X6,e2];by_cases i:4096<l
  ·rw[bj i,X6,ah i];refine⟨S,?_,t⟩;simp only[g,X4,p,Xj,r.l2];rfl
  ·rw[bJ i,X5,af i];delta Qpo Qpp L E B ja jk A jh;simp only[G,X3,H];by_cases g2:s[k].toNat=10
   ·rw[ah g2]at b;rw[bj g2,X6,ah g2];simp only[sW l aa,X3];exact step _ _ b
   ·rw[af g2]at b;rw[bJ g2,X5,af g2];have fin:∃S,DB (aH (d+1)) (xk (aH (d+1)) f) (.bool true) (sv s) (I k) (pt c 0 0) (I l) m=some (uI (l,a,70),S)/\Fb c m S:=by
     refine⟨S,?_,t⟩;delta DB C L jl A;rw[X6];simp only[g,X4,p,Xj,r.l2];exact MI _ _ _
    simp only[X3,e5];by_cases g3:s[k].toNat<32
    ·rw[bj g3,X6,ah (.inl g3)];exact fin
    ·rw[bJ g3,X5];simp only[X3,J];by_cases j:126<s[k].toNat
     ·rw[bj j,ah (.inr j)];exact fin
     ·rw[bJ j,af (λh=>h.elim g3 j)];delta DB C L jl A;rw[X5];exact step _ _ b
theorem XqA(s:ai)(d:Nat)(m:aj):TA (d+2) HU [sv s] m=some (uI (Xp s),m):=by
 rw[Xa5];generalize b:aD m _=G;have f:G.next=m.next:=by rw[<-b];rfl
 generalize a:G.push (.cells Q2 0 0 false (some (2*Q7+1)))=e;have i:Fb m.next G e:=by rw[<-a];exact Fb.push _ aa
 have j:eh e _ 0 0:=⟨_,by rw[<-a,Mem.bV,ah rfl];rfl⟩
 have key:∃S,Dv (aH (d+1)) (sv s) G=some (uI (Xp s),S)/\Fb G.next e S:=by
  delta Dv RF E B N jl U A;unfold Xp;rw[Xq]
  try rw[X4]
  rw[a];have e1:bin .gtr true true .int (.int .i64 (s.length:Int)) (.int .i64 65536)=some (.bool (decide (65536<s.length))):=Cp;simp only[dw,X3,e1];by_cases g:65536<s.length
  ·rw[bj g,X6,ah g];obtain⟨S,h,c,l,_⟩:=j.put aY 0 0;refine⟨S,?_,l⟩;have k:Xc Q2 [(0,1),(1,1)] []=some (aZ 0 0):=aU rfl rfl;simp only[k,X3,h,Xj,c.l2];trivial
  ·rw[bJ g,X5,af g];have q:=Xg1 d s _ aa _ 0 18446744073709551616 1 1 e 0 0 (aQ _) aa (show ft [] 1 1=(1,1) from rfl) j;assumption
 obtain⟨S,h,c⟩:=key;rw[f]at c;rw[<-b]at i;exact cD h (i.trans c) rfl
theorem drop_at{c:UInt8}(b:p<=i)(h:i<H.length)(a:H[i]=c):H.drop p=(H.take i).drop p++c::H.drop (i+1):=by
 have e1:H=H.take i++c::H.drop (i+1):=by rw[<-a,<-mB h,List.take_append_drop]
 grind
theorem XgB(c:p<=i)(hi:i<=H.length)(a:(32:UInt8)∉(H.take i).drop p)(b:∀h:i<H.length,H[i]=32):(eZ 32 (H.drop p)).1=(H.take i).drop p/\(eZ 32 (H.drop p)).2.1=H.drop (i+1):=by
 unfold eZ;by_cases h:i<H.length
 ·rw[drop_at c h (b h),vP _ a];simp
 ·have e:i=H.length:=by omega
  subst e;rw[tJ]at a|-;rw[ES a,wK (by omega:H.length<=H.length+1)];simp
def im(H:ai)(i:Nat):Option Nat->ai
 |none=>cZ (H.drop i)
 |some p=>H.drop p
def rJ:Option Nat->ae
 |none=>I (-1)
 |some p=>I p
def Zt(H:ai)(i:Nat)(fr:Option Nat):Prop:=∀p,fr=some p->p<i/\i<=H.length/\(32:UInt8)∉(H.take i).drop p
theorem Xtc(h:i<H.length):cZ (H.drop i)=if H[i]=32 then cZ (H.drop (i+1))else H.drop i:=by
 unfold cZ;rw[mB h,zm];unfold isSp;by_cases q:H[i]=32
 ·rw[ah q,ah (bj q)]
 ·rw[af q,af (λe=>q (aT e))]
def qu(H tl:ai)(ws:List Wd)(ind:Nat):Nat:=if ws≠[]then ind else if tl=[]then ind else H.length-tl.length
theorem Xg6(M':Gt)(H:ai)(J:H.length<=65536)(ln bl x:Nat):∀(n i f F:Nat)(fr:Option Nat) (ind:Nat) (ws:List Wd) (L:Lc) (m:aj),i+n=H.length+1->n<f->Zt H i fr->(im H i fr).length<F->ws.length<=i ->
  (∃ty,m.get bl=some (.cells [I ind,ax L ws.length 3] 0 0 false ty))->bl<m.next->nT (bl+1) m ln L ws ->
  ∃S j,tW M' f (I i) (sv H) (rJ fr) (pt bl 0 0) (I ln) (pt x 0 0) m=xm M' (pt bl 0 0) (pt x 0 0) S /\
   (∃ty,S.get bl=some (.cells [I (qu H (im H i fr) ws ind),ax j (ws++eV H.length F (im H i fr)).length 3] 0 0 false ty))/\nT (bl+1) S ln j (ws++eV H.length F (im H i fr))/\Fb bl m S
 |0,i,f+1,F+1,fr,ind,ws,L,m,e,hf,u,z,W,r,T,s=>by
  have hn:fr=none:=by
   cases fr with
   |none=>rfl
   |some p=>have:=u p rfl;omega
  subst hn;have v:im H i none=[]:=by show cZ (H.drop i)=[];rw[wK aa];rfl
  rw[v];unfold eV qu;rw[ah rfl,ah rfl,lC,pN];refine⟨m,L,?_,r,s,.refl _ _⟩;unfold tW;delta E B N;have e1:bin .leq false true .int (I i) (.int .i64 (H.length:Int))=some (.bool false):=by rw[kx,bJ aa]
  simp only[dw,e1,X3,X5]
 |n+1,i,f+1,F+1,fr,ind,ws,L,m,e,hf,u,z,W,r,T,s=>by
  have hi:i<=H.length:=aa;have e1:bin .leq false true .int (I i) (.int .i64 (H.length:Int))=some (.bool true):=by rw[kx,bj aa]
  have next:∀(l:Option Nat)(d:Nat) (o:List Wd) (j:Lc) (O:Nat) (k:aj),Zt H (i+1) l->(im H (i+1) l).length<O->o.length<=i+1->(∃ty,k.get bl=some (.cells [I d,ax j o.length 3] 0 0 false ty))->nT (bl+1) k ln j o->Fb bl m k ->
    o++eV H.length O (im H (i+1) l)=ws++eV H.length (F+1) (im H i fr)->qu H (im H (i+1) l) o d=qu H (im H i fr) ws ind ->
    ∃S j,DO M' (tW M' f) (I i) (sv H) (rJ l) (pt bl 0 0) (I ln) (pt x 0 0) k=xm M' (pt bl 0 0) (pt x 0 0) S /\
     (∃ty,S.get bl=some (.cells [I (qu H (im H i fr) ws ind),ax j (ws++eV H.length (F+1) (im H i fr)).length 3] 0 0 false ty))/\nT (bl+1) S ln j (ws++eV H.length (F+1) (im H i fr))/\Fb bl m S:=λl d o j O k a b c g w t hw D=>by
   have:=t.next;have ⟨S,Q,q1,Z,q3,q4⟩:=Xg6 M' H J ln bl x n (i+1) f O l d o j k aa aa a b c g aa w;rw[hw]at Z q3;rw[D]at Z;refine⟨S,Q,?_,Z,q3,t.trans q4⟩;delta DO B ja A;simp only[sW i aa,X3];exact q1
  have blank:(∀h:i<H.length,H[i]=32)->∃S j,DC M' (tW M' f) (.bool false) (rJ fr) (I i) (sv H) (pt bl 0 0) (I ln) (pt x 0 0) m=xm M' (pt bl 0 0) (pt x 0 0) S /\
     (∃ty,S.get bl=some (.cells [I (qu H (im H i fr) ws ind),ax j (ws++eV H.length (F+1) (im H i fr)).length 3] 0 0 false ty))/\nT (bl+1) S ln j (ws++eV H.length (F+1) (im H i fr))/\Fb bl m S:=λhb=>by
   delta DC Qpq Qpr F L E B N jk jf A;cases fr with
   |none =>
    have e2:bin .geq true true .int (rJ none) (.int .i64 0)=some (.bool false):=rfl;have v:im H (i+1) none=im H i none:=by
     show cZ (H.drop (i+1))=cZ (H.drop i);by_cases h:i<H.length
     ·rw[Xtc h,ah (hb h)]
     ·rw[wK aa,wK aa]
    exact next none ind ws L (F+1) m (λp q=>by cases q) (by rwa[v]) aa r s (.refl _ _) (by rw[v]) (by rw[v])
   |some p =>
    obtain⟨p1,p2,V⟩:=u p rfl;have e2:bin .geq true true .int (rJ (some p)) (.int .i64 0)=some (.bool true):=by show bin .geq true true .int (.int .i64 (p:Int)) (.int .i64 0)=_;rw[sF,bj aa]
    simp only[e2,X3,X6];have ⟨c1,c2⟩:=XgB (Nat.le_of_lt p1) hi V hb;have G:H.drop p≠[]:=λq=>by have:=jQ List.length q;simp at this;omega
    have U:(im H (i+1) none).length<F:=by have:=ya (H.drop (i+1));have z:(H.drop p).length<F+1:=z;rw[tE]at this z;show(cZ (H.drop (i+1))).length<F;omega
    have X:eV H.length (F+1) (im H i (some p))=((H.take i).drop p,p+1)::eV H.length F (im H (i+1) none):=by show eV H.length (F+1) (H.drop p)=_;rw[eV,af G,c1,c2,tE,show H.length-(H.length-p)=p by omega];rfl
    obtain⟨M,C⟩:=r;have ld:X9 false 1 (pt bl 1 0) m=some (ax L ws.length 3):=Xt C rfl;have lk:=dx L ws.length 3 m;have R:bin .eql true true .int (.int .i64 (ws.length:Int)) (.int .i64 0)=some (.bool (decide (ws=[]))):=by rw[dI];congr 2;rw[gW,<-uZ];omega
    have put:∀(d:Nat)(k:aj),(∃ty,k.get bl=some (.cells [I d,ax L ws.length 3] 0 0 false ty))->nT (bl+1) k ln L ws->Fb bl m k->(d=if ws=[]then p else ind) ->
      ∃S j,H6 M' (tW M' f) (pt bl 0 0) (sv H) (rJ (some p)) (I i) (I ln) (pt x 0 0) k=xm M' (pt bl 0 0) (pt x 0 0) S /\
       (∃ty,S.get bl=some (.cells [I (qu H (im H i (some p)) ws ind),ax j (ws++eV H.length (F+1) (im H i (some p))).length 3] 0 0 false ty))/\nT (bl+1) S ln j (ws++eV H.length (F+1) (im H i (some p)))/\Fb bl m S:=λd k g w t D=>by
     have:=t.next;have ⟨m2,m3,m4,j,w0,w1,w2,w3,w4,w5,w6⟩:=Xpv D5 ((H.take i).drop p,p+1) g aa w aa;obtain⟨m5,L5,r1,r2⟩:=next none d (ws++[((H.take i).drop p,p+1)]) j F m4 (λp q=>by cases q) U cF w4 w5 (t.trans w6) (by rw[X,lV];rfl) (by
      unfold qu;rw[ah ar];rw[D];show _=if ws≠[]then ind else if H.drop p=[]then ind else H.length-(H.drop p).length;rw[af G,tE,show H.length-(H.length-p)=p by omega];by_cases q:ws=[]
      ·rw[ah q,af (λh=>h q)]
      ·rw[af q,ah q])
     refine⟨m5,L5,?_,r2⟩;delta H6 F B ja jm jf A;have s1:gH _ (some (rJ (some p))) _=some _:=KV H p i aa hi;have s2:bin _ _ _ _ (rJ (some p)) _=some _:=sW p aa;have s3:Xc Q2 [(0,1),(1,1)] [(0,I ln),(1,I _)]=some (aZ ln (p+1)):=aU rfl rfl;have s4:Xc xD [(0,1),(1,2)] [(0,sv ((H.take i).drop p)),(1,aZ ln (p+1))]=some _:=aU rfl rfl;have w0:X8 _ xD 3 1 [(0,.agg ⟨[sv ((H.take i).drop p),I ln,I (p+1:Nat)]⟩)] k=_:=w0;simp only[X7,X3,aQ,w1,s1,s2,s3,s4,w0,X4,w2,w3,Xj];exact r1
    simp only[X7,X3,aQ,ld,lk,R];by_cases q:ws=[]
    ·rw[bj q,X6];obtain⟨k,Y,k2,k3,k4,k5⟩:=VN (y:=0) C (I p) rfl rfl ar (c6 bl);have ⟨m2,L2,r1,r2⟩:=put p k ⟨M,k4⟩ (λh=>absurd q h) k2 (by rw[ah q]);refine⟨m2,L2,?_,r2⟩;have Y:Xe 1 _ (rJ (some p)) m=some k:=Y;simp only[Y,Xj];exact r1
    ·rw[bJ q,X5];exact put ind m ⟨M,C⟩ s (.refl _ _) aq
  unfold tW;delta Qps E B N jj ji;simp only[dw,e1,X3,X6];have e2:bin .lss false true .int (I i) (.int .i64 (H.length))=some (.bool (decide (i<H.length))):=Nt;simp only[e2,X3];by_cases h:i<H.length
  ·rw[bj h,X6];have R:bin .neq true true .int (.int .u8 (H[i].toNat)) (.int .u8 32)=some (.bool (decide (H[i]≠32))):=by
    rw[eg];congr 2;rw[gW,Ne,Ne,<-j3];show ¬((H[i].toNat:Nat):Int)=32↔¬H[i].toNat=32;omega
   simp only[iu H _ i h,R,X3];by_cases q:H[i]=32
   ·rw[bJ (λh=>h q)];exact blank (λ_=>q)
   ·rw[bj q];delta DC QX L E B A;have K:(H.take _)=H.take i++[H[i]]:=(Nh h).symm;cases fr with
    |none =>
     have e4:bin .lss true true .int (rJ none) (.int .i64 0)=some (.bool true):=rfl;have v:im H (i+1) (some i)=im H i none:=by show H.drop i=cZ (H.drop i);rw[Xtc h,af q]
     exact next (some i) ind ws L _ m (λp e=>by obtain rfl:=pM e;refine⟨aa,aa,?_⟩;rw[K,XeS vd,wK vd];simp[bq q]) (by rwa[v]) aa r s (.refl _ _) (by rw[v]) (by rw[v])
    |some p =>
     obtain⟨p1,p2,V⟩:=u p rfl;have e4:bin .lss true true .int (rJ (some p)) (.int .i64 0)=some (.bool false):=by show bin .lss true true .int (.int .i64 (p:Int)) (.int .i64 0)=_;rw[Qb,bJ aa]
     exact next _ ind ws L _ m (λp' e=>by obtain rfl:=pM e;refine⟨aa,aa,?_⟩;rw[K,XeS vd,nH];exact λh=>h.elim V (by simp[bq q])) z aa r s (.refl _ _) rfl rfl
  ·rw[bJ h,X5];exact blank (λg=>absurd g h)
theorem KM:∀r:ai,cZ r=[]\/∃a l,cZ r=a::l/\a≠32
 |[]=>.inl rfl
 |a::l=>by
  unfold cZ;rw[zm];unfold isSp;by_cases h:a=32
  ·rw[ah (bj h)];exact KM l
  grind
theorem Xpd{a:UInt8}{l:ai}(h:a≠32):∃x g8 r,eV n (f+1) (a::l)=(a::x,g8)::r:=by
 rw[eV,af ar];unfold eZ;cases c:cut 32 (a::l)with
 |none=>simp
 |some q =>
  obtain⟨e,_⟩:=Bu c;obtain⟨x,g8⟩:=q;cases x with
  |nil=>exact absurd (List.cons.inj e).1 h
  |cons b x =>rw[(List.cons.inj e).1];simp
def fW(H:ai):List Wd:=eV H.length (H.length+1) (cZ H)
theorem XqN(H:ai)(w:H.length<=65536)(ln d:Nat)(m:aj):∃S L,∃ind:Nat,TA (d+1) PY [sv H,I ln] m=some (.agg ⟨[I ind,ax L (fW H).length 3]⟩,S)/\nT (m.next+1) S ln L (fW H)/\Fb m.next m S/\(cZ H≠[]->ind=H.length-(cZ H).length):=by
 rw[Xa8];generalize u:aD m m.next=G;have Q:G.next=m.next:=by rw[<-u];rfl
 generalize g:G.push (.cells ua 0 0 false (some (2*ub+1)))=i;generalize f:i.push (.cells ua 0 0 false (some (2*ub+1)))=l;have R:i.next=G.next+1:=by rw[<-g];rfl
 have T:l.next=i.next+1:=by rw[<-f];rfl
 have N:Fb m.next G l:=by rw[<-f,<-g];exact(Fb.push _ aa).trans (Fb.push _ (by show _<=G.next+1;omega))
 have P:∃ty,l.get i.next=some (.cells [I (0:Nat),ax ⟨0,0,0⟩ ([]:List Wd).length 3] 0 0 false ty):=⟨_,by rw[<-f,Mem.bV,ah rfl];rfl⟩
 have O:l.get G.next=some (.cells ua 0 0 false (some (2*ub+1))):=by rw[<-f,Mem.bV,af aa,<-g,Mem.bV,ah rfl]
 have W:=ya H;obtain⟨o,L,q1,⟨ty,B⟩,E,r⟩:=Xg6 (aH d) H w ln i.next G.next (H.length+1) 0 18446744073709551616 (H.length+1) none 0 [] ⟨0,0,0⟩ l (aQ _) aa (λp e=>by cases e) (by show(cZ H).length<_;omega) aY P aa (λq=>absurd rfl q);rw[my]at B E;have B:o.get i.next=some (.cells [I (qu H (cZ H) [] 0),ax L (fW H).length 3] 0 0 false ty):=B;have E:nT (i.next+1) o ln L (fW H):=E;have j:cZ H≠[]->qu H (cZ H) [] 0=H.length-(cZ H).length:=λh=>by unfold qu;rw[af (λh=>h rfl),af h]
 generalize qu H (cZ H) [] 0=ind at B j;have hw:(ax L (fW H).length 3).cells=#[ax L (fW H).length 3]:=zq;obtain⟨z,Y,D⟩:=iJ (y:=0) (n:=2) (v:=.agg ⟨[I ind,ax L (fW H).length 3]⟩) (c':=[I ind,ax L (fW H).length 3]) ((r.get G.next aa).trans O) rfl c7 aW (by show(one (I ind)&&(one (ax L (fW H).length 3)&&true))=true;rw[nX];rfl) rfl;have l3:X9 true 2 (pt i.next 0 0) o=some (.agg ⟨[I ind,ax L (fW H).length 3]⟩):=Xw B ar rfl;have Z:X9 true 2 (pt G.next 0 0) z=some (.agg ⟨[I ind,ax L (fW H).length 3]⟩):=Xw (by rw[D.get,Mem.aX,ah rfl]) ar rfl;have V:z.next=o.next:=by rw[D.next,Mem.ij]
 have F:Fb m.next G z:=N.trans (({ next:=r.next,low:=r.low,bQ:=λx a b=>r.bQ x a aa,get:=λb hb=>r.get b aa,lo:=r.lo }:Fb m.next l o).trans (((Fb.refl m.next o).put _ aa).jL D))
 have M:Dw (aH d) (sv H) (I ln) G=some (.agg ⟨[I ind,ax L (fW H).length 3]⟩,z):=by delta Dw RG RH RI RJ U A;rw[Xq,g,Xq,f];refine aU q1 ?_;delta xm jd jl;simp only[l3,X3,Y,Xj,Z];rfl
 have J:nT (m.next+1) z ln L (fW H):=λh=>by obtain⟨a,b,c,ty,e⟩:=E h;exact⟨aa,aa,c,ty,by rw[D.get,Mem.aX,af aa];exact e⟩
 rw[<-u]at F;by_cases C:fW H=[]
 ·refine⟨m,L,ind,?_,λh=>absurd C h,.refl _ _,j⟩;refine cD M F ?_;rw[C];rfl
 ·have t:(fW H).length≠0:=λe=>C (oQ e);obtain⟨a,b,c,K,e⟩:=J C;have X:refs m.next 8 (.agg ⟨[I ind,ax L (fW H).length 3]⟩)=false:=by
   have s:=A5 (L:=L) (n:=(fW H).length) (k:=m.next) (sz:=3) t aa;unfold ax at s|-;rw[af t]at s|-;have s:Nat.blt L.b m.next=false:=s;show(Nat.blt L.b m.next&&true)=false;rw[s];rfl
  obtain⟨m6,o1,o2,o3,o4⟩:=A7 M (Fb.oP F) X;exact⟨m6,L,ind,o1,λ_=>⟨a,aa,c,K,aq⟩,Fr.iP o2 aY,j⟩
theorem U3(d:Nat)(s:ai)(hs:s.length<=65536)(B V:Nat):∀(n i f o k:Nat)(l:List (Ln × Lc)) (L:Lc) (m:aj),i+n=s.length+1->n<f->o<=i->(10:UInt8)∉(s.take i).drop o->k<=i->l.length<=i->B<=m.next->gv B m L l ->
  ∃S t j,vm (aH (d+1)) f (I i) (sv s) (I o) (I (k+1:Nat)) (ax L l.length 2) (pt V 0 0) m=Al (aH (d+1)) (ax t j.length 2) (pt V 0 0) S/\gv B S t j/\j.map (·.1)=l.map (·.1)++(if i<=s.length then eO (split 10 (s.drop o)) k else[])/\Fb B m S
 |0,i,f+1,o,k,l,L,m,e,hf,_,_,_,_,hB,G=>by
  have e:i=s.length+1:=e;refine⟨m,L,l,?_,G,aq,.refl _ _⟩;unfold vm;delta E B N;have e1:bin .leq false true .int (I i) (.int .i64 (s.length))=some (.bool false):=by rw[kx,bJ aa]
  simp only[dw,e1,X3,X5]
 |n+1,i,f+1,o,k,l,L,m,e,hf,K,y,hk,hl,hB,G=>by
  have hi:i<=s.length:=aa;have e1:bin .leq false true .int (I i) (.int .i64 (s.length))=some (.bool true):=by rw[kx,bj aa]
  have e2:bin .lss false true .int (I i) (.int .i64 (s.length:Int))=some (.bool (decide (i<s.length))):=Nt;rw[ah hi]
  have H:(∀h:i<s.length,s[i]=10)->∃S t j,QY (aH (d+1)) (vm (aH (d+1)) f) (sv s) (I o) (I i) (I (k+1:Nat)) (ax L l.length 2) (pt V 0 0) m=Al (aH (d+1)) (ax t j.length 2) (pt V 0 0) S/\gv B S t j/\j.map (·.1)=l.map (·.1)++eO (split 10 (s.drop o)) k/\Fb B m S:=λhb=>by
   generalize M:(s.take i).drop o=r at y;have a2:r.length<=65536:=by rw[<-M,tE,kl];omega
   have a4:eO (split 10 (s.drop o)) k=eO [r] k++(if i+1<=s.length then eO (split 10 (s.drop (i+1))) (k+1)else[]):=by
    have hc:∀R,eO (r::R) k=eO [r] k++eO R (k+1):=λR=>by
     show(match iO r with|some x=>⟨x.1,k+1,x.2⟩::eO R (k+1)|none=>eO R (k+1))=(match iO r with|some x=>[⟨x.1,k+1,x.2⟩]|none=>[])++eO R (k+1)
     cases iO r<;>rfl
    by_cases h:i<s.length
    ·rw[drop_at K h (hb h),M,Xvd _ y,ah (show i+1<=s.length from h),hc]
    ·have:i=s.length:=by omega
     subst this;rw[tJ]at M;rw[M,Xu0 y,af aa,lC]
   have next:∀(j:List (Ln × Lc)) (t:Lc) (S:aj),Fb B m S->j.length<=i+1->gv B S t j->j.map (·.1)=l.map (·.1)++eO [r] k ->
     ∃c D l2,H7 (aH (d+1)) (vm (aH (d+1)) f) (I i) (I (k+1:Nat)) (sv s) (ax t j.length 2) (pt V 0 0) S=Al (aH (d+1)) (ax D l2.length 2) (pt V 0 0) c/\gv B c D l2/\l2.map (·.1)=l.map (·.1)++eO (split 10 (s.drop o)) k/\Fb B m c:=λj t S hF a0 X hm=>by
    have hn:=hF.next;obtain⟨c,D,l2,q1,T,q3,q4⟩:=U3 d s hs B V n (i+1) f (i+1) (k+1) j t S aa aa aY (by rw[wK vd];simp) aa a0 aa X;refine⟨c,D,l2,?_,T,aq,hF.trans q4⟩;delta H7 H8 B ja A;simp only[sW i aa,sW (k+1) aa,X3];exact q1
   obtain⟨m1,p,ind,w1,w2,w3,w4⟩:=XqN r a2 (k+1) d m;have a1:=w3.next;have a6:(ax p (fW r).length 3).cells=#[ax p (fW r).length 3]:=zq;obtain⟨c,n1,n2,n3,n4⟩:=kR [] m1 (some (2*ub+1)) ua (v:=.agg ⟨[I ind,ax p _ 3]⟩) (n:=2) rfl rfl (by show(one (I ind)&&(one (ax p (fW r).length 3)&&true))=true;rw[nX];rfl);have u:=w3.trans (n2.iP a1);have FB:Fb B m c:={ next:=u.next,low:=u.low,bQ:=λx a b=>u.bQ x a aa,get:=λb hb=>u.get b aa,lo:=u.lo }
   have J:=G.push u.next u.get;have l1:X9 _ 1 (pt _ 1 0) c=some _:=Xt n4 rfl;have l2:X9 _ 2 _ c=some (.agg ⟨[I ind,ax p _ 3]⟩):=Xw n4 (by show 2≤2;simp) rfl;have skip:iO r=none->eO [r] k=[]:=λh=>by unfold eO;rw[h];rfl
   have e4:bin .gtr true true .int (.int .i64 ((fW r).length)) (.int .i64 0)=some (.bool (decide (fW r≠[]))):=by rw[iT];congr 2;rw[gW,Ne,<-uZ];omega
   delta QY Qp1 QZ C F L E jd B N Y U jb jj jm A;have O:=KV s o i K hi;rw[M]at O;simp only[O,X3,w1,X4,Xq,n1,Xj,X7,l1,dx,e4];by_cases P:cZ r=[]
   ·have hw:fW r=[]:=by unfold fW;rw[P];rfl
    rw[bJ (λh=>h hw),X5,X5];have z:iO r=none:=by unfold iO;exact ah (.inl P)
    exact next l L c FB aa J aq
   ·obtain⟨a,x,ha,Z⟩:=(KM r).resolve_left P;obtain⟨x1,y1,W,Q⟩:=Xpd (n:=r.length) (f:=r.length) (l:=x) Z;have Q:fW r=(a::x1,y1)::W:=by unfold fW;rwa[ha]
    have w:fW r≠[]:=by rw[Q];simp
    rw[bj w,X6];obtain⟨u1,u2,u3,ty,u4⟩:=w2 w;have i1:=eU p u3 (fW r).length 3 0 .i64 aq;have i2:X9 _ 1 (pt _ 0 _) c=some (sv (a::x1)):=Xt (by rw[n2.get _ aa ar];exact u4) (by rw[Q];rfl);have i3:=iu (a::x1) .i64 0 ar;have i1:Xd 3 (ax p (fW r).length 3) (.int .i64 0)=some (pt p.b 0 p.ver):=by simpa using i1
    have i3:Xi _ (.int _ 0)=some (.int .u8 (a.toNat)):=i3;have e5:bin .neq true true .int (.int .u8 (a.toNat)) (.int .u8 33)=some (.bool (decide (a≠33))):=by rw[eg];congr 2;rw[gW,Ne,Ne,<-j3];show ¬((a.toNat:Nat):Int)=33↔¬a.toNat=33;omega
    simp only[i1,i2,i3,e5,X3,X7];by_cases hh:a=33
    ·rw[bJ (λh=>h hh),X5];have z:iO r=none:=by unfold iO;exact ah (.inr aq)
     exact next l L c FB aa J aq
    ·rw[bj hh,X6];have z:iO r=some (ind,fW r):=by
      unfold iO;rw[w4 P];exact af aq
     have hL:vg _ c (⟨ind,k+1,fW r⟩,p):=⟨w,u1,by show p.b<c.next;omega,u3,ty,by rw[n2.get _ aa ar];exact u4⟩
     obtain⟨m3,m4,L4,o1,o2,o3,o4⟩:=Xo5 ub G aa hB u aa hL;obtain⟨m5,L5,l5,W,r2⟩:=next _ L4 m4 o4 (by rw[fy];simp;omega) o3 (by unfold eO;rw[z,uY];rfl)
     refine⟨m5,L5,l5,?_,r2⟩;have o1:X8 _ ua 2 1 _ c=_:=o1;simp only[l2,X3,o1,X4,o2];rwa[fy]at W
  unfold vm;delta Qpt Ra L E B N jj ji;simp only[dw,e1,X3,X6,e2];by_cases h:i<s.length
  ·rw[bj h,X6];have e3:bin .neq true true .int (.int .u8 (s[i].toNat)) (.int .u8 10)=some (.bool (decide (s[i]≠10))):=by
    rw[eg];congr 2;rw[gW,Ne,Ne,<-j3];show ¬((s[i].toNat:Nat):Int)=10↔¬s[i].toNat=10;omega
   simp only[iu s _ i h,e3,X3];by_cases q:s[i]=10
   ·rw[bJ (λh=>h q),X5];exact H (λ_=>q)
   ·rw[bj q,X6];have a5:(s.take _)=s.take i++[s[i]]:=(Nh h).symm;obtain⟨c,D,l2,q1,T⟩:=U3 d s hs B V n (i+1) f o k l L m aa aa aa (by
      grind) aa aa hB G
    rw[ah aa]at T;refine⟨c,D,l2,?_,T⟩;delta H8 B ja A;simp only[sW i aa,X3];exact q1
  ·rw[bJ h,X5,X5];exact H (λg=>absurd g h)
theorem XdA(s:ai)(d:Nat)(m:aj):((Xp s).2.2≠0->TA (d+3) HV [sv s] m=some (.tuple ⟨[.slice none 0 0,aZ (Xp s).1 (Xp s).2.1,I (Xp s).2.2]⟩,m)) /\
  ((Xp s).2.2=0->∃S L l,TA (d+3) HV [sv s] m=some (.tuple ⟨[ax L l.length 2,aZ 0 0,I 0]⟩,S)/\gv m.next S L l/\l.map (·.1)=lu s/\Fr [] m S):=by
 rw[Xa7];generalize f:aD m m.next=G;have X:G.next=m.next:=by rw[<-f];rfl
 have O:Fb m.next G (G.push (.cells Q2 0 0 false (some (2*Q7+1)))):=Fb.push _ aa;generalize p:G.push _=i at O;have D:eh i G.next 0 0:=⟨_,by rw[<-p,Mem.bV,ah rfl];rfl⟩
 have Z:i.next=G.next+1:=by rw[<-p];rfl
 obtain⟨j,M,R,n3,n4⟩:=kR [] i (some (2*Q7+1)) Q2 (v:=aZ (Xp s).1 (Xp s).2.1) (n:=2) rfl rfl rfl;have M:Xe 2 (pt i.next 0 0) (.agg #[.int .i64 (Xp s).1,.int .i64 (Xp s).2.1]) (i.push (.cells Q2 0 0 false (some (2*Q7+1))))=some j:=M;have l2:X9 true 2 (pt i.next 0 0) j=some (aZ (Xp s).1 (Xp s).2.1):=Xw n4 (by show 2≤2;simp) rfl;have a2:eh j G.next 0 0:=D.ne (R.get _ aa ar);have P:Fb m.next G j:=O.trans (R.iP aa);have W:TA (d+2) HU [sv s] i=some (.tuple ⟨[.agg #[.int .i64 (Xp s).1,.int .i64 (Xp s).2.1],.int .i64 (Xp s).2.2]⟩,i):=XqA s d i;have e0:bin .neq true true .int (.int .i64 (Xp s).2.2) (.int .i64 0)=some (.bool (decide ((Xp s).2.2≠0))):=by rw[eg];congr 2;rw[gW];omega
 have go:∀r,DP (aH (d+2)) (.int .i64 (Xp s).2.2) (pt i.next 0 0) (pt G.next 0 0) (sv s) j=r->Ai (aH (d+2)) (sv s) G=r:=λr h=>by delta Ai Qio C Y U jg;rw[Xq,p];simp only[W,X4,dy,dK,X3,Xq,M,Xj];exact h
 have out:=@cD m;rw[f]at out;constructor
 ·intro h;obtain⟨m3,H,J,z,_⟩:=a2.put (B:=m.next) aa (Xp s).1 (Xp s).2.1;refine out (go _ ?_) (P.trans z) rfl;delta DP E jd jl A;rw[e0,bj h];simp only[X3,X6,l2,H,Xj,J.l2];exact MJ _ _ _ _
 ·intro h;have hs:s.length<=65536:=by
   rcases lT 65536 s.length with q|q
   ·unfold Xp at h;rw[ah q]at h;cases h
   ·exact q
  have a0:=n3;obtain⟨Q,L,l,r1,r2,N,t⟩:=U3 (d+1) s hs j.next G.next (s.length+1) 0 18446744073709551616 0 0 [] ⟨0,0,0⟩ j aa aa aY ar aY aY aY ⟨λq=>absurd rfl q,λx g=>by cases g⟩;rw[FV,my,ah c7,mA]at N;have a4:eh Q G.next 0 0:=a2.ne (t.get _ aa);obtain⟨K,H,J,z,k4⟩:=a4.put (B:=m.next) aa 0 0;have a6:=z.next;have y:Fb m.next G K:=P.trans (({ next:=t.next,low:=t.low,bQ:=λx a b=>t.bQ x a aa,get:=λb hb=>t.get b aa,lo:=t.lo }:Fb m.next j Q).trans z)
  have o:gv m.next K L l:={
   out:=λq=>by
    obtain⟨a,b,c,ty,e⟩:=r2.out q
    grind
   ls:=λx g=>by obtain⟨⟨D,a2,a3,a4,ty,T⟩,b⟩:=r2.ls x g;exact⟨⟨D,aa,aa,a4,ty,by rw[k4 _ aa];exact T⟩,b⟩ }
  have g:Ai (aH (d+2)) (sv s) G=some (.tuple ⟨[ax L l.length 2,aZ 0 0,I 0]⟩,K):=by refine go _ ?_;delta DP RL RM RN RO RP E jd jl A;rw[e0,bJ (λq=>q h)];simp only[X3,X5];refine aU r1 ?_;delta Al B jl A;have V:Xc Q2 [(0,1),(1,1)] []=some (aZ 0 0):=aU rfl rfl;simp only[V,X3,H,Xj,J.l2];exact MJ _ _ _ _
  by_cases F:l=[]
  ·subst F;rw[<-f]at g y;have:=cD g y rfl;rw[f]at this;exact⟨m,L,[],this,⟨λq=>absurd rfl q,λx g=>by cases g⟩,N,.refl _ _⟩
  ·have w:l.length≠0:=λe=>F (oQ e);have hv:refs m.next 8 (.tuple ⟨[ax L l.length 2,aZ 0 0,I 0]⟩)=false:=by
    have u:=A5 (L:=L) (n:=l.length) (k:=m.next) (sz:=2) w (o.out F).1;unfold ax at u|-;rw[af w]at u|-;have u:Nat.blt L.b m.next=false:=u;show(Nat.blt L.b m.next&&_)=false;rw[u];rfl
   rw[<-f]at y;obtain⟨m6,o1,o2,o3,o4⟩:=A7 g (Fb.oP y) hv;exact⟨m6,L,l,o1,{
    out:=λq=>by
     obtain⟨a,b,c,ty,e⟩:=o.out q
     grind
    ls:=λx g=>by obtain⟨a,b⟩:=o.ls x g;exact⟨a.oI aa (o4 _),b⟩ },N,o2⟩
theorem Xp0(n:Nat):∀(f:Nat)(b:ai),(b=[]\/∃a l,b=a::l/\a≠32)->∀w∈eV n f b,w.1≠[]
 |0,b,_,w,hw=>by cases hw
 |f+1,b,h,w,hw=>by
  rcases h with rfl|⟨a,l,rfl,c⟩
  ·trivial
  ·obtain⟨x,g8,r,e⟩:=Xpd (n:=n) (f:=f) (l:=l) c;have d:eV n (f+1) (a::l)=((eZ 32 (a::l)).1,n-(a::l).length+1)::eV n f (cZ (eZ 32 (a::l)).2.1):=by rw[eV,af cn]
   rw[d]at hw e;rcases eF.mp hw with rfl|hw
   ·grind
   ·exact Xp0 n f _ (KM _) w hw
theorem V5:∀(c:List ai)(i:Nat),∀x∈eO c i,∀w∈x.ws,w.1≠[]
 |[],i,x,a=>by cases a
 |r::l,i,x,a=>by
  have e:eO (r::l) i=match iO r with|some x=>⟨x.1,i+1,x.2⟩::eO l _|none=>eO l _:=rfl
  rw[e]at a;cases b:iO r with
  |none=>rw[b]at a;exact V5 l _ x a
  |some g8 =>
   rw[b]at a;rcases eF.mp a with rfl|a
   ·unfold iO at b;dsimp only at b;split at b
    ·cases b
    ·cases b;exact Xp0 _ _ _ (KM _)
   ·exact V5 l _ x a
theorem Xzw(k:Key)(h:k≠[0]):bX true 0 0 gm k=none/\∀P,bX true P 0 gm k=none:=by
 have:∀P,bX _ P 0 gm k=none:=λP=>by
  unfold bX;by_cases b:k=[1]
  ·subst b;rw[NX.aR]
  ·rw[NX.aE _ _ b];unfold aL;rw[af b,af h];by_cases a:k=[15,0]
   ·subst a;rw[ah ⟨rfl,rfl⟩];rfl
   ·rw[af (λq=>a q.2)];by_cases c:k=[2]
    ·subst c;rw[ah ⟨rfl,rfl⟩]
    ·rw[af (λq=>c q.2)];exact UE h c
 grind
set_option maxHeartbeats 4000000 in
theorem XnM(r:P<m.next)(o:B<=P)(j:m.get P=some (.cells [sv [],.int .u8 1,.slice none 0 0,.slice none 0 0,.slice none 0 0,.slice none 0 0,.slice none 0 0,.slice none 0 0,.slice none 0 0,.slice none 0 0,.slice none 0 0,.slice none 0 0,sv [],I 0,I 0,.slice none 0 0,.bool false,.bool false] 0 0 false ty)) :
  LI true B P 0 0 m (λk=>if k=[0]then⟨P,0,0⟩else⟨0,0,0⟩) gm:=by
 have e0:bX true P 0 gm [0]=some (.c [.v (sv []),.v (.int .u8 1),.s 0 1,.s 0 11,.s 0 2,.s 0 3,.s 0 7,.s 0 2,.s 0 2,.s 0 3,.s 0 3,.s 0 6,.v (sv []),.v (I 0),.v (I 0),.s 0 1,.v (.bool false),.v (.bool false)]):=by rw[Bj (show gm.X [0]=some (.c MQ) from rfl)];rfl
 have f:∀k,bX _ P 0 gm k≠none->k=[0]:=λk h=>by
  by_cases g:k=[0]
  ·exact g
  ·exact absurd ((Xzw k g).2 P) h
 exact{
  nr:={
   inj:=λa b d t e=>aq
   hi:=λa d=>aq
   r2:=λa d=>aq
   at':=λa ob d=>by obtain rfl:=f a aq;rw[e0]at d;cases d;exact⟨ty,j⟩
   ok:=λa l d=>by obtain rfl:=f a aq;rw[e0]at d;cases d;rfl
   ow:=λa l i n q d hi=>by
    obtain rfl:=f a aq;rw[e0]at d;cases d;have key:n=0/\0<q:=by have:i<18:=(dO.mp hi).1;have p:i=0\/i=1\/i=2\/i=3\/i=4\/i=5\/i=6\/i=7\/i=8\/i=9\/i=10\/i=11\/i=12\/i=13\/i=14\/i=15\/i=16\/i=17:=aa;rcases p with rfl|rfl|rfl|rfl|rfl|rfl|rfl|rfl|rfl|rfl|rfl|rfl|rfl|rfl|rfl|rfl|rfl|rfl<;>cases hi<;>exact⟨rfl,ak⟩
    grind
   par:=λi u a d=>by grind }
  pP:=rfl
  pO:=rfl
  wt:=YP
  il:=kn _
  hB:=λk h=>aq
  bk:=.none rfl }
theorem XqQ:DI gm:=by have b:aS gm.X=[]:=rfl;have hn:au gm.X [0] 9=0:=rfl;refine⟨⟨.of λk ws _=>?_,λi t h=>(by cases h),λh t _ q=>aq,λq=>absurd rfl q,.inl ⟨rfl,rfl⟩⟩,⟨λa d h=>aq,λa i h=>aq,λa i c h=>aq⟩,.no rfl⟩;rw[b];exact⟨λh=>(by cases h),λh=>(by cases h)⟩
theorem XoS(s:ai)(d:Nat)(m:aj):∃(f:List ae)(S:aj),TA (d+10) PZ [sv s] m=some (.tuple ⟨[.agg ⟨f⟩,aZ (ic s).1 (ic s).2.1,.int .i64 (ic s).2.2]⟩,S)/\Fr [] m S/\f.length=12/\f.all one=true/\fK m.next S (sP s) f:=by
 rw[Xa2];generalize D:aD m m.next=G;have av:G.next=m.next:=by rw[<-D];rfl
 generalize F:G.push (.cells Q8 0 0 false (some (2*iH+1)))=w;have aw:w.next=G.next+1:=by rw[<-F];rfl
 have F1:Fb m.next G w:=by rw[<-F];exact Fb.push _ aa
 have g1:w.get G.next=some (.cells Q8 0 0 false (some (2*iH+1))):=by rw[<-F,Mem.bV,ah rfl]
 generalize u:w.push (.cells Q2 0 0 false (some (2*Q7+1)))=z;have aA:z.next=w.next+1:=by rw[<-u];rfl
 have F2:Fb m.next G z:=by rw[<-u];exact F1.trans (Fb.push _ aa)
 have a7:z.get G.next=some (.cells Q8 0 0 false (some (2*iH+1))):=by rwa[<-u,Mem.bV,af aa]
 have a8:z.get w.next=some (.cells Q2 0 0 false (some (2*Q7+1))):=by rw[<-u,Mem.bV,ah rfl]
 have A2:jS z G.next w.next:=⟨aa,aa,aa,⟨_,_,a7,rfl⟩,⟨_,_,a8,rfl⟩⟩
 have hx:∃(f:List ae)(S:aj),Dx (d9 d) (sv s) G=some (.tuple ⟨[.agg ⟨f⟩,aZ (ic s).1 (ic s).2.1,.int .i64 (ic s).2.2]⟩,S)/\Fb m.next G S/\f.length=12/\f.all one=true/\fK m.next S (sP s) f:=by
  delta Dx U;simp only[Xq,X4,F,u];delta RQ C Y U jg;unfold ic sP;by_cases p:(Xp s).2.2=0
  ·
   obtain⟨_,cl⟩:=XdA s (d+6) z;rw[af (λh=>h p),af (λh=>h p)];obtain⟨J,L,l,a1,a2,a3,a4⟩:=cl p;have aB:=a4.next;have F3:Fb m.next G J:=F2.trans (a4.iP aa);obtain⟨o,n1,Q,n3,n4⟩:=kR [] J (some (2*Q7+1)) Q2 (v:=aZ 0 0) (n:=2) rfl rfl rfl;have F4:Fb m.next G o:=F3.trans (Q.iP aa);have en:bin .neq true true .int (I 0) (.int .i64 0)=some (.bool false):=bY;simp only[a1,X4,dy,dK,pz,X3,Xq,n1,Xj];delta IS O jo E jn jd B Y jl A;simp only[en,X3,X5];delta RR B U jy;have a5:Xc Q8 [(0,1),(1,1),(2,1),(3,1),(4,1),(5,1),(6,1),(7,1),(8,1),(9,1),(10,1),(11,1)] [(1,.int .u8 1)]=some (.agg ⟨[sv [],.int .u8 1,.slice none 0 0,.slice none 0 0,.slice none 0 0,.slice none 0 0,.slice none 0 0,.slice none 0 0,.slice none 0 0,.slice none 0 0,.slice none 0 0,.slice none 0 0]⟩):=aU rfl rfl;have a6:Xc Qsp [(0,12),(12,1),(13,1),(14,1),(15,1),(16,1),(17,1)] [(0,.agg ⟨[sv [],.int .u8 1,.slice none 0 0,.slice none 0 0,.slice none 0 0,.slice none 0 0,.slice none 0 0,.slice none 0 0,.slice none 0 0,.slice none 0 0,.slice none 0 0,.slice none 0 0]⟩)]=some (.agg ⟨[sv [],.int .u8 1,.slice none 0 0,.slice none 0 0,.slice none 0 0,.slice none 0 0,.slice none 0 0,.slice none 0 0,.slice none 0 0,.slice none 0 0,.slice none 0 0,.slice none 0 0,sv [],I 0,I 0,.slice none 0 0,.bool false,.bool false]⟩):=aU rfl rfl;have ec:(Value.cells (.agg ⟨[sv [],.int .u8 1,.slice none 0 0,.slice none 0 0,.slice none 0 0,.slice none 0 0,.slice none 0 0,.slice none 0 0,.slice none 0 0,.slice none 0 0,.slice none 0 0,.slice none 0 0,sv [],I 0,I 0,.slice none 0 0,.bool false,.bool false]⟩)).toList=[sv [],.int .u8 1,.slice none 0 0,.slice none 0 0,.slice none 0 0,.slice none 0 0,.slice none 0 0,.slice none 0 0,.slice none 0 0,.slice none 0 0,.slice none 0 0,.slice none 0 0,sv [],I 0,I 0,.slice none 0 0,.bool false,.bool false]:=rfl;simp only[a5,X3,a6];rw[ec,Xq];generalize H:o.push (.cells [sv [],.int .u8 1,.slice none 0 0,.slice none 0 0,.slice none 0 0,.slice none 0 0,.slice none 0 0,.slice none 0 0,.slice none 0 0,.slice none 0 0,.slice none 0 0,.slice none 0 0,sv [],I 0,I 0,.slice none 0 0,.bool false,.bool false] 0 0 false (some (2*Qlx+1)))=K;have b8:K.next=o.next+1:=by rw[<-H];rfl
   have a9:K.get o.next=some (.cells [sv [],.int .u8 1,.slice none 0 0,.slice none 0 0,.slice none 0 0,.slice none 0 0,.slice none 0 0,.slice none 0 0,.slice none 0 0,.slice none 0 0,.slice none 0 0,.slice none 0 0,sv [],I 0,I 0,.slice none 0 0,.bool false,.bool false] 0 0 false (some (2*Qlx+1))):=by rw[<-H,Mem.bV,ah rfl]
   have F6:Fb m.next G K:=by rw[<-H];exact F4.trans (Fb.push _ aa)
   have k6:∀b,b<J.next->K.get b=J.get b:=λb hb=>by rw[<-H,Mem.bV,af aa];exact Q.get b hb ar
   have a0:LI true m.next o.next 0 0 K (λk=>if k=[0]then⟨o.next,0,0⟩else⟨0,0,0⟩) gm:=XnM aa aa a9;have ac:s.length<=65536:=by
    rcases lT 65536 s.length with q|q
    ·unfold Xp at p;rw[ah q]at p;cases p
    ·exact q
   have b9:(split 10 s).length<=s.length+1:=by rw[AZ 10 s.length s aY];have:=YS (a:=(10:UInt8)) (l:=s);omega
   have ⟨o1,o2,o3⟩:=VT 65536 (split 10 s) 0 (λr hr=>by have:=xV 10 s r hr;omega);have an:l.length=(lu s).length:=by rw[<-a3,gB]
   have o1:(lu s).length<=(split 10 s).length:=o1;have o2:lS (lu s)<=(split 10 s).length*65539:=o2;have O6:gv 0 K L l:={
    out:=λq=>by
     obtain⟨a,b,c',ty,g⟩:=a2.out q
     grind
    ls:=λy W=>by obtain⟨⟨M,b2,b3,b4,ty,b5⟩,R⟩:=a2.ls y W;exact⟨⟨M,kn _,aa,b4,ty,by rwa[k6 _ b3]⟩,R⟩ }
   have A6:jS K G.next w.next:={
    l2:=aa
    l3:=aa
    ne:=aa
    g2:=by rw[k6 _ aa,a4.get _ aa ar];exact A2.g2
    g3:=by rw[k6 _ aa,a4.get _ aa ar];exact A2.g3 }
   have pr:∀b,(b=G.next\/b=w.next\/(l≠[]/\b=L.b)\/∃x∈l,b=x.2.b)->∀k,bX true o.next 0 gm k≠none->((λk=>if k=[0]then⟨o.next,0,0⟩else⟨0,0,0⟩:ay) k).b≠b:=λb hb k p=>by
    have am:b<J.next:=by
     rcases hb with rfl|rfl|⟨q,rfl⟩|⟨y,W,rfl⟩
     ·omega
     ·omega
     ·exact(a2.out q).2.1
     ·exact(a2.ls y W).1.2.2.1
    by_cases h0:k=[0]
    ·subst h0;show o.next≠b;omega
    ·exact absurd ((Xzw k h0).2 _) p
   have ⟨p1,p2⟩:=Xge d (B:=m.next) (P:=o.next) (O:=0) (p2:=G.next) (V:=w.next) L l aa (λy W=>by
    have N:y.1∈lu s:=by rw[<-a3];exact M6 W
    exact⟨(o3 y.1 N).1,(o3 y.1 N).2,V5 _ _ y.1 N⟩) aa aa l.length 0 18446744073709551616 0 K _ gm aa aa aa a0 XqQ aY O6 A6 (by rw[mA,a3];omega) pr
   rw[mA,a3,show fg gm=gm from rfl]at p1 p2;delta RS A;cases hf:mY (lu s) gm with
   |error e =>have ⟨S,M,b2⟩:=p1 e hf;exact⟨Q8,S,M,F6.trans b2,rfl,rfl,Bh _ _⟩
   |ok X =>
    have ⟨S,bb,H1,S',b0,M,b2,b3,bD,b4,b5,R⟩:=p2 X hf;have ⟨f,j,c1,c2,c3⟩:=Xq4 d b3 bD.rN aa (by have:=b2.next;omega) b4 aa aa R;have c0:pn (.ok S')=pn (.ok X)/\yL (.ok S')=yL (.ok X):=by rw[<-b0];exact⟨rfl,rfl⟩
    rw[c0.1]at c1;rw[c0.2]at c3;have hz:(pn (.ok X)).1=0/\(pn (.ok X)).2.1=0:=by unfold pn;dsimp only;split<;>exact⟨rfl,rfl⟩
    refine⟨f,j,?_,F6.trans (b2.trans c2),c3.1,c3.2.1,c3.2.2⟩;rw[hz.1,hz.2];exact aU M c1
  ·rw[ah p,ah p];obtain⟨cb,_⟩:=XdA s (d+6) z;have a1:TA (d+9) _ _ z=_:=cb p;obtain⟨J,n1,Q,n3,n4⟩:=kR [] z (some (2*Q7+1)) Q2 (v:=aZ (Xp s).1 (Xp s).2.1) (n:=2) rfl rfl rfl;have F3:=F2.trans (Q.iP aa);have A3:jS J G.next w.next:={
    l2:=aa
    l3:=aa
    ne:=aa
    g2:=by rw[Q.get _ aa ar];exact A2.g2
    g3:=by rw[Q.get _ aa ar];exact A2.g3 }
   obtain⟨o,m5,M,b2,b3,b4,b5,R,b7⟩:=vN (B:=m.next) A3 aa aa Q8 rfl rfl (Xp s).1 (Xp s).2.1;have en:bin .neq true true .int (I (Xp s).2.2) (.int .i64 0)=some (.bool true):=Zk;have eb:Xc _ [(0,1),(1,1),(2,1),(3,1),(4,1),(5,1),(6,1),(7,1),(8,1),(9,1),(10,1),(11,1)] []=some zD:=aU rfl rfl;have l3:X9 _ 2 _ J=some (aZ _ _):=Xw n4 (by show 2≤2;simp) rfl;have l4:X9 _ 2 (pt z.next 0 0) o=some (aZ _ _):=Xw (by rwa[R _ aa]) (by show 2≤2;simp) rfl;have ag:∀mm,again (aI (some (aZ _ _)) mm) (aZ _ _)=true:=λmm=>by show fN 8 (aZ (Xp s).1 (Xp s).2.1) (aZ (Xp s).1 (Xp s).2.1)=true;simp[fN,fN.vsames]
   refine⟨Q8,m5,?_,F3.trans b5,rfl,rfl,Bh _ _⟩;simp only[a1,X4,dy,dK,pz,X3,Xq,n1,Xj];delta IS O jo E jn jd B Y jl A;simp only[en,X3,X6,eb,l3,M,Xj,l4,ag,fO,Xv,b2,b3,b4];rfl
 obtain⟨f,S,e1,e2,e4,e5,e6⟩:=hx;rw[<-D]at e1 e2;cases hv:refs m.next 8 (.tuple ⟨[.agg ⟨f⟩,aZ (ic s).1 (ic s).2.1,.int .i64 (ic s).2.2]⟩)with
 |true =>
  obtain⟨j,Z,q2,q3⟩:=Xw7 e1 (Fb.oP e2);have T:∀y∈f,refs m.next 6 y=true:=by have:((f.all (refs m.next 6))&&_)=true:=hv;rw[bT]at this;exact cL.mp this.1
  exact⟨f,j,by rwa[D]at Z,q2,e4,e5,e6.none j T⟩
 |false =>have ⟨j,Z,q2,q3,q4⟩:=A7 e1 (Fb.oP e2) hv;exact⟨f,j,by rwa[D]at Z,q2,e4,e5,⟨e6.1,λi t c hi hc=>(e6.2 i t c hi hc).same (oT q3.symm) q4⟩⟩
end Go.Ab.Sh
namespace Go.Ab
open Go Go.Lib Go.Ab.Sh
end Go.Ab
namespace Go.Ab.Sh
open Go Go.Ab Go.Lib
variable {mW:Mem}{v:Value}{ws:List ai}{b2 b5:Nat}{m:Mem}{q:Q_n}
end Go.Ab.Sh
namespace Go.Ab
open Go Go.Lib Go.Ab.Sh
variable {B i:Nat}{m:Mem}{v w:Value}{vs:List Value}
def GA(B:Nat)(m:aj)(v:ae)(vs:List ae):Prop:=
 (vs=[]/\v=.slice none 0 0)\/(vs≠[]/\∃b ver r ty,r<2/\v=.slice (some ⟨b,0,some 1⟩) vs.length (2*ver+r)/\B<=b/\b<m.next/\m.get b=some (.cells vs ver 0 false ty))
theorem GA.len(h:GA B m v vs)(S:aj):aM 1 v S=some (I vs.length):=by
 rcases h with⟨rfl,rfl⟩|⟨_,b,ver,r,ty,_,rfl,_⟩
 ·rfl
 rfl
theorem GA.fb{S:aj}(h:GA B m v vs)(hn:m.next<=S.next)(i:∀b,B<=b->b<m.next->S.get b=m.get b):GA B S v vs:=by
 rcases h with h|⟨a,b,ver,r,ty,e,c,d,f,g⟩
 ·exact .inl h
 ·exact .inr ⟨a,b,ver,r,ty,e,c,d,aa,aq⟩
theorem GA.at(h:GA B m v vs)(t:vs[i]?=some w):∃p,Xd 1 v (.int .i64 (i:Int))=some p/\X9 false 1 p m=some w /\
  ∀x:ae,x.cells.size=1->x.cells.toList=[x]->one x=true->∃S,Xe 1 p x m=some S/\Fb B m S/\S.next=m.next/\GA B S v (vs.set i x)/\∀b,(∃len r,v=.slice (some ⟨b,0,some 1⟩) len r)\/S.get b=m.get b:=by
 have hi:i<vs.length:=by
  by_cases o:i<vs.length
  ·exact o
  ·grind
 rcases h with⟨rfl,rfl⟩|⟨q,b,ver,r,ty,s,rfl,g,l,j⟩
 ·trivial
 ·refine⟨_,XH b vs.length (2*ver+r) i hi,?_,?_⟩
  ·rw[show(2*ver+r) / 2=ver by omega];exact Xt j t
  ·intro x d a f;rw[show(2*ver+r) / 2=ver by omega];obtain⟨S,u,c⟩:=iJ (y:=i) (n:=1) (v:=x) (c':=vs.set i x) j d c7 aa (by rw[a];simp[f]) (by
    rw[a,YR,ah hi];simp)
   refine⟨S,u,((Fb.refl B m).put _ g).jL c,by rw[c.next,Mem.ij],.inr ⟨?_,b,ver,r,ty,s,ar,g,by rw[c.next,Mem.ij];exact l,by rw[c.get,Mem.aX,ah rfl]⟩,λk=>?_⟩
   ·simp_all
   ·by_cases e:k=b
    ·simp_all
    ·right;rw[c.get,Mem.aX,af aa]
abbrev ta(c:UInt8):ae:=.int .u8 (c.toNat:Int)
theorem Xpq:∀l:ai,ug (l.map ta)=some l
 |[]=>rfl
 |c::l=>by
  show(match ug _ with|some l=>some _|none=>none)=_
  rw[Xpq l];simp
theorem GA.conv{B:Nat}{m:aj}{v:ae}{l:ai}(h:GA B m v (l.map ta)):conv .str v m=some (sv l,m):=by
 rcases h with⟨a,rfl⟩|⟨d,b,ver,r,ty,g,rfl,e,f,c⟩
 ·have:l=[]:=by simpa using a
  subst this;rfl
 ·show(match j0 m ⟨b,0,some _⟩ _ with
   |some cs=>(match ug cs with|some l=>some _|none=>none)
   |none=>none)=_
  rw[show(2*ver+r) / 2=ver by omega];have:j0 m ⟨b,0,some ver⟩ (l.map ta).length=some (l.map ta):=by simp[jF,iI,c];rw[zj ar]
  rw[this];simp only[Xpq];rfl
end Go.Ab
namespace Go.Ab.Sh
open Go Go.Ab Go.Lib
variable {B bytes e:Nat}{l:ai}{m:Mem}{new vs:List Value}{s:Option Nat}{v x:Value}
theorem Xol:∀(k n:Nat)(t:ai),n<10^k->0<k->n<18446744073709551616->t.length+k<=1100->∃i5:ai,i5.length<=t.length+k/\∀(b:Gt)(B:Nat) (m:aj) (a:Nat),B<=m.next->k<a->∃S,tV b a (.int .u64 (n:Int)) (sv t) m=some (sv i5,S)/\Fb B m S
 |k,n,t,s,p,hn,h=>by
  by_cases f:(9:Int)<(n)
  ·have u:1<k:=by
    rcases lT 1 k with q|q
    ·exact q
    ·grind
   have c:IntKind.u64.wrap (48+((n:Int).tmod 10))=((48+n%10:Nat)):=by have e:(n:Int).tmod 10=((n%10:Nat):Int):=Fa n 10;rw[e,IntWalk.u64_in _ aa];omega
   have d:IntKind.u8.wrap ((48+n%10:Nat))=((48+n%10:Nat)):=Ck;have o:IntKind.u64.wrap ((n:Int).tdiv 10)=((n / 10:Nat)):=by have e:(n:Int).tdiv 10=((n / 10:Nat):Int):=LW n 10;rw[e,IntWalk.u64_in _ aa]
   obtain⟨i5,r,q⟩:=Xol (k-1) (n / 10) ([UInt8.ofNat (48+n%10)]++t) (by
    have:10^k=10*10^(k-1):=by rw[Ce,<-Cc];congr 1;omega
    omega) aa aa aq
   refine⟨i5,aq,λb B m a hB g=>?_⟩;obtain⟨a,rfl⟩:∃i,a=i+1:=⟨a-1,aa⟩
   obtain⟨S,j,l⟩:=q b B (m.push (.cells [.int .u8 ((48+n%10:Nat))] 0 0 false (some (2*fJ)))) a (by show B<=m.next+1;omega) aa;refine⟨S,?_,(Fb.push _ hB).trans l⟩;unfold tV;delta H E B ja;simp only[iT,X3,Xf,ah f];simp only[zK _ _ _ _ _ (by omega:(10:Int)≠0),X3,cz,c,dS,d,X4,EF,Qu _ _ [UInt8.ofNat _] t cF,zL _ _ _ _ _ (by omega:(10:Int)≠0),o];exact j
  ·have c:IntKind.u64.wrap (48+(n))=((48+n:Nat)):=by rw[IntWalk.u64_in _ aa];omega
   have d:IntKind.u8.wrap ((48+n:Nat))=((48+n:Nat)):=Ck;refine⟨[UInt8.ofNat (48+n)]++t,aq,λb B m a hB g=>?_⟩;obtain⟨a,rfl⟩:∃i,a=i+1:=⟨a-1,aa⟩
   refine⟨m.push (.cells [.int .u8 ((48+n:Nat))] 0 0 false (some (2*fJ))),?_,Fb.push _ hB⟩;unfold tV;delta H E B ja;simp only[iT,X3,Xf,af f];delta H9 H B K ja;simp only[cz,c,X3,dS,d,X4,EF,Qu _ _ [UInt8.ofNat _] t cF]
termination_by k=>k
theorem Xw2(z:Int):∃n:Nat,n<18446744073709551616/\IntKind.u64.wrap z=(n:Int):=by
 have e:IntKind.u64.wrap z=z%18446744073709551616:=by unfold IntKind.wrap;simp[IntKind.signed,IntKind.bits]
 exact⟨(z%18446744073709551616).toNat,aa,aa⟩
theorem XcV(n:Nat)(h:n<18446744073709551616):∃i5:ai,i5.length<=20/\∀(d:Nat)(m:aj),TA (d+1) zX [.int .u64 (n:Int)] m=some (sv i5,m):=by obtain⟨i5,a,q⟩:=Xol 20 n [] aa aa h ar;refine⟨i5,by simpa using a,λd m=>?_⟩;rw[UO];obtain⟨S,c,b⟩:=q (aH d) m.next (aD m m.next) 18446744073709551616 aY aa;refine cD ?_ b rfl;assumption
theorem XcZ(z:Int):∃i5:ai,i5.length<=21/\∀(d:Nat)(m:aj),TA (d+2) oX [I z] m=some (sv i5,m):=by
 by_cases a:z<0
 ·have c:un .neg (.int .i64 (IntKind.i64.wrap (z+1)))=some _:=rfl;obtain⟨n,hn,e⟩:=Xw2 (IntKind.u64.wrap (IntKind.i64.wrap (0-IntKind.i64.wrap (z+1)))+1);obtain⟨i5,b,q⟩:=XcV n hn;refine⟨[45]++i5,aq,λd m=>?_⟩;rw[UP];refine cD ?_ (.refl _ _) rfl;delta zY H C E B K ja A D;have e0:Value.string ⟨#[45]⟩=sv _:=rfl;simp only[Qb,X3,Xf,ah a,cz,c,dS,X4,e,q,e0,Qu _ _ [45] i5 aq]
 ·obtain⟨n,hn,e⟩:=Xw2 z;obtain⟨i5,b,q⟩:=XcV n hn;refine⟨i5,aa,λd m=>?_⟩;rw[UP];refine cD ?_ (.refl _ _) rfl;delta zY H C E B K ja A D;simp only[Qb,X3,Xf,af a,dS,X4,e,q]
theorem rH(b:Bool)(d:Nat)(m:aj):TA (d+1) oZ [.bool b] m=some (I (if b=true then 1 else 0),m):=by rw[Xck];refine cD ?_ (.refl _ _) (by cases b<;>rfl);delta I3 L K A;cases b<;>rfl
theorem GA.low{k:Nat}(h:GA B m v vs):GA B (aD m k) v vs:=h.fb aY λ_ _ _=>rfl
theorem Kt(a b:Nat)(c g:Bool):bin .lss c g .int (I a) (I b)=some (.bool (decide (a<b))):=by rw[Qb];simp
theorem ER(i:Nat)(c g:Bool)(h:i<9223372036854775807):bin .add c g .int (I i) (.int .i64 1)=some (I (i+1:Nat)):=by rw[cz];have:((i):Int)+1=((i+1:Nat)):=aa;rw[this,IntWalk.i64_in _ aa]
def fS(ws:List ai):Nat:=(ws.map λw=>w.length+22).sum
theorem Xkq:∀(ws b:List ai),(∀w∈ws,w.length<=4611686018427387)->b.length+ws.length<=4611686018427387->∃i5:ai,i5.length<=fS ws+1/\∀(d B:Nat)(m:aj) (vs:ae) (t:ai) (f:Nat),GA B m vs ((b++ws).map sv)->t.length+fS ws<=140737488355328->ws.length<f->As (aH (d+2)) f (I b.length) vs (sv t) m=some (sv (t++i5),m)
 |[],b,c,i=>by
  refine⟨[41],Nat.le_add_left _ _,λd B m vs t f h n hf=>?_⟩;obtain⟨f,rfl⟩:∃e,f=e+1:=⟨f-1,aa⟩
  have a:=h.len m;rw[lC,gB]at a;unfold As;delta O C jo E jn X B N jb jt ja A ji D;have e1:bin .lss false true .int (I b.length) (I b.length)=some (.bool false):=Nw;simp only[a,X3,e1,X5];delta Sj B K D;have e2:bin _ true true _ _ (.string ⟨#[41]⟩)=some (sv (t++[41])):=Qu _ _ t _ (by show t.length+1<_;omega);simp only[e2,X3]
 |w::ws,b,c,i=>by
  rw[iq]at i;obtain⟨N,u,s⟩:=XcZ (w.length);obtain⟨i5,v,q⟩:=Xkq ws (b++[w]) (λZ h=>c Z (gC _ h)) (by rw[fy];show b.length+1+ws.length<=_;omega);have o:=c w br;have j:fS (w::ws)=w.length+22+fS ws:=Zm;refine⟨N++[58]++w++i5,aq,λd B m vs t f h n hf=>?_⟩;obtain⟨f,rfl⟩:∃e,f=e+1:=⟨f-1,aa⟩
  have a:=h.len m;rw[gB,fy,iq]at a;obtain⟨p,r,p2,_⟩:=h.at (by rw[gX,lB aY,pK];rfl);have e1:bin .lss false true .int (I b.length) (I (b.length+(ws.length+1):Nat))=some (.bool true):=Nx;have e2:bin _ false true _ _ _=some _:=Qu _ _ t N aa;have k:bin _ true true _ _ (.string ⟨#[58]⟩)=some (sv (t++N++[58])):=Qu _ _ _ _ (by rw[fy];show t.length+N.length+1<_;omega);have l:bin _ false true _ (sv (t++N++[58])) _=some _:=Qu _ _ _ w Co;have e5:=ER b.length true true aa;have g:=s d m;unfold As;delta O C jo E jn X B N jb jt ja A ji D;simp only[a,X3,e1,X6,r,p2,dw,g,X4,sG,gY,Xv,e2,k,l,e5];have:=q d B m vs (t++N++[58]++w) f aq aq aq;simp_all
theorem Xl7:∀(c b:List Int),b.length+c.length<=4611686018427387->∃i5:ai,i5.length<=22*c.length/\∀(d B:Nat)(m:aj) (e vs:ae) (t:ai) (f:Nat),GA B m e ((b++c).map I)->t.length+22*c.length<=140737488355328->c.length<f->Au (aH (d+2)) f (I b.length) e (sv t) vs m=Jc (aH (d+2)) vs (sv (t++i5)) m
 |[],b,j=>by
  refine⟨[],c6 _,λd B m e vs t f h k hf=>?_⟩;obtain⟨f,rfl⟩:∃g,f=g+1:=⟨f-1,aa⟩
  have a:=h.len m;rw[lC,gB]at a;unfold Au;delta C E B N jt ja A ji D;have e1:bin .lss false true .int (I b.length) (I b.length)=some (.bool false):=Nw;simp only[a,X3,e1,X5,lC]
 |z::c,b,j=>by
  rw[iq]at j;obtain⟨N,r,o⟩:=XcZ z;obtain⟨i5,s,q⟩:=Xl7 c (b++[z]) aq;refine⟨N++[44]++i5,aq,λd B m e vs t f h k hf=>?_⟩;rw[iq]at hf k;obtain⟨f,rfl⟩:∃g,f=g+1:=⟨f-1,aa⟩
  have a:=h.len m;rw[gB,fy,iq]at a;obtain⟨p,n,p2,_⟩:=h.at (by rw[gX,lB aY,pK];rfl);have e1:bin .lss false true .int (I b.length) (I (b.length+(c.length+1):Nat))=some (.bool true):=Nx;have e2:bin _ false true _ _ _=some _:=Qu _ _ t N aa;have l:bin _ true true _ _ (.string ⟨#[44]⟩)=some (sv (t++N++[44])):=Qu _ _ _ _ (by rw[fy];show t.length+N.length+1<_;omega);have e5:=ER b.length true true aa;have i:=o d m;unfold Au;delta C E B N jt ja A ji D;simp only[a,X3,e1,X6,n,p2,i,X4,e2,l,e5]
  grind
abbrev lY(zs:List Int)(ws:List ai)(i5:ai):Prop:=∀(d B B':Nat)(m:aj) (vi vs:ae),GA B m vi (zs.map I)->GA B' m vs (ws.map sv)->TA (d+3) Qi [vi,vs] m=some (sv i5,m)
theorem kZ(b:List Int)(ws:List ai)(x:b.length<=1000000)(q:ws.length<=1000000)(i:∀w∈ws,w.length<=SB):∃i5:ai,i5.length<=22*b.length+fS ws+2/\i5≠[]/\∀(d B c:Nat)(m:aj) (a vs:ae),GA B m a (b.map I)->GA c m vs (ws.map sv)->TA (d+3) Qi [a,vs] m=some (sv i5,m):=by
 have f:fS ws<=1000000*(SB+22):=by
  have:∀l:List ai,(∀w∈l,w.length<=SB)->fS l<=l.length*(SB+22):=by
   intro l
   induction l with
   |nil=>trivial
   |cons w l r =>
    intro h;have:=r λZ g=>h Z (gC _ g);have p:=h w br;have j:fS (w::l)=w.length+22+fS l:=Zm
    grind
  exact aO (this ws i) (lU _ q)
 have e:(SB+22)=262166:=rfl;rw[e]at f;obtain⟨k,p,t⟩:=Xl7 b [] aq;obtain⟨n,v,u⟩:=Xkq ws [] (λw h=>aq) aq;refine⟨[40]++k++n,aq,ar,λd B c m a vs o g2=>?_⟩;rw[Xbb];refine cD ?_ (.refl _ _) rfl;delta Il Sk Sl Sm A D;have s:=t d B (aD m m.next) a vs [40] 18446744073709551616 (GA.low o) aq aa;refine aU s ?_;delta Jc Sn A;exact u d c _ vs _ 18446744073709551616 (GA.low g2) Co aa
def Av(a:Nat)(v:ae):Prop:=∀p n c,v=.slice (some p) n c->p.block≠a
theorem Av.mk{a b y n c:Nat}(h:b≠a):Av a (.slice (some ⟨b,y,s⟩) n c):=λp n c e=>by grind
theorem GA.apg(h:GA B m v vs)(hB:B<=m.next)(hn:kC x=some new.length)(j:jG 1 new.length x m=some new)(c:new.all one=true)(o:new≠[])(hf:fits (vs.length+new.length) bytes=true) :
  ∃n S,fP e 1 bytes v x m=some (n,S)/\Fb B m S/\GA B S n (vs++new)/\∀a,a<m.next->Av a v->S.get a=m.get a/\Av a n:=by
 have q:0<new.length:=wP.mpr o;have i:Nat.ble 1 1=true:=rfl;have l:¬new.length=0:=aa;rcases h with⟨rfl,rfl⟩|⟨d,b,ver,r,ty,y,rfl,f,g,p⟩
 ·have hf:fits new.length bytes=true:=by rwa[rR,aQ]at hf
  refine⟨.slice _ new.length 0,m.push (.cells new 0 0 _ _),?_,Fb.push _ hB,.inr ⟨by simpa using o,m.next,0,0,some (2*e),aa,rfl,hB,FZ _,by rw[Mem.bV,ah rfl];rfl⟩,λa c _=>⟨rV,.mk aa⟩⟩;unfold fP j5;simp only[hn,j,c,i,nG,iQ,dp,dV,af l,hf,dW]
 ·have w:b<m.next:=g;have k:r=0\/r=1:=by omega
  rcases k with rfl|rfl
  ·have u:j5 e 1 bytes (.slice (some ⟨b,0,some 1⟩) vs.length (2*ver+0)) x m=some (.slice (some ⟨b,0,some 1⟩) (vs.length+new.length) (2*(ver+1)),m.put b (.cells (vs++new) (ver+1) 0 false (pF ty (2*e)))):=by
    unfold j5;have e1:(2*ver+0) / 2=ver:=aa;have e2:¬(2*ver+0)%2=1:=aa;have s:Nat.ble 0 (0+vs.length*1)=true:=eE.mpr c7;have e5:Nat.ble (0+vs.length*1) vs.length=true:=eE.mpr aa;simp only[hn,j,c,i,nG,iQ,dp,dV,p,e1,tH,e5,hf,tI,e2,s,pJ,dW,af l];rw[show 0+vs.length*1=vs.length by omega,tJ]
   exact⟨_,m.put b _,u,(Fb.refl B m).put _ f,.inr ⟨by simp[d],b,ver+1,0,pF ty _,aa,by rw[fy];rfl,f,by rwa[Mem.ij],Cm⟩,λa c f=>have g:b≠a:=f _ _ _ rfl;⟨by rw[Mem.aX,af g],.mk g⟩⟩
  ·refine⟨.slice _ _ 0,m.push _,?_,Fb.push _ hB,.inr ⟨by simp[d],m.next,0,0,some (2*e),aa,by rw[fy],hB,FZ _,pR⟩,λa c _=>⟨rV,.mk aa⟩⟩;unfold fP j5;have e1:(2*ver+1) / 2=ver:=by omega
   have e5:Nat.ble (0+vs.length*1) vs.length=true:=eE.mpr aa;have t:(2*ver+1)%2=1:=aa;simp only[hn,j,c,i,nG,iQ,dp,dV,p,e1,tH,e5,hf,tI,t,dW,af l,mA];simp
theorem GA.aps(h:GA B m v (l.map ta))(hB:B<=m.next)(i5:ai)(j:i5≠[])(hf:l.length+i5.length<=140737488355328):∃f S,fP e 1 1 v (sv i5) m=some (f,S)/\Fb B m S/\GA B S f ((l++i5).map ta)/\∀d,d<m.next->Av d v->S.get d=m.get d/\Av d f:=by
 have i:(i5.map ta).length=i5.length:=gB ..;obtain⟨f,S,a,b,c,g⟩:=GA.apg (e:=e) (bytes:=1) (x:=sv i5) h hB (by rw[i];rfl) (by rw[i];show some ((i5.take i5.length).map ta)=_;rw[tJ]) (by rw[cL];intro n k;obtain⟨c,_,rfl⟩:=mz.mp k;rfl) (by simpa using j) (by simp only[fits,bT,eE,gB];omega)
 grind
theorem GA.Ft{k:Nat}(h:GA B m v vs)(hB:B<=m.next)(j:GA k m x new)(n:new.all one=true)(hf:fits (vs.length+new.length) bytes=true) :
  ∃i S,dn e 1 bytes v x m=some (i,S)/\Fb B m S/\GA B S i (vs++new):=by
 have g:dn e 1 bytes v x m=fP e 1 bytes v x m:=by rcases j with⟨_,rfl⟩|⟨_,b,ver,r,ty,_,rfl,_⟩<;>rfl
 rw[g];rcases j with⟨rfl,rfl⟩|⟨d,b,ver,r,ty,s,rfl,o,p,f⟩
 ·refine⟨v,m,?_,.refl _ _,aq⟩;rcases h with⟨rfl,rfl⟩|⟨d,b,ver,r,ty,s,rfl,o,p,f⟩
  ·rfl
  ·unfold fP j5;have e1:(2*ver+r) / 2=ver:=by omega
   have e5:Nat.ble (0+vs.length*1) vs.length=true:=eE.mpr aa;have l:Nat.ble 1 1=true:=rfl;have q:jG 1 0 (.slice none 0 0) m=some []:=rfl;rw[rR,gp]at hf;simp only[kC,q,Cb,l,nG,iQ,dp,dV,f,e1,tH,e5,hf,gp,tI,dW]
 ·obtain⟨i,S,a,b,c,_⟩:=GA.apg (e:=e) h hB rfl (x:=.slice (some ⟨b,0,some 1⟩) _ _) (by
   show(if(some 1:Option Nat)=some 1 then j0 m ⟨b,0,some ((2*ver+r) / 2)⟩ (new.length*1)else none)=_;rw[ah rfl,show(2*ver+r) / 2=ver by omega,Cd];simp[jF,iI,f]) n d hf
  grind
end Go.Ab.Sh
end
