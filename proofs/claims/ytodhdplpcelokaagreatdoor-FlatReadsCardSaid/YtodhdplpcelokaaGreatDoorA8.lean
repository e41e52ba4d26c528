/-
  What the functions of the program answer, at every text and every question. No conditions.
-/
import Derived.Test.YtodhdplpcelokaaGreatDoorA7
import GoSem.ClaimChange
import Derived.IntWalk
set_option linter.all false
set_option maxRecDepth 100000
noncomputable section
namespace Go.Ab.Sh
open Go Go.Ab Go.Lib
variable {B' R i i6 n r rb rc sz:Nat}{L:Lc}{i5:ai}{acc v v' g8:Value}{cs dv:List Value}{k:Bool}{m S G m3:Mem}{y oc:dQ}{t:Tn}{ts:List Tn}{ty:Option Nat}{ws:List ai}
theorem Ty.int{k:IntKind}{t:Tn}(h:Ty (.i k) t):∃z,t=.v (.int k z):=by cases h;simp
theorem Ty.str(h:Ty .s t):∃w:ai,t=.v (sv w)/\w.length<=SB:=by cases h with|s w h=>grind
theorem Ty.FJ(h:Ty (.l r) t):∃n ts,t=.l (aN r) n ts/\n<=BN r/\ts.length=n*aN r/\∀(i i6:Nat)(g:Fd),i<n->i6<aN r->(ch r)[i6]?=some g->∃t,ts[i*aN r+i6]?=some t/\Ty g t:=by
 cases h with
 |l r n ts hn b h =>
  refine⟨n,ts,rfl,hn,b,λi i6 g hi c hf=>?_⟩;have a:i*aN r+i6<ts.length:=by rw[b];exact dU (by grind:i*aN r+i6<(i+1)*aN r) (lU _ hi)
  exact⟨ts[i*aN r+i6],dX a,h _ _ g (dX a) (by rw[fdAt_row _ _ _ c];exact hf)⟩
theorem Ty.list(h:Ty (.l r) t)(a:r≠11:=by decide):∃n ts,t=.l (aN r) n ts/\n<=4200/\ts.length=n*aN r/\∀(i i6:Nat)(g:Fd),i<n->i6<aN r->(ch r)[i6]?=some g->∃t,ts[i*aN r+i6]?=some t/\Ty g t:=by
 have:=h.FJ;unfold BN at this
 grind
theorem _root_.Go.Ab.Fb.mono{B:Nat}(h:Fb B' m S)(hB:B<=B'):Fb B m S where
 next:=h.next
 low:=h.low
 bQ x h1 h2:=h.bQ x h1 aa
 get b hb:=h.get b aa
 lo:=h.lo
theorem Rd.val{B:Nat}{x:ae}(h:Rd B m (.v x) g8):g8=x:=by cases h;rfl
theorem Rd.len{B:Nat}(h:Rd B m (.l sz n ts) g8)(S:aj):aM 1 g8 S=some (I n):=by
 cases h with
 |nil=>rfl
 |l L n sz ts cs ty hn e a b c d f h=>exact dx ..
theorem Rd.again{B:Nat}{m:aj}{sz n:Nat}{ts:List Tn}{g8:ae}(h:Rd B m (.l sz n ts) g8)(S:aj):again (aI (some g8) S) g8=true:=by
 cases h with
 |nil=>rfl
 |l L n sz ts cs ty hn e a b c d f h=>exact o6 ..
theorem Rd.row{B:Nat}(h:Rd B m (.l sz n ts) g8)(hi:i<n):∃(b ver:Nat)(cs:List ae),Xd sz g8 (I i)=some (pt b (i*sz) ver)/\b<m.next/\cs.length=sz/\(∀i6 t,i6<sz->ts[i*sz+i6]?=some t->∃c,cs[i6]?=some c/\Rd B m t c) /\
  ∀S,(∀b,b<m.next->S.get b=m.get b)->X9 true sz (pt b (i*sz) ver) S=some (.agg ⟨cs⟩)/\∀i6 c,cs[i6]?=some c->X9 false 1 (pt b (i*sz+i6) ver) S=some c:=by
 cases h with
 |nil=>trivial
 |l L n sz ts cs ty hn q o f k u v h =>
  have e:(i+1)*sz<=n*sz:=lU _ hi;rw[rU,Ng]at e;have g:∀i6,i6<sz->((cs.drop _).take sz)[i6]?=cs[i*sz+i6]?:=λi6 j=>by rw[jP,ah j,lz]
  have d:((cs.drop (i*sz)).take sz).length=sz:=Zl;refine⟨L.b,L.ver,(cs.drop _).take sz,eU L q n sz i _ hi,f,d,λi6 t j r=>?_,λS p=>?_⟩
  ·grind
  ·have a:S.get L.b=some (.cells cs L.ver 0 false ty):=by rw[p _ f];exact k
   refine⟨Xw a aa rfl,λi6 c s=>Xt a ?_⟩
   grind
def Acc:Bool->Nat->Nat->ai->ae->aj->Prop
 |true,_,_,t,acc,_=>acc=sv t
 |false,B,rb,t,acc,m=>GA B m acc (t.map ta)/\Av rb acc
def St(k:Bool)(G:aj)(rb:Nat)(y:dQ)(t:ai)(acc:ae)(m:aj):Prop:=Acc k G.next rb t acc m/\Fb G.next G m/\rb<m.next/\m.get rb=some y
theorem XbZ{n R:Nat}(F:Nat->ae->ae->aj->Option Rs)(K:ae->aj->Option Rs)(St:ai->ae->aj->Prop)(c:∀t acc m f,St t acc m->F (f+1) (I n) acc m=K acc m)
  (i5:Nat->ai) (h:∀i,i<n->(i5 i).length<=R) (b:∀i,i<n->∀t acc m f,St t acc m->t.length+R<=140737488355328->∃a S,F (f+1) (I i) acc m=F f (I (i+1:Nat)) a S/\St (t++i5 i) a S) :
  ∀(k i:Nat)(t:ai) (acc:ae) (m:aj) (f:Nat),i+k=n->St t acc m->t.length+k*R<=140737488355328->k<f->∃a S,F f (I i) acc m=K a S/\St (t++((List.range' i k).flatMap i5)) a S
 |0,i,t,acc,m,f,hi,g,j,hf=>by
  obtain⟨f,rfl⟩:∃i6,f=i6+1:=⟨f-1,aa⟩
  have:i=n:=aa;subst this;exact⟨acc,m,c t acc m f g,by simpa using g⟩
 |k+1,i,t,acc,m,f,hi,g,j,hf=>by
  obtain⟨f,rfl⟩:∃i6,f=i6+1:=⟨f-1,aa⟩
  rw[rU,Ng]at j;obtain⟨d,m1,e1,p⟩:=b i aa t acc m f g aa;have l:=h i aa;have ⟨e,o,e2,q⟩:=XbZ F K St c i5 h b k (i+1) (t++i5 i) d m1 f aa p rX aa;refine⟨e,o,e1.trans e2,?_⟩;rwa[Ni,Y4,<-lV]
theorem Xul{i5:Nat->ai}{R:Nat}:∀(k i n:Nat),i+k=n->(∀i,i<n->(i5 i).length<=R)->((List.range' i k).flatMap i5).length<=k*R
 |0,i,n,h,a=>kn _
 |k+1,i,n,h,a=>by
  rw[Ni,Y4,fy,rU,Ng];have:=Xul k (i+1) n aa a
  grind
theorem XbV(i8:Nat->ai->Prop)(e:∀i,i<n->∃i5:ai,i5.length<=R/\i8 i i5):∃T:ai,T.length<=n*R/\∀(F:Nat->ae->ae->aj->Option Rs)(K:ae->aj->Option Rs) (St:ai->ae->aj->Prop),(∀t acc m f,St t acc m->F (f+1) (I n) acc m=K acc m) ->
  (∀i,i<n->∀i5:ai,i5.length<=R->i8 i i5->∀t acc m f,St t acc m->t.length+R<=140737488355328->∃a S,F (f+1) (I i) acc m=F f (I (i+1:Nat)) a S/\St (t++i5) a S) ->
  ∀t acc m f,St t acc m->t.length+n*R<=140737488355328->n<f->∃a S,F f (I (0:Nat)) acc m=K a S/\St (t++T) a S:=by
 have:∀i,∃i5:ai,i<n->i5.length<=R/\i8 i i5:=λi=>by
  by_cases h:i<n
  ·grind
  ·exact⟨[],λq=>absurd q h⟩
 have ⟨i5,d⟩:=Y7 this;refine⟨(List.range' 0 n).flatMap i5,Xul n 0 n aa λi hi=>(d i hi).1,λF K St c b t acc m f h g hf=>?_⟩;exact XbZ F K St c i5 (λi hi=>(d i hi).1) (λi hi t acc m f=>b i hi (i5 i) (d i hi).1 (d i hi).2 t acc m f) n 0 t acc m f aa h g hf
def Lp(k:Bool)(N:Nat)(t:Tn)(T:ai)(J R:Nat)(F:Nat->ae->ae->ae->aj->Option Rs)(K:ae->ae->aj->Option Rs)(C:Nat->Nat->Prop:=λ_ _=>True):Prop:=
 ∀(B rb:Nat)(G:aj) (dv:List ae) (ty:Option Nat) (g8:ae),C rb G.next->Rd B G t g8->dv[J]?=some g8->∀(s:ai)(acc:ae) (m:aj) (f:Nat),St k G rb (.cells dv 0 0 false ty) s acc m->s.length+N*R<=140737488355328->N<f->∃a S,F f (I (0:Nat)) (pt rb 0 0) acc m=K (pt rb 0 0) a S/\St k G rb (.cells dv 0 0 false ty) (s++T) a S
theorem lp{C:Nat->Nat->Prop}{N J:Nat}(i8:Nat->ai->Prop)(hn:n<=N)(M:0<R)(q:∀i,i<n->∃i5:ai,i5.length<=R/\i8 i i5):∃T:ai,T.length<=N*R/\∀(F:Nat->ae->ae->ae->aj->Option Rs)(K:ae->ae->aj->Option Rs) (e:Nat->ae->ae->ae->aj->Option Rs),
  (∀f i p acc m,F (f+1) i p acc m=bp (aI (Xm J p) m) λx m=>bp (aI (X9 false 1 x m) m) λg8 m=>bp (aI (aM 1 g8 m) m) λn m=>bp (aI (bin .lss false true .int i n) m) λc m=>ke c (e f i p acc m) (K p acc m)) ->
  (∀(i:Nat)(i5:ai) (rb:Nat) (G:aj) (y:dQ) (B:Nat) (t:ai) (acc:ae) (m:aj) (f:Nat) (g8:ae) (b ver:Nat) (cs:List ae),C rb G.next->i<n->i5.length<=R->i8 i i5->St k G rb y t acc m->t.length+R<=140737488355328->(∀S,Fb m.next m S->X9 false 1 (pt rb J 0) S=some g8)->(∀S,again (aI (some g8) S) g8=true)->Xd r g8 (I i)=some (pt b (i*r) ver)->cs.length=r ->
   (∀i6 t,i6<r->ts[i*r+i6]?=some t->∃c,cs[i6]?=some c/\Rd B G t c)->(∀S,(∀b,b<G.next->S.get b=G.get b)->X9 true r (pt b (i*r) ver) S=some (.agg ⟨cs⟩)/\∀i6 c,cs[i6]?=some c->X9 false 1 (pt b (i*r+i6) ver) S=some c)->bin .add true true .int (I i) (.int .i64 1)=some (I (i+1:Nat)) ->
   ∃d S,e f (I i) (pt rb 0 0) acc m=F f (I (i+1:Nat)) (pt rb 0 0) d S/\St k G rb y (t++i5) d S)->Lp k N (.l r n ts) T J R F K C:=by
 obtain⟨T,hT,u⟩:=XbV i8 q;have A:n*R<=N*R:=lU _ hn;have Q:N<=N*R:=Nat.le_mul_of_pos_right _ M;refine⟨T,aO hT A,λF K e D o B rb G E ty g8 H g j s acc m f v W hf=>?_⟩;refine u (λf i acc m=>F f i (pt rb 0 0) acc m) (λacc m=>K (pt rb 0 0) acc m) (St k G rb (.cells E 0 0 false ty)) (λt acc m f h=>?_) (λi hi i5 O L t acc m f h U=>?_) s acc m f v aa aa
 ·have l0:=Xt h.2.2.2 j;have e1:bin .lss false true .int (I n) (I n)=some (.bool false):=by rw[Kt,bJ aa]
  refine(D ..).trans ?_;simp only[X7,aQ,X3,l0,g.len m,e1,X5]
 ·have l0:X9 false 1 (pt rb J 0) m=some g8:=Xt h.2.2.2 j;have e1:bin .lss false true .int (I i) (I n)=some (.bool true):=by rw[Kt,bj aa]
  have ⟨b,ver,cs,ix,V,w,P,z⟩:=g.row hi;have ⟨d,S,a,c⟩:=o i i5 rb G _ B t acc m f g8 b ver cs H hi O L h U (λS f=>Xt (by rw[f.get rb h.2.2.1];exact h.2.2.2) j) (g.again ·) ix w P z (ER i true true aa);refine⟨d,S,(D ..).trans (aU ?_ a),c⟩;simp only[X7,aQ,X3,l0,g.len m,e1,X6]
theorem GA.new{B:Nat}{vs:List ae}(hB:B<=m.next)(a:vs≠[]):GA B (m.push (.cells vs 0 0 false ty)) (.slice (some ⟨m.next,0,some 1⟩) vs.length 1) vs:=.inr ⟨a,m.next,0,1,ty,aa,rfl,hB,FZ _,pR⟩
theorem GA.none(B:Nat)(m:aj):GA B m (.slice none 0 0) []:=.inl ⟨rfl,rfl⟩
theorem GA.on{B:Nat}{vs:List ae}(h:GA B m v vs)(f:Fb B' m S)(hB:m.next<=B'):GA B S v vs:=h.fb f.next λb _ a=>f.get b aa
theorem St.fin{t:ai}(h:St false G rb y t acc m)(f:Fb m.next m m3)(j:i5≠[])(l:t.length+i5.length<=140737488355328)(e:Nat):∃a b,fP e 1 1 acc (sv i5) m3=some (a,b)/\St false G rb y (t++i5) a b:=by obtain⟨⟨g,d⟩,c,o,n⟩:=h;have:=f.next;have:=c.next;have ⟨a,b,ap,f4,i,k⟩:=GA.aps (e:=e) (GA.on g f aY) aa i5 j l;have ⟨p,q⟩:=k rb aa d;exact⟨a,b,ap,⟨i,q⟩,(c.trans (f.mono c.next)).trans f4,by have:=f4.next;omega,by rw[p,f.get rb o];exact n⟩
theorem St.BW{t:ai}(h:St true G rb y t acc m)(f:Fb m.next m m3)(d:t.length+i5.length<=140737488355328):bin .add false true .str acc (sv i5)=some (sv (t++i5))/\St true G rb y (t++i5) (sv (t++i5)) m3:=by obtain⟨rfl,a,c,b⟩:=h;have:=f.next;exact⟨Qu _ _ _ _ aa,rfl,a.trans (f.mono a.next),aa,by rw[f.get rb c];exact b⟩
theorem St.df{t:ai}(h:St k G rb y t acc m)(f:Fb m.next m m3)(d:m3.get rc=some oc)(j:m.next<=rc)(i:rc<m3.next):St k G rc oc t acc m3:=by
 obtain⟨g,a,_,_⟩:=h;refine⟨?_,a.trans (f.mono a.next),i,d⟩;cases k with
 |true=>exact g
 |false =>
  refine⟨GA.on g.1 f aY,λp n c e=>?_⟩;rcases g.1 with⟨_,q⟩|⟨_,b,ver,r,ty,_,q,_,l,_⟩
  ·grind
  grind
theorem St.out{f:aj}{t t2:ai}{a:ae}(h:St k G rb y t acc m)(j:St k G rc oc t2 a f)(d:rb<G.next):St k G rb y t2 a f:=by
 obtain⟨_,i,_,l⟩:=h;obtain⟨g,fn,_,_⟩:=j;have:=fn.next;refine⟨?_,fn,aa,by rw[fn.get rb d,<-i.get rb d];exact l⟩;cases k with
 |true=>exact g
 |false =>
  refine⟨g.1,λp n c e=>?_⟩;rcases g.1 with⟨_,q⟩|⟨_,b,ver,r,ty,_,q,o,s,_⟩
  ·grind
  grind
theorem Rd.one{B:Nat}{m:aj}{sz n:Nat}{ts:List Tn}{g8:ae}(h:Rd B m (.l sz n ts) g8):one g8=true:=by
 cases h with
 |nil=>rfl
 |l L n sz ts cs ty hn e a b c d f h=>exact nX ..
theorem fD(m:aj)(vs:List ae)(ty:Option Nat)(b:vs≠[]){x:Option (ae × aj)}(h:x=some (.slice (some ⟨m.next,0,some 1⟩) vs.length 1,m.push (.cells vs 0 0 false ty))):∃a,x=some (.slice (some ⟨m.next,0,some 1⟩) vs.length 1,a)/\Fb m.next m a/\a.next=m.next+1/\GA m.next a (.slice (some ⟨m.next,0,some 1⟩) vs.length 1) vs:=⟨_,h,Fb.push _ aY,rfl,GA.new aY b⟩
theorem copy_row(m:aj)(ty:Option Nat)(z cs:List ae)(f:z.length=n)(hn:cs.length=n)(e:cs.all one=true):∃m1,Xe n (pt m.next 0 0) (.agg ⟨cs⟩) (m.push (.cells z 0 0 false ty))=some m1/\Fb m.next m m1/\m1.next=m.next+1/\m1.get m.next=some (.cells cs 0 0 false ty):=by obtain⟨m1,a,b,c,d⟩:=kR [] m ty z (v:=.agg _) f (by rw[<-hn];rfl) (by exact e);exact⟨m1,a,b.iP aY,c,d⟩
theorem qY(m:aj)(ty:Option Nat)(z cs:List ae)(g:z.length=n)(hn:cs.length=n)(e:cs.all one=true):∃m1,Xe n (pt m.next 0 0) (.agg ⟨cs⟩) (m.push (.cells z 0 0 false ty))=some m1/\Fb m.next m m1/\m1.next=m.next+1/\(∀S,(∀b,b<m1.next->S.get b=m1.get b)->∀(i6:Nat)(c:ae),cs[i6]?=some c->X9 false 1 (pt m.next i6 0) S=some c)/\m1.get m.next=some (.cells cs 0 0 false ty):=by obtain⟨m1,a,b,c,d⟩:=copy_row m ty z cs g hn e;exact⟨m1,a,b,c,λS h i6 i f=>Xt (by rwa[h _ aa]) f,d⟩
def AT:List Fd->(List Tn->Prop)->Prop
 |[],K=>K []
 |.i k::l,K=>∃z:Int,AT l λx=>K (.v (.int k z)::x)
 |.s::l,K=>∃w:ai,w.length<=SB/\AT l λx=>K (.v (sv w)::x)
 |.b::l,K=>∃b:Bool,AT l λx=>K (.v (.bool b)::x)
 |.l r::l,K=>∃t,Ty (.l r) t/\AT l λx=>K (t::x)
 |.f::_,_=>True
theorem Xvj:∀(l:List Fd)(f:Nat->Option Tn) (K:List Tn->Prop),(∀i6 g,l[i6]?=some g->∃t,f i6=some t/\Ty g t)->(∀x:List Tn,(∀i6 t,x[i6]?=some t->f i6=some t)->K x)->AT l K
 |[],f,K,h,c=>c [] λi6 t q=>by cases q
 |g::l,f,K,h,c=>by
  obtain⟨t,a,k⟩:=h 0 g rfl;have go:=λt a=>Xvj l (λi6=>f _) _ (λi6 g q=>h _ g q) λx j=>c (t::x) λi6 u q=>by
   cases i6 with
   |zero=>cases q;exact a
   |succ i6=>exact j i6 u q
  cases k with
  |i k z=>exact⟨z,go _ a⟩
  |s w e=>exact⟨w,e,go _ a⟩
  |b x=>exact⟨x,go _ a⟩
  |f t=>trivial
  |l r n ts hn d q=>exact⟨_,.l r n ts hn d q,go _ a⟩
def At(ts:List Tn)(y:Nat)(x:List Tn):Prop:=∀i6 t,x[i6]?=some t->ts[y+i6]?=some t
theorem ny(h:∀(i i6:Nat)(g:Fd),i<n->i6<aN r->(ch r)[i6]?=some g->∃t,ts[i*aN r+i6]?=some t/\Ty g t)(hi:i<n):AT (ch r) (At ts (i*aN r)):=Xvj _ (λi6=>ts[i*aN r+i6]?) _ (λi6 g q=>h i i6 g hi (dO.mp q).1 q) λx a=>a
def Kl(B:Nat)(m:aj):List Tn->List ae->Prop
 |[],cs=>cs=[]
 |.v x::l,cs=>∃a,cs=x::a/\Kl B m l a
 |t::l,cs=>∃c a,cs=c::a/\Rd B m t c/\Kl B m l a
theorem Xzk{B:Nat}{m:aj}:∀(x:List Tn)(cs:List ae),cs.length=x.length->(∀(i6:Nat)(t:Tn),x[i6]?=some t->∃c,cs[i6]?=some c/\Rd B m t c)->Kl B m x cs
 |[],cs,h,_=>uZ.mp h
 |t::x,[],h,_=>by cases h
 |t::x,c::cs,h,q=>by
  obtain⟨d,b,a⟩:=q 0 t rfl;cases b;have r:=Xzk x cs (Nat.succ.inj h) λi6 t e=>q (i6+1) t e;cases t with
  |v g8=>rw[a.val];exact⟨cs,rfl,r⟩
  |l sz n ts=>exact⟨c,cs,rfl,a,r⟩
theorem uQ{B y:Nat}{x:List Tn}(a:cs.length=r)(b:∀i6 t,i6<r->ts[y+i6]?=some t->∃c,cs[i6]?=some c/\Rd B m t c)(A:At ts y x)(d:x.length=r:=by rfl):Kl B m x cs:=Xzk x cs (a.trans d.symm) λi6 t q=>b i6 t aq (A i6 t q)
theorem zb{B y:Nat}(vs:List ae)(b:cs.length=r)(d:∀i6 t,i6<r->ts[y+i6]?=some t->∃c,cs[i6]?=some c/\Rd B m t c)(A:At ts y (vs.map .v))(e:vs.length=r:=by rfl):cs=vs:=by
 have q:=uQ b d A aq;clear A b d e
 induction vs generalizing cs with
 |nil=>exact q
 |cons a l f=>obtain⟨g,rfl,q⟩:=q;rw[f q]
theorem Ve(b:Bool)(m:aj):again (aI (some (.bool b)) m) (.bool b)=true:=by cases b<;>rfl
abbrev gD(d:Nat):Gt:=(aH (d+3))
def Xgr(t:Tn)(T:ai):Prop:=∀(d:Nat),Lp false 4200 t T 6 262466 (λf i p acc m=>Jd (gD d) f i p acc m) λp acc m=>Je (gD d) acc p m
theorem Xxj(ht:Ty (.l 6) t):∃T:ai,T.length<=4200*262466/\Xgr t T:=by
 obtain⟨R,hR⟩:∃R,R=262466:=⟨_,rfl⟩
 unfold Xgr;rw[<-hR];obtain⟨n,ts,rfl,hn,hl,a2⟩:=ht.list;obtain⟨T,hT,Q⟩:=lp (k:=false) (J:=6) (r:=7) (ts:=ts) (λi P=>∃(c:ai)(e:Int) (g:Int) (j:Int) (a:Bool) (o:Int) (p:Int),At ts (i*7) ([sv c,.int .u32 e,.int .i64 g,.int .u32 j,.bool a,.int .i64 o,.int .i64 p].map .v)/\P≠[]/\lY [IntKind.i64.wrap e,g,IntKind.i64.wrap j,(if a=true then 1 else 0),o,p] [c] P) hn (R:=R) aa λi hi=>by obtain⟨c,h0,e,g,j,a,o,p,A⟩:=ny a2 hi;obtain⟨P,hS,w,q⟩:=kZ [IntKind.i64.wrap e,g,IntKind.i64.wrap j,(if a=true then 1 else 0),o,p] [c] ar ar (by simp[h0]);have a5:SB=262144:=rfl;exact⟨P,by simp[fS]at hS;omega,c,e,g,j,a,o,p,A,w,q⟩
 refine⟨T,hT,λd =>Q _ _ _ (λ_ _ _ _ _=>rfl) ?_⟩;intro i P rb G y B t a3 m f g8 b ver cs _ hi hS hQ h ht l0 ag ix a0 hc a1 e2;obtain⟨c,e,g,j,a,o,p,A,w,q⟩:=hQ;have hg:=h.2.1.get;obtain rfl:=zb _ a0 hc A;obtain⟨ma,c1,V,na,L,a4⟩:=qY (n:=7) m (some (2*AP+1)) sr _ rfl rfl (rfl:[sv c,.int .u32 e,.int .i64 g,.int .u32 j,.bool a,.int .i64 o,.int .i64 p].all one=true);have hl:=(a1 m hg).1;obtain⟨S,s1,u,a6,W⟩:=fD ma [sv c] (some (2*Qc)) ar (x:=X8 Qc [(.string ⟨#[]⟩)] 1 1 [(0,sv c)] ma) fI;obtain⟨mc,s2,K,a7,Z⟩:=fD S [I (IntKind.i64.wrap e),I _,I _,I _,I _,I _] _ ar (x:=X8 cS [(.int .i64 0)] 1 6 [(0,I _),(1,I (g)),(2,I (IntKind.i64.wrap j)),(3,I ((if a=true then 1 else 0))),(4,I (o)),(5,I (p))] S) fI;have s:=L ma λ_ _=>rfl;have Lc:=L S λb hb=>u.get b hb;have D:=(V.trans (u.mono V.next)).trans (K.mono (aO V.next u.next));have hq:=q d _ _ mc _ _ Z (GA.on W K aY);have ⟨z,m4,ap,M⟩:=h.fin D w aa fJ;refine⟨z,m4,?_,M⟩;delta O H C jo T F E jn jd X B N Y U jb ja js A ji;simp only[X7,aQ,gp,Nat.reduceAdd,X3,ix,l0 m (.refl _ _),ag,X4,dS,kQ,sG,gY,Xv,Ve,hl,Xq,c1,bP,s1,s2,s 0 _ rfl,s 1 _ rfl,s 2 _ rfl,s 3 _ rfl,s 4 _ rfl,s 5 _ rfl,s 6 _ rfl,Lc 0 _ rfl,Lc 1 _ rfl,Lc 2 _ rfl,Lc 3 _ rfl,Lc 4 _ rfl,Lc 5 _ rfl,Lc 6 _ rfl,rH a (d+2) S,hq,e2,ap]
def Xfc(t:Tn)(T:ai):Prop:=∀(d:Nat),Lp false 4200 t T 5 262466 (λf i p acc m=>Jf (gD d) f i p acc m) λp acc m=>Qkb (gD d) p acc m
theorem Xux(ht:Ty (.l 5) t):∃T:ai,T.length<=4200*262466/\Xfc t T:=by
 obtain⟨R,hR⟩:∃R,R=262466:=⟨_,rfl⟩
 unfold Xfc;rw[<-hR];obtain⟨n,ts,rfl,hn,hl,a2⟩:=ht.list;obtain⟨T,hT,Q⟩:=lp (k:=false) (J:=5) (r:=3) (ts:=ts) (λi P=>∃(a:Bool)(o:ai) (p:Int),At ts (i*3) ([.bool a,sv o,.int .u32 p].map .v)/\P≠[]/\lY [(if a=true then 1 else 0),IntKind.i64.wrap p] [o] P) hn (R:=R) aa λi hi=>by obtain⟨a,o,h1,p,A⟩:=ny a2 hi;obtain⟨P,hS,u,q⟩:=kZ [(if a=true then 1 else 0),IntKind.i64.wrap p] [o] ar ar (by simp[h1]);have a4:SB=262144:=rfl;exact⟨P,by simp[fS]at hS;omega,a,o,p,A,u,q⟩
 refine⟨T,hT,λd =>Q _ _ _ (λ_ _ _ _ _=>rfl) ?_⟩;intro i P rb G y B t a3 m f g8 b ver cs _ hi hS hQ h ht l0 ag ix a0 hc a1 e2;obtain⟨a,o,p,A,u,q⟩:=hQ;have hg:=h.2.1.get;obtain rfl:=zb _ a0 hc A;obtain⟨j,s,w⟩:∃j,j=m/\Fb m.next m j:=⟨m,rfl,.refl _ _⟩
 have a5:=h.2.1.next;have L:∀S,(∀b,b<j.next->S.get b=j.get b)->∀(V:Nat)(c:ae),[.bool a,sv o,.int .u32 p][V]?=some c->X9 false 1 (pt b (i*3+V) ver) S=some c:=λS g V c hj=>(a1 S λb hb=>by rw[g b (by subst s;omega),s,hg b hb]).2 V c hj;rw[<-s];obtain⟨U,s1,e,a6,Y⟩:=fD j [sv o] (some (2*Qc)) ar (x:=X8 Qc [(.string ⟨#[]⟩)] 1 1 [(0,sv o)] j) fI;obtain⟨mc,s2,K,a7,Z⟩:=fD U [I _,I (IntKind.i64.wrap p)] _ ar (x:=X8 cS [(.int .i64 0)] 1 2 [(0,I ((if a=true then 1 else 0))),(1,I _)] U) fI;have W:=L j λ_ _=>rfl;have Lc:=L U λb hb=>e.get b hb;have D:=(w.trans (e.mono w.next)).trans (K.mono (aO w.next e.next));have lb:=l0 U (w.trans (e.mono w.next));have la:=l0 j w;have hq:=q d _ _ mc _ _ Z (GA.on Y K aY);have ⟨z,m4,ap,M⟩:=h.fin D u aa fJ;refine⟨z,m4,?_,M⟩;delta O H C jo T F E jn X B N jb ja js A ji;simp only[X7,X3,ix,la,ag,X4,dS,kQ,sG,gY,Xv,s1,s2,W 0 _ rfl,W 1 _ rfl,W 2 _ rfl,Lc 1 _ rfl,Lc 2 _ rfl,lb,rH a _ U,hq,e2,ap]
def VL(t:Tn)(T:ai):Prop:=∀(d:Nat)(a:ae->ae->ae->aj->Option Rs) (c b:ae),Lp false 4200 t T 1 300 (λf i p acc m=>IT (gD d) a f i p acc c b m) λp acc m=>IU (gD d) a c b acc m
theorem XjV(ht:Ty (.l 4) t):∃T:ai,T.length<=4200*300/\VL t T:=by
 obtain⟨R,hR⟩:∃R,R=300:=⟨_,rfl⟩
 unfold VL;rw[<-hR];obtain⟨n,ts,rfl,hn,hl,a2⟩:=ht.list;obtain⟨T,hT,S⟩:=lp (k:=false) (J:=1) (r:=10) (ts:=ts) (λi Q=>∃(c:Bool)(e:Int) (g:Int) (j:Int) (o:Int) (p:Int) (s:Int) (u:Int) (w:Int) (z:Int),At ts (i*10) ([.bool c,.int .i64 e,.int .u32 g,.int .i64 j,.int .u32 o,.int .i64 p,.int .u32 s,.int .u32 u,.int .u32 w,.int .u32 z].map .v)/\Q≠[]/\lY [(if c=true then 1 else 0),e,IntKind.i64.wrap g,j,IntKind.i64.wrap o,p,IntKind.i64.wrap s,IntKind.i64.wrap u,IntKind.i64.wrap w,IntKind.i64.wrap z] [] Q) hn (R:=R) aa λi hi=>by obtain⟨c,e,g,j,o,p,s,u,w,z,A⟩:=ny a2 hi;obtain⟨Q,hS,D,q⟩:=kZ [(if c=true then 1 else 0),e,IntKind.i64.wrap g,j,IntKind.i64.wrap o,p,IntKind.i64.wrap s,IntKind.i64.wrap u,IntKind.i64.wrap w,IntKind.i64.wrap z] [] ar ar ar;exact⟨Q,by simp[fS]at hS;omega,c,e,g,j,o,p,s,u,w,z,A,D,q⟩
 refine⟨T,hT,λd k0 p4 p1=>S _ _ _ (λ_ _ _ _ _=>rfl) ?_⟩;intro i Q rb G y B t a3 m f g8 b ver cs _ hi hS hQ h ht l0 ag ix a0 hc a1 e2;obtain⟨c,e,g,j,o,p,s,u,w,z,A,D,q⟩:=hQ;have hg:=h.2.1.get;obtain rfl:=zb _ a0 hc A;obtain⟨V,c1,fa,na,L,a4⟩:=qY (n:=10) m (some (2*AR+1)) sy _ rfl rfl (rfl:[.bool c,.int .i64 e,.int .u32 g,.int .i64 j,.int .u32 o,.int .i64 p,.int .u32 s,.int .u32 u,.int .u32 w,.int .u32 z].all one=true);have hl:=(a1 m hg).1;obtain⟨mc,s2,W,a5,Z⟩:=fD V [I _,I _,I _,I (j),I _,I _,I _,I _,I _,I (IntKind.i64.wrap z)] _ ar (x:=X8 cS [(.int .i64 0)] 1 10 [(0,I ((if c=true then 1 else 0))),(1,I (e)),(2,I (IntKind.i64.wrap g)),(3,I _),(4,I (IntKind.i64.wrap o)),(5,I (p)),(6,I (IntKind.i64.wrap s)),(7,I (IntKind.i64.wrap u)),(8,I (IntKind.i64.wrap w)),(9,I _)] V) fI;have a:=L V λ_ _=>rfl;have M:=fa.trans (W.mono fa.next);have hq:=q d _ 0 mc _ _ Z (GA.none _ _);have ⟨K,m4,ap,P⟩:=h.fin M D aa fJ;refine⟨K,m4,?_,P⟩;delta O H C jo T F E jn jd X B N Y U jb ja A ji;simp only[X7,X3,ix,l0 m (.refl _ _),ag,X4,dS,kQ,gY,Xv,hl,Xq,c1,bP,s2,a 0 _ rfl,a 1 _ rfl,a 2 _ rfl,a 3 _ rfl,a 4 _ rfl,a 5 _ rfl,a 6 _ rfl,a 7 _ rfl,a 8 _ rfl,a 9 _ rfl,rH c (d+2) V,hq,e2,ap]
def Xjt(t:Tn)(T:ai):Prop:=∀(d:Nat),Lp false 4200 t T 3 1048964 (λf i p acc m=>IV (gD d) f i p acc m) λp acc m=>Sq (gD d) p acc m
theorem XfJ(ht:Ty (.l 2) t):∃T:ai,T.length<=4200*1048964/\Xjt t T:=by
 obtain⟨R,hR⟩:∃R,R=1048964:=⟨_,rfl⟩
 unfold Xjt;rw[<-hR];obtain⟨n,ts,rfl,hn,hl,a4⟩:=ht.list;obtain⟨T,hT,Z⟩:=lp (k:=false) (J:=3) (r:=11) (ts:=ts) (λi W=>∃(g:ai)(j:ai) (s:Int) (u:Int) (e:Bool) (o:ai) (p:ai) (w:Int) (z:Int) (D:Int) (a:Bool),At ts (i*11) ([sv g,sv j,.int .u32 s,.int .i64 u,.bool e,sv o,sv p,.int .u8 w,.int .i64 z,.int .i64 D,.bool a].map .v)/\W≠[]/\lY [IntKind.i64.wrap s,u,(if e=true then 1 else 0),IntKind.i64.wrap w,z,D,(if a=true then 1 else 0)] [g,j,o,p] W) hn (R:=R) aa λi hi=>by obtain⟨g,h0,j,h1,s,u,e,o,h5,p,h6,w,z,D,a,A⟩:=ny a4 hi;obtain⟨W,hS,M,q⟩:=kZ [IntKind.i64.wrap s,u,(if e=true then 1 else 0),IntKind.i64.wrap w,z,D,(if a=true then 1 else 0)] [g,j,o,p] ar ar (by simp[h0,h1,h5,h6]);have a7:SB=262144:=rfl;exact⟨W,by simp[fS]at hS;omega,g,j,s,u,e,o,p,w,z,D,a,A,M,q⟩
 refine⟨T,hT,λd =>Z _ _ _ (λ_ _ _ _ _=>rfl) ?_⟩;intro i W rb G y B t a5 m f g8 b ver cs _ hi hS hQ h ht l0 ag ix a2 hc a3 e2;obtain⟨g,j,s,u,e,o,p,w,z,D,a,A,M,q⟩:=hQ;have hg:=h.2.1.get;obtain rfl:=zb _ a2 hc A;obtain⟨ma,c1,fa,na,L,a6⟩:=qY (n:=11) m (some (2*Ek+1)) vA _ rfl rfl (rfl:[sv g,sv j,.int .u32 s,.int .i64 u,.bool e,sv o,sv p,.int .u8 w,.int .i64 z,.int .i64 D,.bool a].all one=true);have hl:=(a3 m hg).1;obtain⟨mb,s1,K,a8,a0⟩:=fD ma [sv g,sv j,sv o,sv p] (some (2*Qc)) ar (x:=X8 Qc [(.string ⟨#[]⟩)] 1 4 [(0,sv g),(1,sv j),(2,sv o),(3,sv p)] ma) fI;obtain⟨mc,s2,S,a9,a1⟩:=fD mb [I _,I (u),I _,I _,I _,I _,I ((if a=true then 1 else 0))] _ ar (x:=X8 cS [(.int .i64 0)] 1 7 [(0,I (IntKind.i64.wrap s)),(1,I _),(2,I ((if e=true then 1 else 0))),(3,I (IntKind.i64.wrap w)),(4,I (z)),(5,I (D)),(6,I _)] mb) fI;have c:=L ma λ_ _=>rfl;have Lc:=L mb λb hb=>K.get b hb;have Q:=(fa.trans (K.mono fa.next)).trans (S.mono (aO fa.next K.next));have hq:=q d _ _ mc _ _ a1 (GA.on a0 S aY);have ⟨P,m4,ap,V⟩:=h.fin Q M aa fJ;refine⟨P,m4,?_,V⟩;delta O H C jo T F E jn jd X B N Y U jb ja jx A ji;simp only[X7,X3,ix,l0 m (.refl _ _),ag,X4,dS,kQ,sG,gY,Xv,Ve,hl,Xq,c1,bP,s1,s2,c 0 _ rfl,c 1 _ rfl,c 2 _ rfl,c 3 _ rfl,c 4 _ rfl,c 5 _ rfl,c 6 _ rfl,c 7 _ rfl,c 8 _ rfl,c 9 _ rfl,c 10 _ rfl,Lc 0 _ rfl,Lc 1 _ rfl,Lc 2 _ rfl,Lc 3 _ rfl,Lc 4 _ rfl,Lc 5 _ rfl,Lc 6 _ rfl,Lc 7 _ rfl,Lc 8 _ rfl,Lc 9 _ rfl,Lc 10 _ rfl,rH e (d+2) mb,rH a (d+2) mb,hq,e2,ap]
def VD(t:Tn)(T:ai):Prop:=∀(d:Nat)(a:ae->ae->ae->aj->Option Rs) (c b:ae),Lp false 4200 t T 1 300 (λf i p acc m=>Hv (gD d) a f i p acc c b m) λp acc m=>Hw (gD d) a c b acc m
theorem XgU(ht:Ty (.l 8) t):∃T:ai,T.length<=4200*300/\VD t T:=by
 obtain⟨R,hR⟩:∃R,R=300:=⟨_,rfl⟩
 unfold VD;rw[<-hR];obtain⟨n,ts,rfl,hn,hl,V⟩:=ht.list;obtain⟨T,hT,D⟩:=lp (k:=false) (J:=1) (r:=5) (ts:=ts) (λi z=>∃(a:Bool)(c:Int) (e:Int) (g:Int) (j:Int),At ts (i*5) ([.bool a,.int .u32 c,.int .i64 e,.int .i64 g,.int .i64 j].map .v)/\z≠[]/\lY [(if a=true then 1 else 0),IntKind.i64.wrap c,e,g,j] [] z) hn (R:=R) aa λi hi=>by obtain⟨a,c,e,g,j,A⟩:=ny V hi;obtain⟨z,Z,o,q⟩:=kZ [(if a=true then 1 else 0),IntKind.i64.wrap c,e,g,j] [] ar ar ar;exact⟨z,by simp[fS]at Z;omega,a,c,e,g,j,A,o,q⟩
 refine⟨T,hT,λd k0 p4 p1=>D _ _ _ (λ_ _ _ _ _=>rfl) ?_⟩;intro i z rb G y B t a0 m f g8 b ver cs _ hi Z hQ h ht l0 ag ix Q hc S e2;obtain⟨a,c,e,g,j,A,o,q⟩:=hQ;have hg:=h.2.1.get;obtain rfl:=zb _ Q hc A;obtain⟨K,c1,W,na,L,a1⟩:=qY (n:=5) m (some (2*ud+1)) mI _ rfl rfl (rfl:[.bool a,.int .u32 c,.int .i64 e,.int .i64 g,.int .i64 j].all one=true);have hl:=(S m hg).1;obtain⟨mc,s2,M,a2,P⟩:=fD K [I _,I _,I _,I _,I _] _ ar (x:=X8 cS [(.int .i64 0)] 1 5 [(0,I ((if a=true then 1 else 0))),(1,I (IntKind.i64.wrap c)),(2,I (e)),(3,I (g)),(4,I (j))] K) fI;have p:=L K λ_ _=>rfl;have u:=W.trans (M.mono W.next);have hq:=q d _ 0 mc _ _ P (GA.none _ _);have ⟨s,m4,ap,w⟩:=h.fin u o aa fJ;refine⟨s,m4,?_,w⟩;delta O H C jo T F E jn jd X B N Y U jb ja A ji;simp only[X7,X3,ix,l0 m (.refl _ _),X4,dS,kQ,gY,Xv,hl,Xq,c1,bP,s2,p 0 _ rfl,p 1 _ rfl,p 2 _ rfl,p 3 _ rfl,p 4 _ rfl,rH a _ K,hq,e2,ap]
def V3(t:Tn)(T:ai):Prop:=∀(d:Nat)(a:ae->ae->ae->aj->Option Rs) (c b:ae),Lp true 4200 t T 4 524632 (λf i p acc m=>HI (gD d) a f i p acc c b m) λp acc m=>Ds (gD d) a c b acc m
theorem XkY(ht:Ty (.l 18) t):∃T:ai,T.length<=4200*524632/\V3 t T:=by
 obtain⟨R,hR⟩:∃R,R=524632:=⟨_,rfl⟩
 unfold V3;rw[<-hR];obtain⟨n,ts,rfl,hn,hl,a0⟩:=ht.list;obtain⟨T,hT,M⟩:=lp (k:=true) (J:=4) (r:=6) (ts:=ts) (λi s=>∃(j:Int)(o:Int) (e:ai) (g:ai) (a:Bool) (c:Bool),At ts (i*6) ([.int .u32 j,.int .u32 o,sv e,sv g,.bool a,.bool c].map .v)/\s≠[]/\lY [IntKind.i64.wrap j,IntKind.i64.wrap o,(if a=true then 1 else 0),(if c=true then 1 else 0)] [e,g] s) hn (R:=R) aa λi hi=>by obtain⟨j,o,e,h2,g,h3,a,c,A⟩:=ny a0 hi;obtain⟨s,hS,K,q⟩:=kZ [IntKind.i64.wrap j,IntKind.i64.wrap o,(if a=true then 1 else 0),(if c=true then 1 else 0)] [e,g] ar ar (by simp[h2,h3]);have a3:SB=262144:=rfl;exact⟨s,by simp[fS]at hS;omega,j,o,e,g,a,c,A,K,q⟩
 refine⟨T,hT,λd k0 p4 p1=>M _ _ _ (λ_ _ _ _ _=>rfl) ?_⟩;intro i s rb G y B t a1 m f g8 b ver cs _ hi hS hQ h ht l0 ag ix W hc Z e2;obtain⟨j,o,e,g,a,c,A,K,q⟩:=hQ;have hg:=h.2.1.get;obtain rfl:=zb _ W hc A;obtain⟨ma,c1,Q,na,L,a2⟩:=qY (n:=6) m (some (2*sC+1)) sx _ rfl rfl (rfl:[.int .u32 j,.int .u32 o,sv e,sv g,.bool a,.bool c].all one=true);have hl:=(Z m hg).1;obtain⟨P,s1,p,a4,S⟩:=fD ma [sv e,sv g] (some (2*Qc)) ar (x:=X8 Qc [(.string ⟨#[]⟩)] 1 2 [(0,sv e),(1,sv g)] ma) fI;obtain⟨mc,s2,z,a5,V⟩:=fD P [I _,I (IntKind.i64.wrap o),I _,I ((if c=true then 1 else 0))] _ ar (x:=X8 cS [(.int .i64 0)] 1 4 [(0,I (IntKind.i64.wrap j)),(1,I _),(2,I ((if a=true then 1 else 0))),(3,I _)] P) fI;have u:=L ma λ_ _=>rfl;have Lc:=L P λb hb=>p.get b hb;have w:=(Q.trans (p.mono Q.next)).trans (z.mono (aO Q.next p.next));have hq:=q d _ _ mc _ _ V (GA.on S z aY);have ⟨ap,D⟩:=h.BW w (i5:=s) aa;refine⟨(sv _),mc,?_,D⟩;delta O H C jo T F E jn jd X B N Y U jb ja jr A ji;simp only[X7,X3,ix,l0 m (.refl _ _),X4,dS,kQ,sG,gY,Xv,Ve,hl,Xq,c1,bP,s1,s2,u 0 _ rfl,u 1 _ rfl,u 2 _ rfl,u 3 _ rfl,u 4 _ rfl,u 5 _ rfl,Lc 0 _ rfl,Lc 1 _ rfl,Lc 2 _ rfl,Lc 3 _ rfl,Lc 5 _ rfl,rH a _ P,rH c _ P,hq,e2,ap]
def WQ(t:Tn)(T:ai):Prop:=∀(d:Nat)(a:ae->ae->ae->aj->Option Rs) (c b:ae),Lp true 4200 t T 3 300 (λf i p acc m=>HJ (gD d) a f i p acc c b m) λp acc m=>Dt (gD d) a p acc c b m
theorem XmI(X:Ty (.l 17) t):∃T:ai,T.length<=4200*300/\WQ t T:=by
 obtain⟨R,hR⟩:∃R,R=300:=⟨_,rfl⟩
 unfold WQ;rw[<-hR];obtain⟨n,ts,rfl,hn,hl,Q⟩:=X.list;obtain⟨T,hT,z⟩:=lp (k:=true) (J:=3) (r:=2) (ts:=ts) (λi p=>∃(e:Int)(j:Int),At ts (i*2) ([.int .u32 e,.int .i64 j].map .v)/\p≠[]/\lY [IntKind.i64.wrap e,j] [] p) hn (R:=R) aa λi hi=>by obtain⟨e,j,A⟩:=ny Q hi;obtain⟨p,W,w,q⟩:=kZ [IntKind.i64.wrap e,j] [] ar ar ar;exact⟨p,by simp[fS]at W;omega,e,j,A,w,q⟩
 refine⟨T,hT,λd k0 p4 p1=>z _ _ _ (λ_ _ _ _ _=>rfl) ?_⟩;intro i p rb G y B t Z m f g8 b ver cs _ hi W hQ h X l0 ag ix O hc P e2;obtain⟨e,j,A,w,q⟩:=hQ;have hg:=h.2.1.get;obtain rfl:=zb _ O hc A;obtain⟨a,o,D⟩:∃a,a=m/\Fb m.next m a:=⟨m,rfl,.refl _ _⟩
 have a0:=h.2.1.next;have L:∀S,(∀b,b<a.next->S.get b=a.get b)->∀(U:Nat)(c:ae),[.int _ e,.int _ j][U]?=some c->X9 _ 1 _ S=some c:=λS g U c hj=>(P S λb hb=>by rw[g b (by subst o;omega),o,hg b hb]).2 U c hj;rw[<-o];obtain⟨Y,s2,K,a1,M⟩:=fD a [I _,I _] _ ar (x:=X8 cS [(.int .i64 0)] 1 2 [(0,I (IntKind.i64.wrap e)),(1,I (j))] a) fI;have V:=L a λ_ _=>rfl;have s:=D.trans (K.mono D.next);have la:=l0 a D;have hq:=q d _ 0 Y _ _ M (GA.none _ _);have ⟨ap,u⟩:=h.BW s (i5:=p) aa;refine⟨(sv _),Y,?_,u⟩;delta H C F E B N jb ja A ji;simp only[X7,X3,ix,la,X4,dS,s2,V 0 _ rfl,V 1 _ rfl,hq,e2,ap]
theorem Xe7{n:Nat}{Z:Nat->Int}{g8:ae}{G:aj}{B:Nat}(o:∀S,aM 1 g8 S=some (I n))(r:∀i,i<n->∃p z,Xd 1 g8 (I i)=some p/\Z i=IntKind.i64.wrap z/\∀S,(∀b,b<G.next->S.get b=G.get b)->X9 false 1 p S=some (.int .u32 z))(h:G.next<=B)(M':Gt):∀(k i:Nat)(d:List Int) (acc:ae) (m:aj) (f:Nat),i+k=n->GA B m acc (d.map I)->B<=m.next->(∀b,b<G.next->m.get b=G.get b)->k<f->n+d.length+k<=4294967296->∃a S,w8 M' f (I i) g8 acc m=some (a,S)/\Fb B m S/\GA B S a ((d++(List.range' i k).map Z).map I)
 |0,i,d,acc,m,f,hi,j,hB,l,hf,w=>by
  obtain⟨f,rfl⟩:∃i6,f=i6+1:=⟨f-1,aa⟩
  obtain rfl:i=n:=aa;refine⟨acc,m,?_,.refl _ _,by simpa using j⟩;unfold w8;delta H E B N jt ja jm A ji;have e1:bin .lss false true .int (I i) (I i)=some (.bool false):=Nw;simp only[o,X3,e1,X5];rfl
 |k+1,i,d,acc,m,f,hi,j,hB,l,hf,w=>by
  obtain⟨f,rfl⟩:∃i6,f=i6+1:=⟨f-1,aa⟩
  obtain⟨p,z,y,C,V⟩:=r i aa;have e1:bin .lss false true .int (I i) (I n)=some (.bool true):=Nx;have e2:=ER i true true aa;obtain⟨m1,K,f1,L,u⟩:=fD m [I (IntKind.i64.wrap z)] _ ar (x:=X8 cS [(.int .i64 0)] 1 1 [(0,I _)] m) fI;obtain⟨c,s,t,f2,g2⟩:=GA.Ft (e:=cS) (bytes:=8) (GA.on j f1 aY) aa u rfl Ny;have g:=(f1.mono hB).trans f2;obtain⟨a,S,D,F,J⟩:=Xe7 o r h M' k (i+1) (d++[Z i]) c s f aa (by rw[uY,C];exact g2) (aO hB g.next) (λb v=>by rw[g.get b aa,l b v]) aa (by rw[fy,iq,rR];omega);refine⟨a,S,?_,g.trans F,?_⟩
  ·rw[<-D];obtain⟨X,q⟩:∃X,w8 M' f (I (i+1:Nat)) g8 c s=X:=⟨_,rfl⟩
   rw[q];unfold w8;delta H E B N jt ja jm A ji;simp only[o,X3,e1,X6,y,V m l,dS,X4,K,t,e2,q]
  ·rw[Ni,lx];simpa using J
def Gn(t:Tn)(a:List Int):Prop:=∀(d B:Nat)(G m:aj) (g8:ae),Rd B G t g8->(∀b,b<G.next->m.get b=G.get b)->G.next<=m.next->∃v S,TA (d+1) Df [g8] m=some (v,S)/\Fb m.next m S/\GA m.next S v (a.map I)
theorem Yh(J:Ty (.l 11) t):∃s:List Int,s.length<=80001/\Gn t s:=by
 obtain⟨n,ts,rfl,hn,X,j⟩:=J.FJ;have hn:n<=80000:=hn;have:∀i,∃z:Int,i<n->ts[i*1+0]?=some (.v (.int .u32 z)):=λi=>by
  by_cases h:i<n
  ·obtain⟨t0,u,K⟩:=j i 0 _ h ak rfl;obtain⟨z,rfl⟩:=K.int;exact⟨z,λ_=>u⟩
  ·exact⟨0,λq=>absurd q h⟩
 obtain⟨Z,C⟩:=Y7 this;refine⟨(n:Int)::(List.range' 0 n).map λi=>IntKind.i64.wrap (Z i),cF,λd B G m y a F f=>?_⟩;rw[X8l];obtain⟨k,R,f1,o,w⟩:=fD (aD m m.next) [I n] (some (2*cS)) ar (x:=X8 cS [(.int .i64 0)] 1 1 [(0,I n)] (aD m m.next)) fI;have f1:Fb m.next _ k:=f1;have o:k.next=m.next+1:=o;obtain⟨v,Y,M,O,p⟩:=Xe7 (λS=>a.len S) (λi hi=>by obtain⟨b,ver,cs,ix,c,E,D,e⟩:=a.row hi;obtain⟨V,T,U⟩:=D 0 _ ak (C i hi);cases U.val;exact⟨_,Z i,ix,rfl,λS g=>(e S g).2 0 _ T⟩) f (aH d) n 0 [(n)] _ k 18446744073709551616 aa w aa (λb c=>by rw[f1.get b aa];exact F b c) aa cF
 obtain⟨L,P,r2,r3,Q⟩:=XlN (x:=Dg _ y (aD m m.next)) (by
  delta Dg QD QE QF H N A;simp only[a.len,X3,R,X4];exact M) (f1.trans O) (by
  rcases p with⟨q,_⟩|⟨_,b,ver,r,ty,_,rfl,W,_⟩
  ·simp at q
  ·show Nat.blt b m.next=false;cases c:Nat.blt b m.next with
   |false=>rfl
   |true=>have:=qH.mp c;omega)
 exact⟨v,L,P,r2.iP aY,GA.fb p aa λb _ _=>Q b⟩
theorem V0(a:List Int):(a.map I).all one=true:=XeZ
theorem XdB(ht:Ty (.l 15) t):∃T:ai,T.length<=4200*262500+30/\∀(d B:Nat)(G m:aj) (g8:ae),Rd B G t g8->(∀b,b<G.next->m.get b=G.get b)->G.next<=m.next->TA (d+4) CP [g8] m=some (sv T,m):=by
 obtain⟨R,hR⟩:∃R,R=262500:=⟨_,rfl⟩
 rw[<-hR];obtain⟨n,ts,rfl,hn,hl,j⟩:=ht.list;obtain⟨T,hT,z⟩:=XbV (n:=n) (R:=R) (λi s=>∃(p o r:Int)(k:ai),ts[i*4+0]?=some (.v (.int .u8 p))/\ts[i*4+1]?=some (.v (.int .i64 o))/\ts[i*4+2]?=some (.v (.int .u8 r))/\ts[i*4+3]?=some (.v (sv k))/\lY [IntKind.i64.wrap p,o,IntKind.i64.wrap r] [k] s) λi hi=>by obtain⟨t0,O,k0⟩:=j i 0 _ hi ak rfl;obtain⟨t1,P,k1⟩:=j i 1 _ hi ak rfl;obtain⟨t2,Q,k2⟩:=j i 2 _ hi ak rfl;obtain⟨t3,U,k3⟩:=j i 3 _ hi ak rfl;obtain⟨p,rfl⟩:=k0.int;obtain⟨o,rfl⟩:=k1.int;obtain⟨r,rfl⟩:=k2.int;obtain⟨k,rfl,h3⟩:=k3.str;obtain⟨s,hS,_,q⟩:=kZ [IntKind.i64.wrap p,o,IntKind.i64.wrap r] [k] ar ar (by simp[h3]);have a5:SB=262144:=rfl;exact⟨s,by simp[fS]at hS;omega,p,o,r,k,O,P,Q,U,q⟩
 obtain⟨M,u,_,q0⟩:=kZ [(n:Int)] [] ar ar ar;have a8:n*R<=4200*R:=lU _ hn;refine⟨M++T,by simp[fS]at u;simp;omega,λd B G m g8 g hm a7=>?_⟩;rw[X5y];obtain⟨Z,s1,f1,n1,g1⟩:=fD (aD m m.next) [I n] (some (2*cS)) ar (x:=X8 cS [(.int .i64 0)] 1 1 [(0,I n)] (aD m m.next)) fI;have f1:Fb m.next (aD m m.next) Z:=f1;have Y:=q0 d m.next 0 Z _ _ g1 (GA.none _ _);have A1:∀(t:ai)(a:ae) (S:aj) (f:Nat),a=sv t/\Fb m.next (aD m m.next) S->vj ((aH (d+3))) (f+1) (I n) g8 a S=some (a,S):=λt a m f h=>by have e1:bin .lss false true .int (I n) (I n)=some (.bool false):=Nw;unfold vj;delta H C F E B N jb ja js A ji;simp only[g.len,X3,e1,X5];rfl
 obtain⟨a4,m2,l1,l2,l3⟩:=z (λf i a m=>vj ((aH (d+3))) f i g8 a m) (λa m=>some (a,m)) (λt a S=>a=sv t/\Fb m.next (aD m m.next) S) A1 (λi hi s hS hQ t a S f h ht=>by
  obtain⟨p,o,r,k,O,P,Q,U,q⟩:=hQ;obtain⟨rfl,W⟩:=h;have e1:bin .lss false true .int (I i) (I n)=some (.bool true):=Nx;have e2:=ER i true true aa;obtain⟨b,ver,cs,ix,D,a6,J,w⟩:=g.row hi;obtain⟨c0,x0,y0⟩:=J 0 _ ak O;obtain⟨c1,x1,y1⟩:=J 1 _ ak P;obtain⟨c2,x2,y2⟩:=J 2 _ ak Q;obtain⟨c3,x3,y3⟩:=J 3 _ ak U;cases y0.val;cases y1.val;cases y2.val;cases y3.val;have hg:∀b,b<G.next->S.get b=G.get b:=λb D=>by rw[W.get b aa];exact hm b D
  obtain⟨K,s2,V,na,ga⟩:=fD S [I _,I o,I (IntKind.i64.wrap r)] _ ar (x:=X8 cS [(.int .i64 0)] 1 3 [(0,I (IntKind.i64.wrap p)),(1,I o),(2,I _)] S) fI;obtain⟨mb,s3,fb,nb,gb⟩:=fD K [sv k] (some (2*Qc)) ar (x:=X8 Qc [(.string ⟨#[]⟩)] 1 1 [(0,sv k)] K) fI;have hq:=q d _ _ mb _ _ (GA.on ga fb aY) gb;have e:=W.next;have e:m.next<=S.next:=e;have L:∀(y:Nat)(c:ae),cs[y]?=some c->X9 _ 1 (pt b (i*4+y) ver) S=some c:=(w S hg).2;have L2:∀(y:Nat)(c:ae),cs[y]?=some c->X9 _ 1 (pt b (i*4+y) ver) K=some c:=(w K λb D=>by rw[V.get b aa,hg b D]).2;have ix:Xd 4 g8 _=some (pt b (i*4) ver):=ix;refine⟨sv _,mb,?_,rfl,(W.trans (V.mono e)).trans (fb.mono (aO e V.next))⟩;obtain⟨X,hX⟩:∃X,vj (aH (d+3)) f (I (i+1:Nat)) g8 (sv (t++s)) mb=X:=⟨_,rfl⟩
  rw[hX];unfold vj;delta H C F E B N jb ja js A ji;have l0:X9 _ 1 (pt b (i*4) ver) S=some _:=L 0 _ x0;simp only[g.len,X3,e1,X6,ix,X7,gp,l0,L 1 _ x1,L 2 _ x2,dS,X4,s2,L2 3 _ x3,s3,hq,Qu _ _ t s aa,e2,hX]) M (sv M) Z 18446744073709551616 ⟨rfl,f1⟩ (by simp[fS]at u;omega) aa
 subst l2;refine cD ?_ l3 rfl;delta GR OZ O0 O1 H C N A;simp only[g.len,X3,s1,X4,Y];exact l1
def V7(t:Tn)(T:ai):Prop:=∀(d:Nat)(a:ae->ae->ae->aj->Option Rs) (c b:ae),Lp false 4200 t T 1 (22*80000+100) (λf i p acc m=>Hx (gD d) a f i p acc c b m) λp acc m=>HE (gD d) a c b acc m
theorem XiT(U:Ty (.l 10) t):∃T:ai,T.length<=4200*(22*80000+100)/\V7 t T:=by
 obtain⟨R,hR⟩:∃R,R=22*80000+100:=⟨_,rfl⟩
 unfold V7;rw[<-hR];obtain⟨n,ts,rfl,hn,hl,M⟩:=U.list;obtain⟨T,hT,u⟩:=lp (k:=false) (J:=1) (r:=2) (ts:=ts) (λi s=>∃(c:Bool)(w:Nat) (a:List Tn) (j:List Int),At ts (i*2) [.v (.bool c),.l (aN 11) w a]/\Gn (.l (aN 11) w a) j/\j.length<=80001/\s≠[]/\lY ((if c=true then 1 else 0)::j) [] s) hn (R:=R) aa λi hi=>by obtain⟨c,t1,W,A⟩:=ny M hi;obtain⟨j,V,P⟩:=Yh W;obtain⟨w,a,rfl,-⟩:=W.FJ;obtain⟨s,Q,g,q⟩:=kZ ((if c=true then 1 else 0)::j) [] cF ar ar;exact⟨s,by simp[fS]at Q;omega,c,w,a,j,A,P,V,g,q⟩
 refine⟨T,hT,λd k0 p4 p1=>u _ _ _ (λ_ _ _ _ _=>rfl) ?_⟩;intro i s rb G y B t Z m f g8 b ver cs _ hi Q hQ h U l0 ag ix D hc K e2;obtain⟨c,w,a,j,A,P,V,g,q⟩:=hQ;have S:=h.2.1.get;have a1:=h.2.1.next;obtain⟨_,rfl,c1,_,rfl,Y,rfl⟩:=uQ D hc A;have L:=(K m S).2;obtain⟨mb,s2,fb,nb,gb⟩:=fD m [I (if c=true then 1 else 0)] (some (2*cS)) ar (x:=X8 cS [(.int .i64 0)] 1 1 [(0,I (if c=true then 1 else 0))] m) fI;obtain⟨v1,mc,s3,z,gc⟩:=P (d+2) B G mb c1 Y (λb hb=>by rw[fb.get b aa,S b hb]) aa;have a0:=z.next;obtain⟨v2,md,s4,fd,gd⟩:=GA.Ft (e:=cS) (bytes:=8) (GA.on gb z aY) aa gc (V0 _) Ny;have hq:=q d m.next 0 md _ _ gd (GA.none _ _);obtain⟨o,m4,ap,p⟩:=h.fin ((fb.trans (z.mono aa)).trans fd) g aa fJ;refine⟨o,m4,?_,p⟩;have ix:=ix;delta O H C jo T F E jn X B N jb ja A ji;simp only[X7,X3,ix,l0 m (.refl _ _),ag,X4,Y.again,L 0 _ rfl,L 1 _ rfl,rH c _ m,s2,s3,s4,hq,ap,e2,gY,Xv]
def Vp(t:Tn)(T:ai):Prop:=∀(d:Nat)(a:ae->ae->ae->aj->Option Rs) (c b:ae),Lp false 4200 t T 1 (44*80000+525000) (λf i p acc m=>GZ (gD d) a f i p acc c b m) λp acc m=>Hf (gD d) a c b acc m
theorem Xy0(ht:Ty (.l 13) t):∃T:ai,T.length<=4200*(44*80000+525000)/\Vp t T:=by
 obtain⟨R,hR⟩:∃R,R=44*80000+525000:=⟨_,rfl⟩
 unfold Vp;rw[<-hR];obtain⟨n,ts,rfl,hn,hl,av⟩:=ht.list;obtain⟨T,hT,ab⟩:=lp (k:=false) (J:=1) (r:=15) (ts:=ts) (λi i5=>∃(z:Int)(D:Int) (u:ai) (w:ai) (K:Int) (M:Int) (P:Int) (Q:Int) (S:Int) (V:Int) (a:Bool) (c:Int) (g:Int) (n1 n2:Nat) (p o:List Tn) (zs zr:List Int),At ts (i*15) [.v (.int .i64 z),.v (.int .u8 D),.v (sv u),.v (sv w),.v (.int .i64 K),.v (.int .i64 M),.v (.int .i64 P),.v (.int .i64 Q),.v (.int .i64 S),.v (.int .i64 V),.l (aN 11) n1 p,.v (.bool a),.l (aN 11) n2 o,.v (.int .u32 c),.v (.int .i64 g)]/\Gn (.l (aN 11) n1 p) zs/\Gn (.l (aN 11) n2 o) zr/\zs.length<=80001/\zr.length<=80001/\i5≠[]/\lY ([z,IntKind.i64.wrap D,K,M,P,Q,S,V,(if a=true then 1 else 0),IntKind.i64.wrap c,g]++zs++zr) [u,w] i5) hn (R:=R) aa λi hi=>by obtain⟨z,D,u,h2,w,h3,K,M,P,Q,S,V,t10,a8,a,t12,a9,c,g,A⟩:=ny av hi;obtain⟨zs,hz,q1⟩:=Yh a8;obtain⟨zr,a7,q2⟩:=Yh a9;obtain⟨n1,p,rfl,-⟩:=a8.FJ;obtain⟨n2,o,rfl,-⟩:=a9.FJ;obtain⟨i5,hS,Z,q⟩:=kZ ([z,IntKind.i64.wrap D,K,M,P,Q,S,V,(if a=true then 1 else 0),IntKind.i64.wrap c,g]++zs++zr) [u,w] cF ar (by simp[h2,h3]);have aB:SB=262144:=rfl;exact⟨i5,by simp[fS]at hS;omega,z,D,u,w,K,M,P,Q,S,V,a,c,g,n1,n2,p,o,zs,zr,A,q1,q2,hz,a7,Z,q⟩
 refine⟨T,hT,λd k0 p4 p1=>ab _ _ _ (λ_ _ _ _ _=>rfl) ?_⟩;intro i i5 rb G y B t aw m f g8 b ver cs _ hi hS hQ h ht l0 ag ix am hc an e2;obtain⟨z,D,u,w,K,M,P,Q,S,V,a,c,g,n1,n2,p,o,zs,zr,A,q1,q2,hz,a7,Z,q⟩:=hQ;have hg:=h.2.1.get;have b4:=h.2.1.next;obtain⟨_,rfl,_,rfl,_,rfl,_,rfl,_,rfl,_,rfl,_,rfl,_,rfl,_,rfl,_,rfl,a1,_,rfl,ac,_,rfl,a2,_,rfl,al,_,rfl,_,rfl,rfl⟩:=uQ am hc A;have hl:=(an m hg).1;obtain⟨ma,c1,fa,na,L,aA⟩:=qY (n:=15) m (some (2*nL+1)) qW [.int .i64 z,.int .u8 D,sv u,sv w,.int .i64 K,.int .i64 M,.int .i64 P,.int .i64 Q,.int .i64 S,.int .i64 V,a1,.bool a,a2,.int .u32 c,.int .i64 g] rfl rfl (by simp only[km,ac.one,al.one]<;>rfl);obtain⟨mb,s2,fb,nb,gb⟩:=fD ma [I (z),I (IntKind.i64.wrap D),I (K),I (M),I (P),I (Q),I (S),I (V),I ((if a=true then 1 else 0)),I (IntKind.i64.wrap c),I (g)] (some (2*cS)) ar (x:=X8 cS [(.int .i64 0)] 1 11 [(0,I (z)),(1,I (IntKind.i64.wrap D)),(2,I (K)),(3,I (M)),(4,I (P)),(5,I (Q)),(6,I (S)),(7,I (V)),(8,I ((if a=true then 1 else 0))),(9,I (IntKind.i64.wrap c)),(10,I (g))] ma) fI;have a3:=fa.trans (fb.mono fa.next);obtain⟨v1,mc,s3,fc,gc⟩:=q1 (d+2) B G mb a1 ac (λb s=>by rw[a3.get b aa,hg b s]) aa;have b0:=fc.next;obtain⟨v2,md,s4,fd,gd⟩:=GA.Ft (e:=cS) (bytes:=8) (GA.on gb fc aY) aa gc (V0 _) Ny;have b1:=fd.next;have W:=(fc.mono (by omega:ma.next<=mb.next)).trans fd;have a5:=a3.trans (W.mono fa.next);obtain⟨v3,me,s5,fe,ge⟩:=q2 (d+2) B G md a2 al (λb s=>by rw[a5.get b aa,hg b s]) aa;have b2:=fe.next;obtain⟨v4,mf,s6,ff,gf⟩:=GA.Ft (e:=cS) (bytes:=8) (GA.on gd fe aY) aa ge (V0 _) (by simp only[fits,bT,eE,fy,gB,iq,rR];omega);have b3:=ff.next;have a4:=(fe.mono (by omega:ma.next<=md.next)).trans ff;obtain⟨mh,s7,fh,nh,gh⟩:=fD mf [sv u,sv w] (some (2*Qc)) ar (x:=X8 Qc [(.string ⟨#[]⟩)] 1 2 [(0,sv u),(1,sv w)] mf) fI;have hq:=q d ma.next mf.next mh _ _ (by rw[uY,uY];exact GA.on gf fh aY) gh;have j:=L ma λ_ _=>rfl;have Lb:=L mb λb s=>fb.get b s;have Ld:=L md λb s=>by rw[W.get b aa,fb.get b s]
 have Lf:=L mf λb s=>by rw[a4.get b aa,W.get b aa,fb.get b s]
 obtain⟨a0,m4,ap,a6⟩:=h.fin (((a5.trans (a4.mono fa.next))).trans (fh.mono aa)) Z aa fJ;refine⟨a0,m4,?_,a6⟩;have ix:=ix;delta O H C jo T F E jn jd X B N Y U jb ja jr A ji;simp only[X7,X3,ix,l0 m (.refl _ _),ag,hl,Xq,c1,bP,X4,kQ,sG,dS,j 0 _ rfl,j 1 _ rfl,j 4 _ rfl,j 5 _ rfl,j 6 _ rfl,j 7 _ rfl,j 8 _ rfl,j 9 _ rfl,j 11 _ rfl,j 13 _ rfl,j 14 _ rfl,rH a (d+2) ma,s2,Lb 10 _ rfl,s3,s4,Ld 12 _ rfl,s5,s6,Lf 2 _ rfl,Lf 3 _ rfl,s7,hq,ap,e2,gY,Xv]
def Xhk(t:Tn)(T:ai):Prop:=∀(d:Nat),Lp false 4200 t T 4 (4200*300+262500) (λf i p acc m=>qS (gD d) f i p acc m) (λp acc m=>Sr (gD d) p acc m) λrb n=>rb<n
theorem Xyi(ht:Ty (.l 3) t):∃T:ai,T.length<=4200*(4200*300+262500)/\Xhk t T:=by
 obtain⟨R,hR⟩:∃R,R=4200*300+262500:=⟨_,rfl⟩
 unfold Xhk;rw[<-hR];obtain⟨n,ts,rfl,hn,hl,V⟩:=ht.list;obtain⟨T,hT,z⟩:=lp (C:=λX n=>X<n) (k:=false) (J:=4) (r:=2) (ts:=ts) (λi i5=>∃(g:ai)(e:Nat) (a:List Tn) (c o:ai),At ts (i*2) [.v (sv g),.l (aN 4) e a]/\i5=c++o/\c.length<=262500/\c≠[]/\(lY [(e:Int)] [g] c)/\VL (.l (aN 4) e a) o) hn (R:=R) aa λi hi=>by
  obtain⟨g,h0,t1,D,A⟩:=ny V hi;obtain⟨o,a2,W⟩:=XjV D;obtain⟨e,a,rfl,-⟩:=D.list;obtain⟨c,hS,j,q⟩:=kZ [(e)] [g] ar ar (by simp[h0]);have a1:SB=262144:=rfl;have w:c.length<=262500:=by simp[fS]at hS;omega
  exact⟨c++o,rX,g,e,a,c,o,A,rfl,w,j,q,W⟩
 refine⟨T,hT,λd=>z _ _ _ (λ_ _ _ _ _=>rfl) ?_⟩;intro i i5 X G y B t a0 m f g8 b ver cs hC hi hS hQ h ht l0 ag ix O hc S e2;obtain⟨g,e,a,c,o,A,rfl,w,j,q,W⟩:=hQ;have hg:=h.2.1.get;obtain⟨_,rfl,c1,_,rfl,Z,rfl⟩:=uQ O hc A;have hl:=(S m hg).1;obtain⟨E,s1,fa,na,L,M⟩:=qY (n:=2) m (some (2*Kh+1)) vy [sv g,c1] rfl rfl (by simp only[km,Z.one]<;>rfl);obtain⟨K,s2,fb,nb,gb⟩:=fD E [I e] (some (2*cS)) ar (x:=X8 cS [(.int .i64 0)] 1 1 [(0,I e)] E) fI;obtain⟨mc,s3,fc,nc,gc⟩:=fD K [sv g] (some (2*Qc)) ar (x:=X8 Qc [(.string ⟨#[]⟩)] 1 1 [(0,sv g)] K) fI;have hq:=q d E.next K.next mc _ _ (GA.on gb fc aY) gc;have u:=(fb.trans (fc.mono fb.next))
 have Q:=h.df (fa.trans (u.mono fa.next)) (rc:=m.next) ((u.get m.next aa).trans M) aY aa;have ⟨p,m4,ap,P⟩:=Q.fin (.refl _ _) j aa fJ;obtain⟨s,m5,D,k2⟩:=W d (qS (gD d) f) (I i) (pt X 0 0) B m.next G _ _ c1 trivial Z rfl (t++c) p m4 (gD d).bx P rX tN;refine⟨s,m5,?_,by rw[<-lV];exact h.out k2 hC⟩;have La:=L E λ_ _=>rfl;have Lb:=L K λb hb=>fb.get b hb;delta RT RU RV RW H C F jd N Y U jb js A;simp only[X7,X3,ix,l0 m (.refl _ _),hl,Xq,s1,bP,X4,Z.len,La 1 _ rfl,Lb 0 _ rfl,s2,s3,hq,ap,];refine D.trans ?_;delta IU B ja A;simp only[e2,X3]
def Xju(t:Tn)(T:ai):Prop:=∀(d:Nat),Lp false 4200 t T 7 (4200*300+262500) (λf i p acc m=>Qx (gD d) f i p acc m) (λp acc m=>Db (gD d) p acc m) λrb n=>rb<n
theorem XgE(ht:Ty (.l 7) t):∃T:ai,T.length<=4200*(4200*300+262500)/\Xju t T:=by
 obtain⟨R,hR⟩:∃R,R=4200*300+262500:=⟨_,rfl⟩
 unfold Xju;rw[<-hR];obtain⟨n,ts,rfl,hn,hl,V⟩:=ht.list;obtain⟨T,hT,z⟩:=lp (C:=λX n=>X<n) (k:=false) (J:=7) (r:=2) (ts:=ts) (λi i5=>∃(g:ai)(e:Nat) (a:List Tn) (c o:ai),At ts (i*2) [.v (sv g),.l (aN 8) e a]/\i5=c++o/\c.length<=262500/\c≠[]/\(lY [(e:Int)] [g] c)/\VD (.l (aN 8) e a) o) hn (R:=R) aa λi hi=>by
  obtain⟨g,h0,t1,D,A⟩:=ny V hi;obtain⟨o,a2,W⟩:=XgU D;obtain⟨e,a,rfl,-⟩:=D.list;obtain⟨c,hS,j,q⟩:=kZ [(e)] [g] ar ar (by simp[h0]);have a1:SB=262144:=rfl;have w:c.length<=262500:=by simp[fS]at hS;omega
  exact⟨c++o,rX,g,e,a,c,o,A,rfl,w,j,q,W⟩
 refine⟨T,hT,λd=>z _ _ _ (λ_ _ _ _ _=>rfl) ?_⟩;intro i i5 X G y B t a0 m f g8 b ver cs hC hi hS hQ h ht l0 ag ix O hc S e2;obtain⟨g,e,a,c,o,A,rfl,w,j,q,W⟩:=hQ;have hg:=h.2.1.get;obtain⟨_,rfl,c1,_,rfl,Z,rfl⟩:=uQ O hc A;have hl:=(S m hg).1;obtain⟨E,s1,fa,na,L,M⟩:=qY (n:=2) m (some (2*vv+1)) vu [sv g,c1] rfl rfl (by simp only[km,Z.one]<;>rfl);obtain⟨K,s2,fb,nb,gb⟩:=fD E [I e] (some (2*cS)) ar (x:=X8 cS [(.int .i64 0)] 1 1 [(0,I e)] E) fI;obtain⟨mc,s3,fc,nc,gc⟩:=fD K [sv g] (some (2*Qc)) ar (x:=X8 Qc [(.string ⟨#[]⟩)] 1 1 [(0,sv g)] K) fI;have hq:=q d E.next K.next mc _ _ (GA.on gb fc aY) gc;have u:=(fb.trans (fc.mono fb.next))
 have Q:=h.df (fa.trans (u.mono fa.next)) (rc:=m.next) ((u.get m.next aa).trans M) aY aa;have ⟨p,m4,ap,P⟩:=Q.fin (.refl _ _) j aa fJ;obtain⟨s,m5,D,k2⟩:=W d (Qx (gD d) f) (I i) (pt X 0 0) B m.next G _ _ c1 trivial Z rfl (t++c) p m4 (gD d).bx P rX tN;refine⟨s,m5,?_,by rw[<-lV];exact h.out k2 hC⟩;have La:=L E λ_ _=>rfl;have Lb:=L K λb hb=>fb.get b hb;delta Pc Pd Pe Pf H C F jd N Y U jb js A;simp only[X7,X3,ix,l0 m (.refl _ _),hl,Xq,s1,bP,X4,Z.len,La 1 _ rfl,Lb 0 _ rfl,s2,s3,hq,ap,];refine D.trans ?_;delta Hw B ja A;simp only[e2,X3]
def Xk7(t:Tn)(T:ai):Prop:=∀(d:Nat),Lp false 4200 t T 8 (4200*(22*80000+100)+262500) (λf i p acc m=>qO (gD d) f i p acc m) (λp acc m=>Dc (gD d) acc m) λrb n=>rb<n
theorem XfP(ht:Ty (.l 9) t):∃T:ai,T.length<=4200*(4200*(22*80000+100)+262500)/\Xk7 t T:=by
 obtain⟨R,hR⟩:∃R,R=4200*(22*80000+100)+262500:=⟨_,rfl⟩
 unfold Xk7;rw[<-hR];obtain⟨n,ts,rfl,hn,hl,V⟩:=ht.list;obtain⟨T,hT,z⟩:=lp (C:=λX n=>X<n) (k:=false) (J:=8) (r:=2) (ts:=ts) (λi i5=>∃(g:ai)(e:Nat) (a:List Tn) (c o:ai),At ts (i*2) [.v (sv g),.l (aN 10) e a]/\i5=c++o/\c.length<=262500/\c≠[]/\(lY [(e:Int)] [g] c)/\V7 (.l (aN 10) e a) o) hn (R:=R) aa λi hi=>by
  obtain⟨g,h0,t1,D,A⟩:=ny V hi;obtain⟨o,a2,W⟩:=XiT D;obtain⟨e,a,rfl,-⟩:=D.list;obtain⟨c,hS,j,q⟩:=kZ [(e)] [g] ar ar (by simp[h0]);have a1:SB=262144:=rfl;have w:c.length<=262500:=by simp[fS]at hS;omega
  exact⟨c++o,rX,g,e,a,c,o,A,rfl,w,j,q,W⟩
 refine⟨T,hT,λd=>z _ _ _ (λ_ _ _ _ _=>rfl) ?_⟩;intro i i5 X G y B t a0 m f g8 b ver cs hC hi hS hQ h ht l0 ag ix O hc S e2;obtain⟨g,e,a,c,o,A,rfl,w,j,q,W⟩:=hQ;have hg:=h.2.1.get;obtain⟨_,rfl,c1,_,rfl,Z,rfl⟩:=uQ O hc A;have hl:=(S m hg).1;obtain⟨E,s1,fa,na,L,M⟩:=qY (n:=2) m (some (2*vt+1)) tZ [sv g,c1] rfl rfl (by simp only[km,Z.one]<;>rfl);obtain⟨K,s2,fb,nb,gb⟩:=fD E [I e] (some (2*cS)) ar (x:=X8 cS [(.int .i64 0)] 1 1 [(0,I e)] E) fI;obtain⟨mc,s3,fc,nc,gc⟩:=fD K [sv g] (some (2*Qc)) ar (x:=X8 Qc [(.string ⟨#[]⟩)] 1 1 [(0,sv g)] K) fI;have hq:=q d E.next K.next mc _ _ (GA.on gb fc aY) gc;have u:=(fb.trans (fc.mono fb.next))
 have Q:=h.df (fa.trans (u.mono fa.next)) (rc:=m.next) ((u.get m.next aa).trans M) aY aa;have ⟨p,m4,ap,P⟩:=Q.fin (.refl _ _) j aa fJ;obtain⟨s,m5,D,k2⟩:=W d (qO (gD d) f) (I i) (pt X 0 0) B m.next G _ _ c1 trivial Z rfl (t++c) p m4 (gD d).bx P rX tN;refine⟨s,m5,?_,by rw[<-lV];exact h.out k2 hC⟩;have La:=L E λ_ _=>rfl;have Lb:=L K λb hb=>fb.get b hb;delta PB PC PE Pg H C F jd N Y U jb js A;simp only[X7,X3,ix,l0 m (.refl _ _),hl,Xq,s1,bP,X4,Z.len,La 1 _ rfl,Lb 0 _ rfl,s2,s3,hq,ap,];refine D.trans ?_;delta HE B ja A;simp only[e2,X3]
def Xhp(t:Tn)(T:ai):Prop:=∀(d:Nat),Lp false 4200 t T 9 (4200*(44*80000+525000)+262500) (λf i p acc m=>Qt (gD d) f i p acc m) (λp acc m=>CX (gD d) acc m) λrb n=>rb<n
theorem Xwk(ht:Ty (.l 12) t):∃T:ai,T.length<=4200*(4200*(44*80000+525000)+262500)/\Xhp t T:=by
 obtain⟨R,hR⟩:∃R,R=4200*(44*80000+525000)+262500:=⟨_,rfl⟩
 unfold Xhp;rw[<-hR];obtain⟨n,ts,rfl,hn,hl,a1⟩:=ht.list;obtain⟨T,hT,D⟩:=lp (C:=λrb n=>rb<n) (k:=false) (J:=9) (r:=3) (ts:=ts) (λi i5=>∃(j:ai)(e:Bool) (g:Nat) (a:List Tn) (c p:ai),At ts (i*3) [.v (sv j),.l (aN 13) g a,.v (.bool e)]/\i5=c++p/\c.length<=262500/\c≠[]/\(lY [(g:Int),(if e=true then 1 else 0)] [j] c)/\Vp (.l (aN 13) g a) p) hn (R:=R) aa λi hi=>by
  obtain⟨j,h0,t1,K,e,A⟩:=ny a1 hi;obtain⟨p,a4,q1⟩:=Xy0 K;obtain⟨g,a,rfl,-⟩:=K.list;obtain⟨c,hS,o,q⟩:=kZ [(g),(if e=true then 1 else 0)] [j] ar ar (by simp[h0]);have a3:SB=262144:=rfl;have z:c.length<=262500:=by simp[fS]at hS;omega
  exact⟨c++p,rX,j,e,g,a,c,p,A,rfl,z,o,q,q1⟩
 refine⟨T,hT,λd=>D _ _ _ (λ_ _ _ _ _=>rfl) ?_⟩;intro i i5 rb G y B t a2 m f g8 b ver cs hC hi hS hQ h ht l0 ag ix V hc a0 e2;obtain⟨j,e,g,a,c,p,A,rfl,z,o,q,q1⟩:=hQ;have hg:=h.2.1.get;obtain⟨_,rfl,c1,_,rfl,P,_,rfl,rfl⟩:=uQ V hc A;have hl:=(a0 m hg).1;obtain⟨M,s1,fa,na,L,S⟩:=qY (n:=3) m (some (2*su+1)) sq [sv j,c1,.bool e] rfl rfl (by simp only[km,P.one]<;>rfl);obtain⟨E,s2,fb,nb,gb⟩:=fD M [sv j] (some (2*Qc)) ar (x:=X8 Qc [(.string ⟨#[]⟩)] 1 1 [(0,sv j)] M) fI;obtain⟨mc,s3,fc,nc,gc⟩:=fD E [I g,I (if e=true then 1 else 0)] _ ar (x:=X8 cS [(.int .i64 0)] 1 2 [(0,I g),(1,I _)] E) fI;have hq:=q d E.next M.next mc _ _ gc (GA.on gb fc aY);have w:=(fb.trans (fc.mono fb.next))
 have Z:=h.df (fa.trans (w.mono fa.next)) (rc:=m.next) ((w.get m.next aa).trans S) aY aa;have ⟨s,m4,ap,W⟩:=Z.fin (.refl _ _) o aa fJ;obtain⟨u,m5,K,k2⟩:=q1 d (Qt (gD d) f) (I i) (pt rb 0 0) B m.next G _ _ c1 trivial P rfl (t++c) s m4 (gD d).bx W rX tN;refine⟨u,m5,?_,by rw[<-lV];exact h.out k2 hC⟩;have Q:=L M λ_ _=>rfl;have Lb:=L E λb hb=>fb.get b hb;delta OH OI OJ OK O H C jo T F jn jd X N Y U jb js A;simp only[X7,X3,ix,l0 m (.refl _ _),hl,Xq,s1,bP,X4,sG,P.again,P.len,Q 0 _ rfl,Q 1 _ rfl,Lb 0 _ rfl,Lb 1 _ rfl,Q 2 _ rfl,rH e _ E,s2,s3,hq,ap,gY,Xv];refine K.trans ?_;delta Hf B ja A;simp only[e2,X3]
def XaA(t:Tn)(T:ai):Prop:=∀(d B:Nat)(G m:aj) (g8:ae),Rd B G t g8->(∀b,b<G.next->m.get b=G.get b)->G.next<=m.next->TA (d+4) CP [g8] m=some (sv T,m)
def Xpj(t:Tn)(T:ai):Prop:=∀(d:Nat),Lp true 4200 t T 10 (4200*262500+263000) (λf i p acc m=>HK (gD (d+1)) f i p acc m) (λp acc m=>Dh (gD (d+1)) acc m) λrb n=>rb<n
theorem XkJ(Z:Ty (.l 14) t):∃T:ai,T.length<=4200*(4200*262500+263000)/\Xpj t T:=by
 obtain⟨R,hR⟩:∃R,R=4200*262500+263000:=⟨_,rfl⟩
 unfold Xpj;rw[<-hR];obtain⟨n,ts,rfl,hn,hl,W⟩:=Z.list;obtain⟨T,hT,w⟩:=lp (C:=λrb n=>rb<n) (k:=true) (J:=10) (r:=3) (ts:=ts) (λi M=>∃(g:ai)(p:Int) (D:Nat) (c:List Tn) (e j:ai),At ts (i*3) [.v (sv g),.v (.int .u32 p),.l (aN 15) D c]/\M=e++j/\(lY [IntKind.i64.wrap p] [g] e)/\XaA (.l (aN 15) D c) j) hn (R:=R) aa λi hi=>by
  obtain⟨g,h0,p,t2,k2,A⟩:=ny W hi;obtain⟨j,a3,Y⟩:=XdB k2;obtain⟨D,c,rfl,-⟩:=k2.list;obtain⟨e,Q,_,q⟩:=kZ [IntKind.i64.wrap p] [g] ar ar (by simp[h0]);have a2:SB=262144:=rfl;have a1:e.length<=262500:=by simp[fS]at Q;omega
  exact⟨e++j,rX,g,p,D,c,e,j,A,rfl,q,Y⟩
 refine⟨T,hT,λd=>w _ _ _ (λ_ _ _ _ _=>rfl) ?_⟩;intro i M rb G y B t a0 m f g8 b ver cs hC hi Q hQ h Z l0 ag ix S hc o e2;obtain⟨g,p,D,c,e,j,A,rfl,q,Y⟩:=hQ;have L:=h.2.1.get;have a4:=h.2.1.next;obtain⟨_,rfl,_,rfl,c2,_,rfl,y2,rfl⟩:=uQ S hc A;obtain⟨P,s1,K,na,ga⟩:=fD m [I (IntKind.i64.wrap p)] _ ar (x:=X8 cS [(.int .i64 0)] 1 1 [(0,I _)] m) fI;obtain⟨z,s2,fb,nb,gb⟩:=fD P [sv g] (some (2*Qc)) ar (x:=X8 Qc [(.string ⟨#[]⟩)] 1 1 [(0,sv g)] P) fI;have a:=K.trans (fb.mono K.next);have hq:=q (d+1) _ _ z _ _ (GA.on ga fb aY) gb;have V:=Y d B G z c2 y2 (λb s=>by rw[a.get b aa,L b s]) aa;rw[fy]at Q;obtain⟨ap,U⟩:=h.BW a (i5:=e) aa;obtain⟨BJ,u⟩:=U.BW (.refl _ _) (i5:=j) aq;obtain⟨rfl,-⟩:=h;refine⟨_,z,?_,by rwa[<-lV]⟩;have L1:=(o m L).2;have L2:=(o P λb s=>by rw[K.get b aa,L b s]).2;have L3:=(o z λb s=>by rw[a.get b aa,L b s]).2;have ix:=ix;delta O H C jo T F E jn X B N jb ja js A ji;simp only[X7,X3,ix,l0 m (.refl _ _),l0 P K,l0 z a,ag,X4,dS,L1 1 _ rfl,s1,L2 0 _ rfl,s2,L3 2 _ rfl,y2.again,hq,V,ap,BJ,e2,gY,Xv]
def Xt0(t:Tn)(T:ai):Prop:=∀(d:Nat),Lp true 4200 t T 11 (4200*787500+263000) (λf i p acc m=>Qn (gD (d+1)) f i p acc m) (λp acc m=>Du (gD (d+1)) acc m) λrb n=>rb<n
theorem XmH(ht:Ty (.l 16) t):∃T:ai,T.length<=4200*(4200*787500+263000)/\Xt0 t T:=by
 obtain⟨R,hR⟩:∃R,R=4200*787500+263000:=⟨_,rfl⟩
 unfold Xt0;rw[<-hR];obtain⟨n,ts,rfl,hn,hl,a8⟩:=ht.list;obtain⟨T,hT,a0⟩:=lp (C:=λrb n=>rb<n) (k:=true) (J:=11) (r:=6) (ts:=ts) (λi i5=>∃(s:ai)(z D:Int) (o p n5:Nat) (c e g:List Tn) (a j u E:ai),At ts (i*6) [.v (sv s),.v (.int .u32 z),.v (.int .u32 D),.l (aN 17) o c,.l (aN 18) p e,.l (aN 15) n5 g]/\i5=a++j++u++E/\a.length<=262500/\j.length<=4200*262500+30/\u.length<=4200*300/\E.length<=4200*524632/\(lY [IntKind.i64.wrap z,IntKind.i64.wrap D,(o:Int),(p:Int)] [s] a)/\XaA (.l (aN 15) n5 g) j/\WQ (.l (aN 17) o c) u/\V3 (.l (aN 18) p e) E) hn (R:=R) aa λi hi=>by
  obtain⟨s,h0,z,D,t3,k3,t4,k4,t5,k5,A⟩:=ny a8 hi;obtain⟨j,W,q5⟩:=XdB k5;obtain⟨u,S,q3⟩:=XmI k3;obtain⟨E,V,q4⟩:=XkY k4;obtain⟨o,c,rfl,-⟩:=k3.list;obtain⟨p,e,rfl,-⟩:=k4.list;obtain⟨n5,g,rfl,-⟩:=k5.list;obtain⟨a,hS,_,q⟩:=kZ [IntKind.i64.wrap z,IntKind.i64.wrap D,(o),(p)] [s] ar ar (by simp[h0]);have ac:SB=262144:=rfl;have Q:a.length<=262500:=by simp[fS]at hS;omega
  exact⟨a++j++u++E,vf,s,z,D,o,p,n5,c,e,g,a,j,u,E,A,rfl,Q,W,S,V,q,q5,q3,q4⟩
 refine⟨T,hT,λd=>a0 _ _ _ (λ_ _ _ _ _=>rfl) ?_⟩;intro i i5 rb G y B t ab m f g8 b ver cs hC hi hS hQ h ht l0 ag ix a2 hc a6 e2;obtain⟨s,z,D,o,p,n5,c,e,g,a,j,u,E,A,rfl,Q,W,S,V,q,q5,q3,q4⟩:=hQ;have hg:=h.2.1.get;have al:=h.2.1.next;obtain⟨_,rfl,_,rfl,_,rfl,c3,_,rfl,y3,c4,_,rfl,y4,c5,_,rfl,y5,rfl⟩:=uQ a2 hc A;have hl:=(a6 m hg).1;obtain⟨ma,s1,fa,na,L,a1⟩:=qY (n:=6) m (some (2*xN+1)) sD [sv s,.int .u32 z,.int .u32 D,c3,c4,c5] rfl rfl (by simp only[km,y3.one,y4.one,y5.one]<;>rfl);obtain⟨mb,s2,fb,nb,gb⟩:=fD ma [I _,I (IntKind.i64.wrap D),I o,I p] _ ar (x:=X8 cS [(.int .i64 0)] 1 4 [(0,I (IntKind.i64.wrap z)),(1,I _),(2,I o),(3,I p)] ma) fI;obtain⟨mc,s3,fc,nc,gc⟩:=fD mb [sv s] (some (2*Qc)) ar (x:=X8 Qc [(.string ⟨#[]⟩)] 1 1 [(0,sv s)] mb) fI;have hq:=q (d+1) ma.next mb.next mc _ _ (GA.on gb fc aY) gc;have K:=(fb.trans (fc.mono fb.next))
 have w:=fa.trans (K.mono fa.next);have a7:=q5 d B G mc c5 y5 (λb Z=>by rw[w.get b aa,hg b Z]) aa;have a5:=h.df w (rc:=m.next) ((K.get m.next aa).trans a1) aY aa;simp only[fy]at hS;obtain⟨ap,a3⟩:=a5.BW (.refl _ _) (i5:=a) aa;obtain⟨BJ,a4⟩:=a3.BW (.refl _ _) (i5:=j) aq;obtain⟨M,m4,k1,k2⟩:=q3 (d+1) (Qn (gD (d+1)) f) (I i) (pt rb 0 0) B m.next G _ _ c3 trivial y3 rfl (t++a++j) _ mc (gD (d+1)).bx a4 vf tN;obtain⟨P,m5,k3,k4⟩:=q4 (d+1) (Qn (gD (d+1)) f) (I i) (pt rb 0 0) B m.next G _ _ c4 trivial y4 rfl (t++a++j++u) M m4 (gD (d+1)).bx k2 vf tN;have a9:=h.out k4 hC;obtain⟨rfl,-⟩:=h;refine⟨P,m5,?_,aq⟩;have ix:=ix;have La:=L ma λ_ _=>rfl;have Lb:=L mb λb Z=>fb.get b Z;have Lc:=L mc λb Z=>K.get b Z;delta QG QH QI P0 O H C jo T F jn jd X B N Y U jb js A;simp only[X7,X3,ix,l0 m (.refl _ _),hl,Xq,s1,bP,X4,dS,y3.len,y4.len,y5.again,La 1 _ rfl,La 2 _ rfl,La 3 _ rfl,La 4 _ rfl,s2,Lb 0 _ rfl,s3,Lc 5 _ rfl,hq,ap,a7,BJ,gY,Xv];refine k1.trans ?_;show Dt _ _ _ _ _ _ _=_;delta Dt P5 A;refine k3.trans ?_;show Ds _ _ _ _ _ _=_;delta Ds B ja A;simp only[e2,X3]
theorem nQ.at(h:nQ ts)(i6:Nat)(a:i6<12)(g:Fd)(b:(ch 0)[i6]?=some g):∃t,ts[i6]?=some t/\Ty g t:=⟨_,dX (by rw[h.1];exact a),h.2 i6 _ g (dX (by rw[h.1];exact a)) b⟩
theorem fK.at{B:Nat}(h:fK B m ts cs)(b:ts[i6]?=some t):∃c,cs[i6]?=some c/\Rd B m t c:=by
 have a:i6<cs.length:=by rw[h.1];exact(dO.mp b).1
 exact⟨cs[i6],dX a,h.2 i6 t _ b (dX a)⟩
theorem Be{B:Nat}(h:fK B m ts dv):∃m1,(∀k:ae->aj->Option Rs,bp (some (kY iH (Value.cells (.agg ⟨dv⟩)).toList (aD m m.next))) k=k (pt m.next 0 0) m1)/\Fb m.next (aD m m.next) m1/\m1.next=m.next+1/\m1.get m.next=some (.cells dv 0 0 false (some (2*iH+1)))/\fK B m1 ts dv:=by
 have f:Fb m.next _ ((aD m m.next).push (.cells dv 0 0 false (some (2*iH+1)))):=Fb.push _ aY;refine⟨_,λk=>Xq _ _ _ _,f,rfl,by rw[Mem.bV];exact ah rfl,?_⟩;have d:fK B _ ts dv:=⟨h.1,λi t c a b=>Rd.same (m:=m) (S:=aD m m.next) aY (λ_=>rfl) (h.2 i t c a b)⟩
 exact d.fr (Fb.oP f)
theorem St.zero(m1:aj)(h:rb<m1.next)(a:m1.get rb=some y):St false m1 rb y [] (.slice none 0 0) m1:=⟨⟨GA.none _ _,λp n c e=>by cases e⟩,.refl _ _,h,a⟩
theorem St.XfA(m1:aj)(h:rb<m1.next)(a:m1.get rb=some y):St true m1 rb y [] (sv []) m1:=⟨rfl,.refl _ _,h,a⟩
theorem St.cv{t:ai}(h:St false G rb y t acc m):conv .str acc m=some (sv t,m):=h.1.1.conv
theorem XpF(h:nQ ts):∃i5:ai,i5.length<=4200*(4200*300+262500)+4200*(4200*(22*80000+100)+262500)/\∀(d B:Nat)(m:aj) (dv:List ae),fK B m ts dv->TA (d+4) Ov [.agg ⟨dv⟩] m=some (sv i5,m):=by obtain⟨t7,j,q⟩:=h.at 7 ak _ rfl;obtain⟨b,E,t⟩:=XgE q;obtain⟨t8,k,r⟩:=h.at 8 ak _ rfl;obtain⟨i,F,u⟩:=XfP r;refine⟨b++i,aq,λd B m dv hd=>?_⟩;rw[X6w];obtain⟨a,e0,f1,I,o,f⟩:=Be hd;obtain⟨y,w,C⟩:=f.at j;obtain⟨c,s,l,v⟩:=t d B _ a dv _ y aa C w [] _ a 18446744073709551616 (St.zero a aa o) Gb aa;obtain⟨z,x,D⟩:=f.at k;obtain⟨e,G,n,g⟩:=u d B _ a dv _ z aa D x ([]++b) _ s 18446744073709551616 (v) Gb aa;refine cD ?_ (f1.trans (g.2.1.mono aa)) rfl;delta Hi U;refine(e0 _).trans ?_;delta PG PH Ph A;refine l.trans ?_;show Db _ _ _ _=_;delta Db PI A;refine n.trans ?_;show Dc _ _ _=_;delta Dc H K;have p:=g.cv;simp only[p,X4,my]
theorem XpH(h:nQ ts):∃i5:ai,i5.length<=4200*(4200*(44*80000+525000)+262500)/\∀(d B:Nat)(m:aj) (dv:List ae),fK B m ts dv->TA (d+4) N5 [.agg ⟨dv⟩] m=some (sv i5,m):=by obtain⟨t9,f,k9⟩:=h.at 9 ak _ rfl;obtain⟨e,q,k⟩:=Xwk k9;refine⟨e,aa,λd B m dv hd=>?_⟩;rw[X5u];obtain⟨a,e0,f1,s,i,l⟩:=Be hd;obtain⟨o,n,p⟩:=l.at f;obtain⟨b,r,g,c⟩:=k d B _ a dv _ o aa p n [] _ a 18446744073709551616 (St.zero a aa i) Gb aa;refine cD ?_ (f1.trans (c.2.1.mono aa)) rfl;delta GK U;refine(e0 _).trans ?_;delta OL OM ON A;refine g.trans ?_;show CX _ _ _=_;delta CX H K;have j:=c.cv;simp only[j,X4,my]
theorem XpG(h:nQ ts):∃i5:ai,i5.length<=4200*(4200*262500+263000)/\∀(d B:Nat)(m:aj) (dv:List ae),fK B m ts dv->TA (d+5) OS [.agg ⟨dv⟩] m=some (sv i5,m):=by obtain⟨t10,c,f⟩:=h.at 10 ak _ rfl;obtain⟨b,o,i⟩:=XkJ f;refine⟨b,aa,λd B m dv hd=>?_⟩;rw[X7y];obtain⟨g,e0,f1,r,n,q⟩:=Be hd;obtain⟨k,j,l⟩:=q.at c;obtain⟨e,p,qq,a⟩:=i d B _ g dv _ k aa l j [] _ g 18446744073709551616 (St.XfA g aa n) Gb aa;refine cD ?_ (f1.trans (a.2.1.mono aa)) rfl;delta Hq U;refine(e0 _).trans ?_;delta P6 P7 P8 A D;refine qq.trans ?_;show Dh _ _ _=_;delta Dh K;rw[a.1];rfl
theorem XpE(h:nQ ts):∃i5:ai,i5.length<=4200*(4200*787500+263000)/\∀(d B:Nat)(m:aj) (dv:List ae),fK B m ts dv->TA (d+5) O7 [.agg ⟨dv⟩] m=some (sv i5,m):=by obtain⟨t11,c,g⟩:=h.at 11 ak _ rfl;obtain⟨b,p,j⟩:=XmH g;refine⟨b,aa,λd B m dv hd=>?_⟩;rw[X8o];obtain⟨i,e0,f1,s,o,r⟩:=Be hd;obtain⟨l,k,n⟩:=r.at c;obtain⟨e,q,f,a⟩:=j d B _ i dv _ l aa n k [] _ i 18446744073709551616 (St.XfA i aa o) Gb aa;refine cD ?_ (f1.trans (a.2.1.mono aa)) rfl;delta Hz U;refine(e0 _).trans ?_;delta QJ QK QL A D;refine f.trans ?_;show Du _ _ _=_;delta Du K;rw[a.1];rfl
theorem Rd.vs{B d:Nat}{g:Fd}(b:g≠.f)(a:Ty g t)(h:Rd B m t g8):fN (d+1) g8 g8=true:=by
 cases h with
 |v x =>
  cases a
  case f=>grind
  all_goals simp[fN,sv]
 |nil e=>rfl
 |l L n e ts cs ty hn k c i b j a h=>unfold ax;split<;>simp[fN]
theorem Xzj(d:Nat):∀l:List ae,(∀g8∈l,fN d g8 g8=true)->fN.vsames d l l=true
 |[],_=>bY
 |a::l,h=>by simp only[fN.vsames,bT];exact⟨h a br,Xzj d l λg8 b=>h g8 (gC _ b)⟩
theorem fK.again{B:Nat}{m:aj}{ts:List Tn}{dv:List ae}(h:fK B m ts dv)(c:nQ ts)(S:aj):again (aI (some (.agg ⟨dv⟩)) S) (.agg ⟨dv⟩)=true:=by
 show fN 8 _ _=true;refine Xzj 7 dv λd l=>?_;obtain⟨i,hi⟩:=List.mem_iff_getElem?.mp l;have b:i<ts.length:=by rw[<-h.1];exact(dO.mp hi).1
 have g:=c.1;have j:(ch 0).length=18:=rfl;have hf:∀a,a<12->(ch 0)[a]?≠some .f:=by intro a n e;have k:a=0\/a=1\/a=2\/a=3\/a=4\/a=5\/a=6\/a=7\/a=8\/a=9\/a=10\/a=11:=aa;rcases k with rfl|rfl|rfl|rfl|rfl|rfl|rfl|rfl|rfl|rfl|rfl|rfl<;>cases e
 exact Rd.vs (λe=>hf i aa (by rw[<-e];exact dX _)) (c.2 i _ _ (dX b) (dX aa)) (h.2 i _ d (dX b) hi)
theorem Xp7:∀l:List ai,(∀w∈l,w.length<=SB)->fS l<=l.length*262166
 |[],_=>c6 _
 |w::l,h=>by
  have:=Xp7 l λZ a=>h Z (gC _ a);have b:fS (w::l)=w.length+22+fS l:=Zm
  grind
theorem Xx2(h:Ty (.l 1) (.l (aN 1) n ts)):∃ws:List ai,ts=ws.map (λw=>.v (sv w))/\(∀w∈ws,w.length<=SB)/\ws.length=n/\n<=4200:=by
 obtain⟨k,g,e,hn,c,a⟩:=h.list;cases e;have:∀i,∃w:ai,i<n->ts[i]?=some _/\w.length<=SB:=λi=>by
  by_cases hi:i<n
  ·obtain⟨t0,b,f⟩:=a i 0 _ hi ak rfl;obtain⟨w,rfl,d⟩:=f.str;have e:i*aN 1+0=i:=Cd i;rw[e]at b;exact⟨w,λ_=>⟨b,d⟩⟩
  ·exact⟨[],λq=>absurd q hi⟩
 have ⟨W,j⟩:=Y7 this;have c:=c.trans (Cd n);refine⟨(List.range n).map W,?_,?_,ar,hn⟩
 ·refine fk λi=>?_
  grind
 grind
theorem Rd.ga{B:Nat}(h:Rd B m (.l 1 n (ws.map λw=>.v (sv w))) g8)(hn:ws.length=n):GA 0 m g8 (ws.map sv):=by
 generalize c:(ws.map _)=ts at h;cases h with
 |nil =>
  cases ws with
  |nil=>exact GA.none _ _
  |cons=>cases c
 |l L n q ts cs ty e k j f g o p h =>
  have d:cs=ws.map sv:=by
   refine fk λi=>?_;by_cases hi:i<n
   ·have a:i<cs.length:=by omega
    have:=h i (.v (sv (ws[i]'aa))) _ (by subst c;simp[hn,hi]) (dX a);rw[dX a,this.val]
    grind
   ·grind
  subst d;refine .inr ⟨aq,L.b,L.ver,L.r,ty,k,?_,kn _,f,g⟩;rw[gB,hn];exact af e
theorem Xy8(m:aj)(i5:ai)(h:i5≠[]):∃v S,conv .bytes (sv i5) m=some (v,S)/\Fb m.next m S/\S.next=m.next+1/\GA m.next S v (i5.map ta):=by refine⟨.slice _ i5.length 0,m.push _,rfl,Fb.push _ aY,rfl,.inr ⟨by simpa using h,m.next,0,0,none,aa,by rw[gB],c6 _,FZ _,pR⟩⟩
theorem XoL(h:nQ ts):∃i5:ai,∀(d B:Nat)(m:aj) (dv:List ae),fK B m ts dv->TA (d+6) DG [.agg ⟨dv⟩] m=some (sv i5,m):=by
 obtain⟨t0,a0,k0⟩:=h.at 0 ak _ rfl;obtain⟨t1,a1,k1⟩:=h.at 1 ak _ rfl;obtain⟨t2,a2,k2⟩:=h.at 2 ak _ rfl;obtain⟨t3,a3,k3⟩:=h.at 3 ak _ rfl;obtain⟨t4,a4,k4⟩:=h.at 4 ak _ rfl;obtain⟨t5,a5,k5⟩:=h.at 5 ak _ rfl;obtain⟨t6,a6,k6⟩:=h.at 6 ak _ rfl;obtain⟨t7,a7,k7⟩:=h.at 7 ak _ rfl;obtain⟨t8,a8,k8⟩:=h.at 8 ak _ rfl;obtain⟨t9,a9,k9⟩:=h.at 9 ak _ rfl;obtain⟨t10,ab,aB⟩:=h.at 10 ak _ rfl;obtain⟨t11,al,b0⟩:=h.at 11 ak _ rfl;obtain⟨w0,rfl,h0⟩:=k0.str;obtain⟨z1,rfl⟩:=k1.int;obtain⟨l,bv,q3⟩:=XfJ k3;obtain⟨o,bw,q4⟩:=Xyi k4;obtain⟨s,bA,q5⟩:=Xux k5;obtain⟨D,bD,q6⟩:=Xxj k6;obtain⟨G,bi,q7⟩:=XpF h;obtain⟨Y,bn,q8⟩:=XpH h;obtain⟨S9,bs,q9⟩:=XpG h;obtain⟨E,bc,b2⟩:=XpE h;obtain⟨n2,c2,rfl,-⟩:=k2.list;obtain⟨n3,c3,rfl,-⟩:=k3.list;obtain⟨n4,c4,rfl,-⟩:=k4.list;obtain⟨n5,c5,rfl,-⟩:=k5.list;obtain⟨n6,c9,rfl,-⟩:=k6.list;obtain⟨n7,ca,rfl,-⟩:=k7.list;obtain⟨n8,ce,rfl,-⟩:=k8.list;obtain⟨n9,cf,rfl,-⟩:=k9.list;obtain⟨y,bd,rfl,-⟩:=aB.list;obtain⟨z,be,rfl,-⟩:=b0.list;obtain⟨ws,rfl,Q,P,c1⟩:=Xx2 k2;obtain⟨g,an,av,q0⟩:=kZ [IntKind.i64.wrap z1,(n2),(n3),(n4),(n5),(n6),(n7),(n8),(n9),(y),(z)] (w0::ws) ar cF (by
  intro w hw;rcases eF.mp hw with rfl|hw
  ·exact h0
  ·exact Q w hw)
 have aA:=Xp7 (w0::ws) (by
  intro w hw;rcases eF.mp hw with rfl|hw
  ·exact h0
  ·exact Q w hw)
 rw[iq,P]at aA;have bb:g.length<=10000000000:=by simp at an;omega
 refine⟨g++l++o++s++D++G++Y++S9++E,λd B m dv hd=>?_⟩;rw[Xbs];obtain⟨j,e0,f1,bf,g1,a⟩:=Be hd;obtain⟨y0,x0,u0⟩:=a.at a0;obtain⟨y1,x1,u1⟩:=a.at a1;obtain⟨y2,x2,u2⟩:=a.at a2;obtain⟨y3,x3,u3⟩:=a.at a3;obtain⟨y4,x4,u4⟩:=a.at a4;obtain⟨y5,x5,u5⟩:=a.at a5;obtain⟨y6,x6,u6⟩:=a.at a6;obtain⟨y7,x7,u7⟩:=a.at a7;obtain⟨y8,x8,u8⟩:=a.at a8;obtain⟨y9,x9,u9⟩:=a.at a9;obtain⟨ci,V,M0⟩:=a.at ab;obtain⟨cj,W,M1⟩:=a.at al;cases u0.val;cases u1.val;have ld:∀(S:aj),Fb j.next j S->∀(i6:Nat)(c:ae),dv[i6]?=some c->X9 false 1 (pt m.next i6 0) S=some c:=λS f i6 c hj=>Xt (by rwa[f.get _ aa]) hj;obtain⟨ma,s1,Z,na,ga⟩:=fD j [I (IntKind.i64.wrap z1),I n2,I n3,I n4,I n5,I n6,I n7,I n8,I n9,I y,I z] _ ar (x:=X8 cS [(.int .i64 0)] 1 11 [(0,I _),(1,I n2),(2,I n3),(3,I n4),(4,I n5),(5,I n6),(6,I n7),(7,I n8),(8,I n9),(9,I y),(10,I z)] j) fI;obtain⟨mb,s2,fb,nb,gb⟩:=fD ma [sv w0] (some (2*Qc)) ar (x:=X8 Qc [(.string ⟨#[]⟩)] 1 1 [(0,sv w0)] ma) fI;have t:=Z.trans (fb.mono Z.next);have gn:GA 0 mb y2 (ws.map sv):=by have:fK B mb ts dv:=a.fr (Fb.oP t);exact(this.2 2 _ y2 a2 x2).ga P
 obtain⟨v2,mc,s3,fc,gc⟩:=GA.Ft (e:=Qc) (bytes:=16) gb aa gn XeZ Ny;have u:=t.trans (fc.mono Z.next);have c0:=fc.next;have aw:=q0 (d+2) j.next ma.next mc _ _ (GA.fb ga aa λb bE M=>by rw[fc.get b M,fb.get b M]) gc;have ⟨v3,md,s4,fd,nd,gd⟩:=Xy8 mc g av;have L:=u.trans (fd.mono u.next);have st:St false j m.next (.cells dv 0 0 false (some (2*iH+1))) g v3 md:=by
  refine⟨⟨?_,λp n c e=>?_⟩,L,aa,by rwa[L.get _ aa]⟩
  ·rcases gd with⟨q,_⟩|⟨q1,b,ver,r,ty,q2,q3,q4,q5,q6⟩
   ·simp_all
   ·exact .inr ⟨q1,b,ver,r,ty,q2,q3,aa,q5,q6⟩
  ·rcases gd with⟨q,_⟩|⟨q1,b,ver,r,ty,q2,q3,q4,q5,q6⟩
   ·grind
   grind
 have ⟨b6,m3,e3,b3⟩:=q3 (d+2) B m.next j dv _ y3 trivial u3 x3 g v3 md (gD (d+2)).bx st aa tN;have ⟨J,m4,e4,b4⟩:=q4 (d+2) B _ j dv _ y4 aa u4 x4 _ _ m3 (gD (d+2)).bx b3 rX tN;have ⟨K,m5,e5,b5⟩:=q5 (d+2) B m.next j dv _ y5 trivial u5 x5 (g++l++o) J m4 (gD (d+2)).bx b4 vf tN;have ⟨ba,v,e6,k⟩:=q6 (d+2) B m.next j dv _ y6 trivial u6 x6 (g++l++o++s) K m5 (gD (d+2)).bx b5 vf tN;have R:=a.fr (Fb.oP k.2.1);have la:X9 _ 12 (pt _ 0 0) v=some _:=Xw k.2.2.2 (by rw[hd.1,h.1];omega) (by rw[mA,zj (by rw[hd.1,h.1];omega)]);have hc:=k.cv;have ac:again (some _) (sv (g++l++o++s++D))=true:=sG _ v;have ag:=R.again h v;have p7:=q7 (d+1) B v dv R;have p8:=q8 (d+1) B v dv R;have p9:=q9 d B v dv R;have b1:=b2 d B v dv R;have b7:bin _ false true _ (sv (g++l++o++s++D)) (sv G)=_:=Qu _ _ _ _ vf;have b8:bin _ false true _ (sv (g++l++o++s++D++G)) (sv Y)=_:=Qu _ _ _ _ vf;have b9:bin _ false true _ (sv (g++l++o++s++D++G++Y)) (sv S9)=_:=Qu _ _ _ _ vf;have am:bin _ false true _ (sv (g++l++o++s++D++G++Y++S9)) (sv E)=_:=Qu _ _ _ _ vf;refine cD ?_ (f1.trans (k.2.1.mono aa)) rfl;delta Im U;refine(e0 _).trans ?_;delta Ss O H C jo T F jn X N js A;have l1:=ld j (.refl _ _);have lb:=ld mb t;have i:=ld mc u;simp only[X7,X3,l1 1 _ x1,l1 2 _ x2,l1 3 _ x3,l1 4 _ x4,l1 5 _ x5,l1 6 _ x6,l1 7 _ x7,l1 8 _ x8,l1 9 _ x9,l1 10 _ V,l1 11 _ W,dS,X4,u2.len,u2.again,u3.len,u3.again,u4.len,u4.again,u5.len,u5.again,u6.len,u6.again,u7.len,u7.again,u8.len,u8.again,u9.len,u9.again,M0.len,M0.again,M1.len,M1.again,s1,ld ma Z 0 _ x0,s2,lb 2 _ x2,s3,i 1 _ x1,i 2 _ x2,i 3 _ x3,i 4 _ x4,i 5 _ x5,i 6 _ x6,i 7 _ x7,i 8 _ x8,i 9 _ x9,i 10 _ V,i 11 _ W,kQ,gY,Xv];refine aU (jQ (λx=>bp x _) aw) ?_;rw[X4,s4,X4];refine e3.trans ?_;refine e4.trans ?_;refine e5.trans ?_;refine e6.trans ?_;unfold Je;simp only[hc,la,X3,X4,p7,p8,p9,b1,ac,ag,gY,Xv,b7,b8,b9,am]
structure SI (B:Nat) (m1:Mem) (K:Nat->Prop) (m:Mem):Prop where
 nx:m.next=m1.next
 fb:Fb B m1 m
 kp:∀b,K b->m.get b=m1.get b
 sh:∀(b:Nat)(c:List Value) (ver fro:Nat) (ro:Bool) (ty:Option Nat),m1.get b=some (.cells c ver fro ro ty)->∃c',m.get b=some (.cells c' ver fro ro ty)/\c'.length=c.length
theorem SI.refl(B:Nat)(m:aj)(K:Nat->Prop):SI B m K m:=⟨rfl,.refl _ _,λ_ _=>rfl,λb c ver a ro ty h=>⟨c,h,rfl⟩⟩
theorem SI.st{B:Nat}{m1:aj}{K:Nat->Prop}(h:SI B m1 K m){b ver y:Nat}(l:m1.get b=some (.cells cs ver 0 false ty))(C:y<cs.length)(x:ae)(o:x.cells.toList=[x])(r:one x=true)(hB:B<=b)(s:¬K b):∃S,Xe 1 (pt b y ver) x m=some S/\SI B m1 K S:=by
 obtain⟨z,g,A⟩:=h.sh b cs ver 0 _ ty l;obtain⟨S,t,d⟩:=iJ (y:=y) (n:=1) (v:=x) g (by rw[<-pL,o];rfl) c7 aa (by rw[o];simp[r]) rfl;refine⟨S,t,by rw[d.next,Mem.ij];exact h.nx,h.fb.trans (((Fb.refl B m).put _ hB).jL d),λa k=>?_,λa c p f ro j i=>?_⟩
 ·have:b≠a:=λe=>s (e▸k);rw[d.get,Mem.aX,af this];exact h.kp a k
 ·by_cases e:b=a
  ·subst e;rw[l]at i;cases i;exact⟨_,by rw[d.get,Mem.aX,ah rfl],aq⟩
  ·obtain⟨q,u,w⟩:=h.sh a c _ f ro j i;exact⟨q,by rwa[d.get,Mem.aX,af e],w⟩
structure hJ (B:Nat) (m:Mem) (v:Value) (L:Lc) (n sz:Nat) (cs:List Value):Prop where
 e:v=ax L n sz
 g:n≠0->L.r<2/\B<=L.b/\L.b<m.next/\(∃ty,m.get L.b=some (.cells cs L.ver 0 false ty))/\cs.length=n*sz
theorem Rd.ls{B:Nat}(h:Rd B m (.l sz n ts) v):∃L cs,hJ B m v L n sz cs/\∀(i:Nat)(t:Tn),ts[i]?=some t->∃c,cs[i]?=some c/\Rd B m t c:=by
 cases h with
 |nil=>exact⟨⟨0,0,0⟩,[],⟨rfl,λq=>absurd rfl q⟩,λi t q=>by simp at q⟩
 |l L n sz ts cs ty hn g b e f d j h =>
  refine⟨L,cs,⟨rfl,λ_=>⟨g,b,e,⟨ty,f⟩,d⟩⟩,λi t q=>?_⟩;have a:i<cs.length:=by rw[d,<-j];exact(dO.mp q).1
  exact⟨cs[i],dX a,h i t _ q (dX a)⟩
theorem By(i:Nat)(h:i<=4611686018427387904):bin .add true true .int (I i) (.int .i64 1)=some (I (i+1:Nat)):=by rw[cz];have:((i):Int)+1=((i+1:Nat)):=aa;rw[this,wrap64 _ aa]
section
variable {B N:Nat}{m1:Mem}{K:Nat->Prop}{M':Gt}{b0:Nat}
theorem hJ.ix(h:hJ B m1 v L n sz cs)(hi:i<n):Xd sz v (I i)=some (pt L.b (i*sz) L.ver):=by rw[h.e];exact eU L (h.g aa).1 n sz i _ hi
theorem hJ.len(h:hJ B m1 v L n sz cs)(m:aj):aM 1 v m=some (I n):=by rw[h.e];exact dx L n sz m
theorem hJ.st{v:ae}{L:Lc}{n sz:Nat}{cs:List ae}(h:hJ B m1 v L n sz cs){i i6:Nat}(hi:i<n)(l:i6<sz){m:aj}(e:SI B m1 K m)(d:¬K L.b)(x:ae)(f:x.cells.toList=[x])(c:one x=true):∃S,Xe 1 (pt L.b (i*sz+i6) L.ver) x m=some S/\SI B m1 K S:=by obtain⟨_,j,_,⟨ty,k⟩,o⟩:=h.g aa;have a:=oN (sz:=sz) hi;exact e.st k aa x f c j d
theorem XbI{v:ae}{L:Lc}{n:Nat}{cs:List ae}(h:hJ B m1 v L n 11 cs)(hn:n<=4611686018427387904)(g:n≠0->¬K L.b)(ld:∀m,SI B m1 K m->X9 false 1 (pt b0 3 0) m=some v):∀(k i f:Nat)(m:aj),i+k=n->k<f->SI B m1 K m->∃S,Ac M' f (I i) (pt b0 0 0) m=IW M' (pt b0 0 0) S/\SI B m1 K S
 |0,i,f+1,m,e,hf,a=>by have:i=n:=e;subst this;refine⟨m,?_,a⟩;unfold Ac;delta F E B N jb ja jf A ji D;simp only[X7,X3,aQ,ld m a,h.len,Qb,j1,j4,X5]
 |k+1,i,f+1,m,e,hf,a=>by have hi:i<n:=aa;have c:decide (((i:Nat):Int)<((n:Nat):Int))=true:=bj aa;obtain⟨j,d,l⟩:=h.st hi (i6:=0) aa a (g aa) (sv [63]) rfl rfl;have d:Xe 1 _ (.string ⟨#[63]⟩) m=some j:=d;have ⟨S,o,p⟩:=XbI h hn g ld k (i+1) f j aa aa l;refine⟨S,?_,p⟩;unfold Ac;delta F E B N jb ja jf A ji D;simp only[X7,X3,ld m a,h.len,Qb,c,X6,h.ix hi,d,Xj,By i aa];exact o
theorem XeK{v:ae}{L:Lc}{n:Nat}{cs:List ae}(h:hJ B m1 v L n 6 cs)(hn:n<=4611686018427387904)(d:n≠0->¬K L.b)(ld:∀m,SI B m1 K m->X9 false 1 (pt b0 11 0) m=some v):∀(k i f:Nat)(m:aj),i+k=n->k<f->SI B m1 K m->∃S,Am M' f (I i) (pt b0 0 0) m=some (.tuple ⟨[]⟩,S)/\SI B m1 K S
 |0,i,f+1,m,e,hf,a=>by have:i=n:=e;subst this;refine⟨m,?_,a⟩;unfold Am;delta F E B N jb ja jf A ji jq;simp only[X7,X3,aQ,ld m a,h.len,Qb,j1,j4,X5]
 |k+1,i,f+1,m,e,hf,a=>by have hi:i<n:=aa;have c:decide (((i:Nat):Int)<((n:Nat):Int))=true:=bj aa;obtain⟨g,j,l⟩:=h.st hi (i6:=1) aa a (d aa) (.int .u32 0) rfl rfl;have ⟨S,o,p⟩:=XeK h hn d ld k (i+1) f g aa aa l;refine⟨S,?_,p⟩;unfold Am;delta F E B N jb ja jf A ji jq;simp only[X7,X3,ld m a,h.len,Qb,c,X6,h.ix hi,j,Xj,By i aa];exact o
def Hd(B:Nat)(m1:aj)(K:Nat->Prop)(L:Lc)(n sz J':Nat)(cs:List ae):Prop:=∀i,i<n->∃v' d a c,cs[i*sz+1]?=some v'/\hJ B m1 v' d a J' c/\a<=4611686018427387904/\(a≠0->¬K d.b)
theorem hJ.hd(h:hJ B m1 v L n sz cs)(a:n≠0->K L.b)(hi:i<n)(d:cs[i*sz+1]?=some v')(c:SI B m1 K m):X9 false 1 (pt L.b (i*sz+1) L.ver) m=some v':=by obtain⟨_,_,_,⟨ty,g⟩,_⟩:=h.g aa;exact Xt (by rw[c.kp _ (a aa)];exact g) d
theorem XbH{k0:ae->ae->aj->Option Rs}{v v':ae}{L p:Lc}{n d i:Nat}{cs za6:List ae}(h:hJ B m1 v L n 2 cs)(hi:i<n)(a:n≠0->K L.b)(o:cs[i*2+1]?=some v')(g:hJ B m1 v' p d 10 za6)(l:d<=4611686018427387904)(q:d≠0->¬K p.b)(ld:∀m,SI B m1 K m->X9 false 1 (pt b0 4 0) m=some v):∀(k i6 f:Nat)(m:aj),i6+k=d->k<f->SI B m1 K m->∃S,Ad M' k0 f (I i6) (pt b0 0 0) (I i) m=Ia M' k0 (I i) (pt b0 0 0) S/\SI B m1 K S
 |0,i6,f+1,m,e,hf,c=>by have:i6=d:=e;subst this;refine⟨m,?_,c⟩;unfold Ad;delta F E B N jb ja jf A ji;simp only[X7,X3,aQ,ld m c,h.ix hi,h.hd a hi o c,g.len,Qb,j1,j4,X5]
 |k+1,i6,f+1,m,e,hf,c=>by have r:i6<d:=aa;have j:decide (((i6:Nat):Int)<((d:Nat):Int))=true:=bj aa;obtain⟨s,t,u⟩:=g.st r (i6:=1) aa c (q aa) (.int .i64 77) rfl rfl;obtain⟨S,w,x⟩:=XbH h hi a o g l q ld k (i6+1) f s aa aa u;refine⟨S,?_,x⟩;unfold Ad;delta F E B N jb ja jf A ji;simp only[X7,X3,aQ,ld m c,h.ix hi,h.hd a hi o c,g.len,Qb,j,X6,g.ix r,t,Xj,By i6 aa];exact w
theorem XbD{v:ae}{L:Lc}{n:Nat}{cs:List ae}(h:hJ B m1 v L n 2 cs)(hn:n<=4611686018427387904)(a:n≠0->K L.b)(l:Hd B m1 K L n 2 10 cs)(j:M'.bx=18446744073709551616)(ld:∀m,SI B m1 K m->X9 false 1 (pt b0 4 0) m=some v):∀(k i f:Nat)(m:aj),i+k=n->k<f->SI B m1 K m->∃S,qP M' f (I i) (pt b0 0 0) m=IX M' (pt b0 0 0) S/\SI B m1 K S
 |0,i,f+1,m,e,hf,c=>by have:i=n:=e;subst this;refine⟨m,?_,c⟩;unfold qP;delta F E B N ji;simp only[X7,X3,aQ,ld m c,h.len,Qb,j1,j4,X5]
 |k+1,i,f+1,m,e,hf,c=>by have hi:i<n:=aa;have d:decide (((i:Nat):Int)<((n:Nat):Int))=true:=bj aa;have ⟨v',z,s,y,q,o,g,p⟩:=l i hi;have ⟨r,t,u⟩:=XbH (M':=M') (k0:=qP M' f) (b0:=b0) h hi a q o g p ld s 0 18446744073709551616 m (aQ _) aa c;have ⟨S,w,x⟩:=XbD h hn a l j ld k (i+1) f r aa aa u;refine⟨S,?_,x⟩;unfold qP;delta Rb Rc F E B N A ji;simp only[X7,X3,ld m c,h.len,Qb,d,X6];rw[j];refine aU t ?_;delta Ia B ja A;simp only[By i aa,X3];exact w
theorem XaV{k0:ae->ae->aj->Option Rs}{v v':ae}{L p:Lc}{n d i:Nat}{cs za6:List ae}(h:hJ B m1 v L n 3 cs)(hi:i<n)(a:n≠0->K L.b)(o:cs[i*3+1]?=some v')(g:hJ B m1 v' p d 15 za6)(l:d<=4611686018427387904)(q:d≠0->¬K p.b)(ld:∀m,SI B m1 K m->X9 false 1 (pt b0 9 0) m=some v):∀(k i6 f:Nat)(m:aj),i6+k=d->k<f->SI B m1 K m->∃S,Ae M' k0 f (I i6) (pt b0 0 0) (I i) m=IY M' k0 (I i) (pt b0 0 0) S/\SI B m1 K S
 |0,i6,f+1,m,e,hf,c=>by have:i6=d:=e;subst this;refine⟨m,?_,c⟩;unfold Ae;delta F E B N jb ja jf A ji;simp only[X7,X3,aQ,ld m c,h.ix hi,h.hd a hi o c,g.len,Qb,j1,j4,X5]
 |k+1,i6,f+1,m,e,hf,c=>by have r:i6<d:=aa;have j:decide (((i6:Nat):Int)<((d:Nat):Int))=true:=bj aa;obtain⟨s,t,u⟩:=g.st r (i6:=0) aa c (q aa) (.int .i64 0) rfl rfl;obtain⟨S,w,x⟩:=XaV h hi a o g l q ld k (i6+1) f s aa aa u;refine⟨S,?_,x⟩;unfold Ae;delta F E B N jb ja jf A ji;simp only[X7,X3,aQ,ld m c,h.ix hi,h.hd a hi o c,g.len,Qb,j,X6,g.ix r,t,Xj,By i6 aa];exact w
theorem XeL{v:ae}{L:Lc}{n:Nat}{cs:List ae}(h:hJ B m1 v L n 3 cs)(hn:n<=4611686018427387904)(a:n≠0->K L.b)(l:Hd B m1 K L n 3 15 cs)(j:M'.bx=18446744073709551616)(ld:∀m,SI B m1 K m->X9 false 1 (pt b0 9 0) m=some v):∀(k i f:Nat)(m:aj),i+k=n->k<f->SI B m1 K m->∃S,qT M' f (I i) (pt b0 0 0) m=IZ M' (pt b0 0 0) S/\SI B m1 K S
 |0,i,f+1,m,e,hf,c=>by have:i=n:=e;subst this;refine⟨m,?_,c⟩;unfold qT;delta F E B N ji;simp only[X7,X3,aQ,ld m c,h.len,Qb,j1,j4,X5]
 |k+1,i,f+1,m,e,hf,c=>by have hi:i<n:=aa;have d:decide (((i:Nat):Int)<((n:Nat):Int))=true:=bj aa;have ⟨v',z,s,y,q,o,g,p⟩:=l i hi;have ⟨r,t,u⟩:=XaV (M':=M') (k0:=qT M' f) (b0:=b0) h hi a q o g p ld s 0 18446744073709551616 m (aQ _) aa c;have ⟨S,w,x⟩:=XeL h hn a l j ld k (i+1) f r aa aa u;refine⟨S,?_,x⟩;unfold qT;delta RX Re F E B N A ji;simp only[X7,X3,ld m c,h.len,Qb,d,X6];rw[j];refine aU t ?_;delta IY B ja A;simp only[By i aa,X3];exact w
end
end Go.Ab.Sh
namespace Go.Ab
open Go
theorem XhZ{B:Nat}{m m1:aj}{v:ae}{x:Option Rs}(l:x=some (v,m1))(d:Fb B (aD m m.next) m1)(hB:B<=m.next):∃c,cK m x=some (v,c)/\Fb B m c/\(c=m\/∀b,c.get b=m1.get b):=by
 subst l;have e:∀g c,gc m v m1=(g,c)->cK m (some (v,m1))=some (g,c):=λg c h=>gS;cases i:(Nat.ble m.next m1.low&&refs m.next 8 v)with
 |true=>exact⟨m,e _ _ (by simp[sT,qt,i]),.refl _ _,.inl rfl⟩
 | false=>exact⟨aD m1 (min _ m1.low),e _ _ (by simp[sT,qt,i]),{
  next:=d.next
  low:=wN _ _
  bQ:=λf a b=>by have j:f<=(aD m m.next).low:=aO b hB;have:=d.bQ f j b;show f<=min m.low m1.low;omega
  get:=d.get
  lo:=λb k=>by
   rcases d.lo b k with q|q
   ·exact .inl (aO (tG _ _) q)
   ·exact .inr q },.inr λ_=>rfl⟩
end Go.Ab
namespace Go.Ab.Sh
open Go Go.Ab Go.Lib
variable {B b n r sz:Nat}{L:Lc}{cs dv:List Value}{m:Mem}{ts:List Tn}{v:Value}
theorem Ty.eP{t:Tn}(h:Ty (.l r) t):∃n ts,t=.l (aN r) n ts/\n<=80000/\ts.length=n*aN r/\∀(i:Nat)(t:Tn) (g:Fd),ts[i]?=some t->bo r i=some g->Ty g t:=by
 cases h with
 |l r n ts hn a h=>exact⟨n,ts,rfl,aO hn (by unfold BN;grind),a,h⟩
theorem hJ.up{m1:aj}(h:hJ B m v L n sz cs)(hn:m.next<=m1.next)(f:∀b,b<m.next->m1.get b=m.get b):hJ B m1 v L n sz cs:=⟨h.e,λq=>by obtain⟨a,b,c,⟨ty,d⟩,e⟩:=h.g q;exact⟨a,b,aa,⟨ty,by rwa[f _ c]⟩,e⟩⟩
theorem hJ.bl(h:hJ B m v L n sz cs)(hn:n≠0):ql v=some L.b:=by rw[h.e];unfold ax;rw[af hn];rfl
theorem XqI(d:Nat)(a7:nQ ts)(H:fK B m ts dv)(j:nI B m dv)(a1:B<=m.next):∃S,TA (d+1) P9 [.agg ⟨dv⟩] m=some (.tuple ⟨[]⟩,S)/\Fb B m S/\∀(b:Nat)(c:List ae) (ver p:Nat) (ro:Bool) (ty:Option Nat),b<m.next->m.get b=some (.cells c ver p ro ty)->∃X,S.get b=some (.cells X ver p ro ty)/\X.length=c.length:=by
 rw[Xa9];obtain⟨h,G,w,a5,gd,_⟩:=Be H;have o:∀b,b<m.next->h.get b=m.get b:=λb hb=>w.get b hb
 have list:∀(y r:Nat),y<12->(ch 0)[y]?=some (.l r)->∃(v:ae)(L:Lc) (n:Nat) (f:List Tn) (cs:List ae),dv[y]?=some v/\hJ B m v L n (aN r) cs/\n<=80000/\f.length=n*aN r/\(∀(i:Nat)(t:Tn),f[i]?=some t->∃c,cs[i]?=some c/\Rd B m t c)/\∀(i:Nat)(t:Tn) (g:Fd),f[i]?=some t->bo r i=some g->Ty g t:=λy r u hr=>by obtain⟨t,a,k⟩:=a7.at y u _ hr;obtain⟨n,f,rfl,k1,k2,k3⟩:=k.eP;obtain⟨v,b,q⟩:=H.at a;obtain⟨L,cs,u1,u2⟩:=q.ls;exact⟨v,L,n,f,cs,b,u1,k1,k2,u2,k3⟩
 obtain⟨v3,L3,n3,t3,c3,a3,l3,b3,_⟩:=list 3 2 ak rfl;obtain⟨v4,L4,n4,t4,c4,O,Q,b4,e4,f4,g4⟩:=list 4 3 ak rfl;obtain⟨v9,L9,n9,t9,c9,P,R,b9,e9,f9,g9⟩:=list 9 12 ak rfl;obtain⟨M,V,J,t11,Y,D,I,al,_⟩:=list 11 16 ak rfl;let K:Nat->Prop:=λb=>b=m.next\/(n4≠0/\b=L4.b)\/(n9≠0/\b=L9.b);have s:∀(y:Nat)(v:ae) (L:Lc) (n T:Nat) (cs:List ae),y<12->y≠4->y≠9->dv[y]?=some v->hJ B m v L n T cs->n≠0->¬K L.b:=λy v L n T cs u h4 h9 C z hn q=>by
  rcases q with q|⟨q,e⟩|⟨q,e⟩
  ·have:=(z.g hn).2.2.1;omega
  ·exact h4 (j.top y 4 v v4 L.b u aa C O (z.bl hn) (by rw[e];exact Q.bl q))
  ·exact h9 (j.top y 9 v v9 L.b u aa C P (z.bl hn) (by rw[e];exact R.bl q))
 have hd:∀(y r r2:Nat)(v:ae) (L:Lc) (n:Nat) (f:List Tn) (cs:List ae),y<12->dv[y]?=some v->hJ B m v L n (aN r) cs->f.length=n*aN r->1<aN r->(ch r)[1]?=some (.l r2)->(∀(i:Nat)(t:Tn),f[i]?=some t->∃c,cs[i]?=some c/\Rd B m t c)->(∀(i:Nat)(t:Tn) (g:Fd),f[i]?=some t->bo r i=some g->Ty g t)->Hd B h K L n (aN r) (aN r2) cs:=λy r r2 v L n f cs u C z he h1 a6 hf hg i hi=>by
  have ag:=oN (sz:=aN r) hi;have E:i*aN r+1<f.length:=aa;have a2:bo r (i*aN r+1)=some (.l r2):=by rwa[fd_row (r:=r) (sz:=aN r) rfl i 1 h1]
  obtain⟨n',an,ht,q1,_,_⟩:=(hg _ _ _ (dX E) a2).eP;obtain⟨c,u1,u2⟩:=hf _ _ (dX E);rw[ht]at u2;obtain⟨L',ab,N,_⟩:=u2.ls;refine⟨c,L',n',ab,u1,N.up aa o,aa,λF q=>?_⟩;obtain⟨_,_,x3,⟨ty,x4⟩,_⟩:=z.g aa;have row:=j.row y v L.b cs L.ver 0 false ty (i*aN r+1) c u C (z.bl aa) x4 u1 L'.b (N.bl F);rcases q with q|⟨q,e⟩|⟨q,e⟩
  ·have:=(N.g F).2.2.1;omega
  ·exact row 4 v4 aa O (by rw[e];exact Q.bl q)
  ·exact row 9 v9 aa P (by rw[e];exact R.bl q)
 have up:=a5;have Z:=hd 4 3 4 v4 L4 n4 t4 c4 aa O Q e4 ak rfl f4 g4;have a0:=hd 9 12 13 v9 L9 n9 t9 c9 aa P R e9 ak rfl f9 g9;have ld:∀(y:Nat)(v:ae),y<12->dv[y]?=some v->∀mm,SI B h K mm->X9 false 1 (pt m.next y 0) mm=some v:=λy v u C mm hS=>Xt (by rwa[hS.kp m.next (.inl rfl)]) C;obtain⟨m2,x1,x2⟩:=XbI (M':=(aH d)) (l3.up (m1:=h) aa o) aa (λq=>s 3 v3 L3 n3 _ c3 aa aa aa a3 l3 q) (ld 3 v3 aa a3) n3 0 18446744073709551616 h (aQ _) aa (.refl B h K);obtain⟨m3,y1,y2⟩:=XbD (M':=(aH d)) (Q.up (m1:=h) aa o) aa (λq=>.inr (.inl ⟨q,rfl⟩)) Z rfl (ld 4 v4 aa O) n4 0 18446744073709551616 m2 (aQ _) aa x2;obtain⟨m4,z1,z2⟩:=XeL (M':=(aH d)) (R.up (m1:=h) aa o) aa (λq=>.inr (.inr ⟨q,rfl⟩)) a0 rfl (ld 9 v9 aa P) n9 0 18446744073709551616 m3 (aQ _) aa y2;obtain⟨m5,N,w2⟩:=XeK (M':=(aH d)) (I.up (m1:=h) aa o) aa (λq=>s 11 M V J _ Y aa aa aa D I q) (ld 11 M aa D) J 0 18446744073709551616 m4 (aQ _) aa z2;have hx:Dy (aH d) (.agg ⟨dv⟩) (aD m m.next)=some (.tuple ⟨[]⟩,m5):=by delta Dy U;rw[G];delta RY Rf A;refine aU x1 ?_;delta IW Rg A;refine aU y1 ?_;delta IX RZ A;refine aU z1 ?_;delta IZ R0 A;exact N
 have FB:Fb B (aD m m.next) h:={ next:=w.next,low:=w.low,bQ:=λx a b=>w.bQ x a aa,get:=λb hb=>w.get b aa,lo:=w.lo }
 obtain⟨m6,o1,o2,o3⟩:=XhZ hx (FB.trans w2.fb) a1;refine⟨m6,o1,o2,λb c ver p ro ty hb hg=>?_⟩;rcases o3 with o3|o3
 ·grind
 ·obtain⟨X,p1,p2⟩:=w2.sh b c ver p ro ty aq
  grind
theorem Xzr(l:dv.length=12)(s:dv.all one=true)(P i8:Nat)(m:aj):∃S,(∀k:ae->ae->aj->Option Rs,(bp (some (kY iH Q8 m)) λf m=>bp (some (kY Q7 Q2 m)) λg m=>bp (bP (Xe 12 f (.agg ⟨dv⟩) m)) λ_ m=>bp (bP (Xe 2 g (aZ P i8) m)) λ_ m=>k f g m)=k (pt m.next 0 0) (pt (m.next+1) 0 0) S)/\Fr [] m S/\S.next=m.next+2/\eh S (m.next+1) P i8/\∃ty,S.get m.next=some (.cells dv 0 0 false ty):=by
 generalize b:m.push (.cells Q8 0 0 false (some (2*iH+1)))=d;have c:d.next=m.next+1:=by rw[<-b];rfl
 have f2:Fr [] m d:=by rw[<-b];exact Fr.push _
 have g2:d.get m.next=some (.cells Q8 0 0 false (some (2*iH+1))):=by rw[<-b,Mem.bV,ah rfl]
 generalize a:d.push (.cells Q2 0 0 false (some (2*Q7+1)))=e;have u:e.next=d.next+1:=by rw[<-a];rfl
 have f3:Fr [] m e:=by rw[<-a];exact f2.trans (Fr.push _)
 have g3:e.get d.next=some (.cells Q2 0 0 false (some (2*Q7+1))):=by rw[<-a,Mem.bV,ah rfl]
 have o:e.get m.next=some (.cells Q8 0 0 false (some (2*iH+1))):=by rw[<-a,Mem.bV,af aa];exact g2
 obtain⟨p,x,h⟩:=iJ (y:=0) (n:=12) (v:=.agg ⟨dv⟩) (c':=dv) o l c7 aW s (by show[]++dv++Q8.drop (0+12)=dv;rw[rS (by show 12<=0+12;omega)];simp)
 have f4:Fr [] m p:=(f3.put _ (.inr aY)).jL h;have t:p.get d.next=some (.cells Q2 0 0 false (some (2*Q7+1))):=by rw[h.get,Mem.aX,af aa];exact g3
 obtain⟨q,i,j⟩:=iJ (y:=0) (n:=2) (v:=aZ P i8) (c':=[I P,I i8]) t rfl c7 aW rfl rfl;have f5:=(f4.put _ (.inr aa)).jL j;have w:q.next=e.next:=by rw[j.next,Mem.ij,h.next,Mem.ij]
 refine⟨q,λk=>?_,f5,aa,⟨_,by rw[<-c,j.get,Mem.aX,ah rfl]⟩,_,by rw[j.get,Mem.aX,af aa,h.get,Mem.aX,ah rfl]⟩;have i:=i;rw[c]at i;simp only[Xq,b,a,x,Xj,c,i]
theorem Yr(a:dv.length=12)(h:∃ty,m.get b=some (.cells dv 0 0 false ty)):X9 true 12 (pt b 0 0) m=some (.agg ⟨dv⟩):=by obtain⟨ty,h⟩:=h;exact Xw h aa aq
theorem Rd.ge{B:Nat}{m S:aj}(hn:m.next<=S.next)(k:∀b,B<=b->S.get b=m.get b):∀{t:Tn} {v:ae},Rd B m t v->Rd B S t v
 |_,_,.v x=>.v x
 |_,_,.nil sz=>.nil sz
 |_,_,.l L n sz ts cs ty a b c d e f g h=>.l L n sz ts cs ty a b c (dU d hn) aq f g λi t c hi j=>(h i t c hi j).ge hn k
theorem XlO(a:Int):bin .neq false true .int (.int .i64 a) (.int .i64 a)=some (.bool false):=by rw[eg,bJ ar]
theorem XoM(hS:EO)(s:ai)(d:Nat)(m:aj):TA (d+11) Hj [sv s] m=some (.bool true,m):=by
 rw[X7b];generalize O:aD m m.next=G;have a5:G.next=m.next:=by rw[<-O];rfl
 obtain⟨u,R,e1,f1,_,T,c1,P,w,Q⟩:=XcN hS s d G;obtain⟨m2,k2,f2,n2,p2,g2⟩:=Xzr T c1 (ic s).1 (ic s).2.1 R;obtain⟨a2,m3,e3,f3,D,a1,V⟩:=XoS s d m2;obtain⟨p,k4,f4,n4,p4,g4⟩:=Xzr D a1 (ic s).1 (ic s).2.1 m3;obtain⟨i5,j⟩:=XoL Q;have h3:=f3.next;have h1:=f1.next
 have q:Fr [] m2 p:=f3.trans f4;have A:∃ty,p.get R.next=some (.cells u 0 0 false ty):=by obtain⟨ty,g⟩:=g2;exact⟨ty,by rw[q.get _ aa ar];exact g⟩
 have Z:eh p (R.next+1) (ic s).1 (ic s).2.1:=p2.ne (q.get _ aa ar);have I:fK G.next p (sP s) u:=P.fr (f2.trans q);have D2:=j (d+4) m2.next p a2 (V.fr f4);have D1:=j (d+4) G.next p u I;have N:nI G.next p u:=by
  have F:=f2.trans q;refine⟨w.lo,w.top,λf v b c ver a3 ro ty i v' hf hv M hg=>w.row f v b c ver a3 ro ty i v' hf hv M ?_⟩;have a4:b<R.next:=by
   obtain⟨t,ht⟩:∃t,(sP s)[f]?=some t:=⟨_,dX (by rw[<-P.1];omega)⟩
   have:=P.2 f t v ht hv;cases this with
   |nil=>cases M
   |l L n sz ts cs ty hn hr a9 a8 hg hl ht h =>
    obtain⟨_,e⟩:=XB M
    grind
   |v x =>
    exfalso;obtain⟨t',a6,hT⟩:∃g:Fd,(ch 0)[f]?=some g/\Ty g _:=by
     have H:f<(ch 0).length:=by show f<18;omega
     exact⟨(ch 0)[f],dX H,Q.2 f _ _ ht (dX H)⟩
    cases hT with
    |i k z=>cases M
    |s t h=>cases M
    |b x=>cases M
    |f t =>have:f=0\/f=1\/f=2\/f=3\/f=4\/f=5\/f=6\/f=7\/f=8\/f=9\/f=10\/f=11:=aa;rcases this with rfl|rfl|rfl|rfl|rfl|rfl|rfl|rfl|rfl|rfl|rfl|rfl<;>cases a6
  rwa[<-F.get b a4 ar]
 obtain⟨m5,s1,s2,s3⟩:=XqI (d+9) Q I N aa;have h5:=s2.next;obtain⟨o,m6,e6,f6,_,r,S,J,_,_⟩:=XcN hS s d m5;have h6:=f6.next;obtain⟨ty,A⟩:=A;obtain⟨c',g5,l5⟩:=s3 R.next u 0 0 false ty aa A;have g6:m6.get R.next=some (.cells c' 0 0 false ty):=by rwa[f6.get _ aa ar]
 obtain⟨X,q1,q2⟩:=iJ (y:=0) (n:=12) (v:=.agg ⟨o⟩) (c':=o) g6 r c7 aa S (by show[]++o++c'.drop (0+12)=o;rw[rS aa];simp)
 have g7:∃ty,X.get _=some _:=⟨ty,by rw[q2.get,Mem.aX,ah rfl]⟩
 have W:fK _ X _ o:=⟨J.1,λi t c hi hc=>(J.2 i t c hi hc).ge (oT (by rw[q2.next,Mem.ij])) λb M=>by rw[q2.get,Mem.aX,af aa]⟩
 have D3:=j (d+4) _ X o W;have F7:Fb m.next G X:=by
  have a:Fb m.next G p:=(f1.trans (f2.trans q)).iP aa;have b:Fb m.next p m5:=by rwa[<-a5]
  have c:Fb m.next m5 m6:=f6.iP aa;exact a.trans (b.trans (c.trans (((Fb.refl m.next m6).put _ aa).jL q2)))
 rw[<-O]at F7;refine cD ?_ F7 rfl
 try rw[O]
 delta Hk Qmv C Y U jg;have e1:=e1;simp only[e1,X4,dy,dK,pz,X3];rw[k2];delta Qmw C Y U jg;simp only[e3,X4,dy,dK,pz,X3];rw[k4];delta Qmx Qmy Dd C F L E jd B K Y jg jj jh;have D1:TA (d+10) _ _ p=_:=D1;have D2:TA (d+10) _ _ p=_:=D2;have D3:TA (d+10) _ _ X=_:=D3;have s1:TA (d+10) _ _ p=_:=s1;have en:bin .neq false true .str (sv i5) (sv i5)=some (.bool false):=by rw[uf,bJ ar]
 have ee:bin .eql false true .str (sv i5) (sv i5)=some (.bool true):=by rw[Qh,bj rfl]
 simp only[Yr D g4,X3,D2,X4,Yr T ⟨ty,A⟩,D1,en,X5,X7,Z.l0,p4.l0,Z.l1,p4.l1,XlO,s1,e6,dy,dK,pz,q1,Xj,Yr r g7,D3,ee]
theorem Xy3:EO:=by
 intro L n d m cs ty h g hn a c;cases n with
 |zero =>refine⟨m,uF (y:=Cw) (by kernel_rfl) ?_ _,c6 _,c6 _,.inl ⟨rfl,rfl⟩⟩;rfl
 |succ n =>have e:ax L _ 15=.slice _ (n+1) _:=af aa;obtain⟨s,k,j⟩:=h aa;refine⟨m.put L.b (.cells _ _ 0 _ ty),uF (y:=Cw) (by kernel_rfl) ?_ _,oT (Mem.ij _ _ _).symm,by rw[Mem.kI];exact wN _ _,.inr ⟨aa,λo p q=>by rw[Mem.kI];omega,by rw[Mem.kI];exact tG _ _,λb r f=>by rw[Mem.aX,af (bq f)],Cm⟩⟩;rw[e];unfold Cw LG;dsimp only;rw[ah ⟨rfl,rfl,rfl,rfl⟩,ah ⟨rfl,aa⟩,j];dsimp only;rw[ah ⟨rfl,c6 _,aa,aa,c,λi hi=>by obtain⟨z,l⟩:=a i hi;rw[aQ,l];rfl⟩]
end Go.Ab.Sh
namespace Go.Ab
open Go
inductive Lf where|b|i (k:IntKind)|s
inductive Fits:List Lf->List Value->Prop where
 |nil:Fits [] []
 |b {L:List Lf} {cs:List Value} (x:Bool) (h:Fits L cs):Fits (.b::L) (.bool x::cs)
 |i {L:List Lf} {cs:List Value} (k:IntKind) (z:Int) (w:(Lit.int k z).wf=true) (h:Fits L cs):Fits (.i k::L) (.int k z::cs)
 |s {L:List Lf} {cs:List Value} (x:ByteArray) (h:Fits L cs):Fits (.s::L) (.string x::cs)
theorem Fits.app{L M:List Lf}{a b:List ae}(h:Fits L a)(k:Fits M b):Fits (L++M) (a++b):=by
 induction h with
 |nil=>exact k
 |b x _ c=>exact .b x c
 |i k z w _ c=>exact .i k z w c
 |s x _ c=>exact .s x c
def strs:List ae->Nat
 |[]=>0
 |.string x::r=>x.size+strs r
 |_::r=>strs r
theorem Xns:∀a b:List ae,strs (a++b)=strs a+strs b
 |[],b=>by simp[strs]
 |v::a,b=>by have c:=Xns a b;cases v<;>simp only[List.cons_append,strs]<;>omega
def yR(P:Program)(g:TypeId->Option (List Lf)):List Field->Nat->Option (List Lf)
 |[],_=>some []
 | f::a,y=>if f.offset=y then(match g f.type with
  |none=>none
  |some L=>if P.cellsOf f.type=L.length then(match yR P g a (y+L.length)with|none=>none|some R=>some (L++R))else none)else none
def B1(P:Program):Nat->TypeId->Option (List Lf)
 |0,_=>none
 | n+1,t=>match P.underlying t with
  |some .bool=>some [.b]
  |some (.int k)=>some [.i k]
  |some .string=>some [.s]
  | some (.struct a)=>(match yR P (B1 P n) a.toList 0 with
   |some L=>if P.cellsOf t=L.length then some L else none
   |none=>none)
  |_=>none
section
variable {za5:Type}{za7:TypeId × Value->za5}{P:Program}
structure Cs (za5:Type) where
 one:DataW za5->Nat
 all:List (DataW za5)->Nat
 str:∀l,one (.lit (.string l))=l.length+1
 agg:∀l,one (.agg l)=all l+1
 cons:∀d l,all (d::l)=one d+all l
def Reads(B:Cs za5)(za7:TypeId × ae->za5)(P:Program)(a:Nat)(t:TypeId)(L:List Lf)(cs:List ae)(d:DataW za5)(ps:List MemPlace):Prop:=
 Fits L cs/\ps=[]/\strs cs<=B.one d/\∀(w:World)(base:Nat) (sp:Nat->Bool) (b:Bool),DataW.trod za7 P w base sp b a t cs=some (d,[])
theorem Xhc(B:Cs za5){w:World}{base:Nat}{sp:Nat->Bool}{b:Bool}{a:Nat}{g:TypeId->Option (List Lf)}
  (q:∀t L,g t=some L->∀cs d ps,DataW.trod za7 P w base sp b a t cs=some (d,ps)->Reads B za7 P a t L cs d ps) (cs:List ae):∀(i:List Field)(y:Nat) (R:List Lf) (l:List (DataW za5 × List MemPlace)),
  yR P g i y=some R->y+R.length<=cs.length->(i.mapM λf=>DataW.trod za7 P w base sp b a f.type ((cs.drop f.offset).take (P.cellsOf f.type)))=some l ->
  Fits R ((cs.drop y).take R.length)/\l.flatMap (·.2)=[]/\strs ((cs.drop y).take R.length)<=B.all (l.map (·.1)) /\
   ∀(w:World)(base:Nat) (sp:Nat->Bool) (b:Bool),(i.mapM λf=>DataW.trod za7 P w base sp b a f.type ((cs.drop f.offset).take (P.cellsOf f.type)))=some l
 |[],y,R,l,c,r,h=>by simp only[yR,cE]at c;subst c;simp only[List.mapM_nil,pure,cE]at h;subst h;exact⟨.nil,rfl,kn _,λ_ _ _ _=>rfl⟩
 |f::i,y,R,l,c,r,h=>by
  unfold yR at c;split at c
  ·rename_i k;cases j:g f.type with
   |none=>rw[j]at c;cases c
   |some L =>
    rw[j]at c;simp only at c;split at c
    ·rename_i x;cases p:yR P g i (y+L.length)with
     |none=>rw[p]at c;cases c
     |some n =>
      rw[p]at c;simp at c;subst c;rw[List.mapM_cons]at h;cases m:DataW.trod za7 P w base sp b a f.type ((cs.drop f.offset).take (P.cellsOf f.type))with
      |none=>rw[m]at h;cases h
      |some g8 =>
       cases o:(i.mapM λf=>DataW.trod za7 P w base sp b a f.type ((cs.drop f.offset).take (P.cellsOf f.type)))with
       |none=>rw[m,o]at h;cases h
       |some z =>
        rw[m,o]at h;have h:some _=some l:=h;cases h;obtain⟨d,ps⟩:=g8;have k:=k;rw[k,x]at m;obtain⟨s,u,A,C⟩:=q _ L j _ d ps m;rw[fy]at r;obtain⟨v,D,E,F⟩:=Xhc B q cs i _ n z p aa o;subst u;have e:(cs.drop y).take (L++n).length=(cs.drop y).take L.length++(cs.drop (y+L.length)).take n.length:=by rw[fy,List.take_add,List.drop_drop]
        rw[e];refine⟨s.app v,?_,?_,?_⟩
        ·grind
        ·rw[Xns,lx,B.cons]
         grind
        simp_all
    trivial
  trivial
theorem lay_reads(B:Cs za5){w:World}{base:Nat}{sp:Nat->Bool}{j:Bool}:∀(n:Nat)(t:TypeId) (L:List Lf),B1 P n t=some L->∀(a:Nat)(cs:List ae) (d:DataW za5) (ps:List MemPlace),DataW.trod za7 P w base sp j a t cs=some (d,ps)->Reads B za7 P a t L cs d ps
 |0,t,L,c,a,cs,d,ps,h=>by cases c
 |n+1,t,L,c,0,cs,d,ps,h=>by cases h
 |n+1,t,L,c,a+1,cs,d,ps,h=>by
  unfold B1 at c;cases g:P.underlying t with
  |none=>grind
  |some T =>
   rw[g]at c;cases T<;>simp only at c
   case bool =>
    cases c;unfold DataW.trod at h;rw[g]at h
    match cs,h with
    |[.bool x],h =>simp only[cE,kN]at h;obtain⟨rfl,rfl⟩:=h;exact⟨.b x .nil,rfl,kn _,λ_ _ _ _=>by unfold DataW.trod;rw[g]⟩
   case int k =>
    cases c;unfold DataW.trod at h;rw[g]at h
    match cs,h with
    |[.int I z],h =>
     simp only at h;split at h
     ·rename_i v;simp only[cE,kN]at h;obtain⟨rfl,rfl⟩:=h;obtain⟨rfl,y⟩:=v;exact⟨.i I z y .nil,rfl,kn _,λ_ _ _ _=>by unfold DataW.trod;rw[g];simp[y]⟩
     grind
   case string =>
    cases c;unfold DataW.trod at h;rw[g]at h
    match cs,h with
    |[.string x],h =>
     simp only at h;split at h
     ·rename_i v;simp only[cE,kN]at h;obtain⟨rfl,rfl⟩:=h;refine⟨.s x .nil,rfl,?_,λ_ _ _ _=>by unfold DataW.trod;rw[g];simp only;grind⟩;rw[B.str,pL];show x.size+0<=x.size+1;omega
     grind
   case struct r =>
    cases u:yR P (B1 P n) r.toList 0 with
    |none=>grind
    |some R =>
     rw[u]at c;simp only at c;split at c
     ·rename_i F;obtain rfl:R=L:=pM c;unfold DataW.trod at h;rw[g]at h;simp only at h;split at h
      ·rename_i l;cases A:(r.toList.mapM λf=>DataW.trod za7 P w base sp j a f.type ((cs.drop f.offset).take (P.cellsOf f.type)))with
       |none=>grind
       |some J =>
        rw[A]at h;simp at h;obtain⟨rfl,rfl⟩:=h;obtain⟨q,C,D,E⟩:=Xhc B (λt L H cs d ps G=>lay_reads B n t L H _ cs d ps G) cs _ 0 R J u aa A;have e:(cs.drop 0).take R.length=cs:=by rw[mA,<-F,<-l,tJ]
        rw[e]at q D;refine⟨q,C,by rw[B.agg];omega,λZ m p o=>?_⟩;unfold DataW.trod;rw[g];simp only;rw[ah l,E Z _ p _]
        grind
      grind
     grind
   all_goals cases c
theorem Xsw(B:Cs za5){w:World}{base:Nat}{sp:Nat->Bool}{f:Bool}{n:Nat}{t:TypeId}{L:List Lf}(i:B1 P n t=some L){v:ae}{d:DataW za5}{ps:List MemPlace}(h:DataW.Trod za7 P w base sp f t v d ps) :
  Fits L v.cells.toList/\ps=[]/\strs v.cells.toList<=B.one d/\∀(w:World)(base:Nat) (sp:Nat->Bool) (f:Bool),DataW.Trod za7 P w base sp f t v d []:=by
 obtain⟨g,hf⟩:=h;obtain⟨a,b,c,e⟩:=lay_reads B n t L i _ _ d ps hf;exact⟨a,b,c,λw base sp f=>⟨g,e w _ sp _⟩⟩
end
end Go.Ab
namespace Go.Ab.Sh
open Go Go.Ab Go.Lib
variable {P:Program}{W:World}{c:Code}{f:FuncId}{fn:Func}{S:Mem}{v:Value}
def zzM:Mem:=⟨0,0,.nil⟩
theorem zzR(W:World):Rel W.heap.size (λ_=>none) zzM W:=⟨(λb pl h=>nomatch h),(λ_ _ _ _ h=>nomatch h),(λb pl h=>nomatch h),Nat.le_refl _,(λb _=>rfl)⟩
theorem zzB{j:az}{b:Bool}{cv:Value}(h:aG j (.bool b) cv):cv=.bool b:=by cases h;rfl
theorem XrF:B1 Go.Proofs.Tryz.prog 1 Qc=some [.s]:=bY
theorem Xml{g:fo}(hT:mg P W g)(hf:P.funcs[f]?=some fn)(q:fn.body=some c)(hn:(fn.name== "runtime.NumGoroutine")=false)(a:List ae)(p:∀j,bu j a a)(s:g f a zzM=some (v,S))(l:∀j cv,aG j v cv->cv=v):Calls P f a.toArray W λe Z=>e=.returned v/\RowKit.Below W.heap.size W Z:=by
 have h:=hT (λ_=>none) _ W f _ _ v S (zzR W) (RowKit.Below.refl _ _) (p _) s;rcases h with⟨_,h⟩|⟨cv,Z,h,_⟩
 ·refine h.mono λe Z r=>?_;obtain⟨cv,rfl,n,_,o,i⟩:=r;rw[l n cv o];exact⟨rfl,⟨i.os,i.tape,i.output,i.size,λk u=>i.frame k u λb pl t=>nomatch t⟩⟩
 ·have:=enters hf q hn a.toArray W
  grind
theorem Xm6(hT:∀n,mg Go.Proofs.Tryz.prog W (TA n))(hf:Go.Proofs.Tryz.prog.funcs[Hj]?=some fn)(d:fn.body=some c)(hn:(fn.name== "runtime.NumGoroutine")=false)(s:ai) :
  Calls Go.Proofs.Tryz.prog Hj #[sv s] W λe Z=>e=.returned (.bool true)/\RowKit.Below W.heap.size W Z:=
 Xml (hT 11) hf d hn [sv s] (λj=>.cons _ _ _ _ (.string _) .nil) (XoM Xy3 s 0 zzM) (λj cv h=>zzB h)
end Go.Ab.Sh
end
