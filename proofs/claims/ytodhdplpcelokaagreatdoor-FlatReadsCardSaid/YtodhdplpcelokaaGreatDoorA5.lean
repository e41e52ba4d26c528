/-
  What the functions of the program answer, at every text and every question. No conditions.
-/
import Derived.Test.YtodhdplpcelokaaGreatDoorA4
import Derived.Test.YtodhdplpcelokaaGreatDoorA2
set_option linter.all false
set_option maxRecDepth 100000
noncomputable section
namespace Go.Ab.Sh
open Go Go.Ab Go.Lib
variable {B a b bl n y zb7:Nat}{L Lw:Lc}{X M:NX}{k:Key}{l:List Cl}{S:Mem}{G':ai}{w:Value}{ws:List ai}{g8:Option Rs}
def nj(h:X [0]=some (.c l))(a:y<l.length)(v):bF X [0] y [v]=X.set [0] (some (.c (l.set y (.v v)))):=by
 rw[fp h];congr 3;apply fk;intro i;refine(aX (show y+[Cl.v v].length<=l.length from a) i).trans ?_
 grind
def iU(X:NX)(ws:List ai):NX:=(bF X [0] 15 [.bool (dF X [0] 15||decide (Xr [32] ws∈aS X))]).set [2] (some (lv (kg (aS X) (Xr [32] ws))))
def o7(h:X [0]=some (.c l))(a:l.length=18)(ws):iU X ws=(X.set [0] (some (.c (l.set 15 (.v (.bool (dF X [0] 15||decide (Xr [32] ws∈aS X)))))))).set [2] (some (lv (kg (aS X) (Xr [32] ws)))):=by unfold iU;rw[nj h aa]
def Ux{l'}(h:X [0]=some (.c l))(a:M [0]=some (.c l'))(e:l'[y]?=l[y]?):dF M [0] y=dF X [0] y:=by unfold dF dm;rw[cU h,cU a,e]
def sR(h:X [0]=some (.c l))(y cs):bg X [0] y cs=(X.set [y,0] (some (.c (bz X [y,0]++cs)))).set [0] (some (.c (l.set y (.s (au X [0] y+1) cs.length)))):=by unfold bg;rw[h]
def UH(h:X k=some (.c l))(y cs):bg X k y cs=(X.set (y::k) (some (.c (bz X (y::k)++cs)))).set k (some (.c (l.set y (.s (au X k y+1) cs.length)))):=by unfold bg;rw[h]
def KQ(h:M k=X k):bz M k=bz X k:=by unfold bz;rw[h]
def XlQ(h:M k=X k)(y):au M k y=au X k y:=by unfold au cl;rw[h]
def Yq:([9,0]:Key)≠[0]:=ak
def Xjy(h:X [0]=some (.c l))(b:l.length=18)(ws z):iU (bF X [0] 17 [z]) ws=bF (iU X ws) [0] 17 [z]:=by
 have a:bF X [0] 17 [z] [0]=some (.c (l.set 17 (.v z))):=by rw[nj h aa,NX.aR]
 have d:iU X ws [0]=some (.c (l.set 15 (.v (.bool (dF X [0] 15||decide (Xr [32] ws∈aS X)))))):=by rw[o7 h b,NX.aE _ _ ak,NX.aR]
 rw[o7 a aq,nj d aq,Ux h a ar,kU (YL X ak 17 [z]),nj h aa,o7 h b,List.set_comm _ _ aa];funext k;unfold NX.set;by_cases q:k=[0]
 ·simp[q]
 ·simp[q]
def Xqf(h:X [0]=some (.c l))(a:l.length=18)(ws cs):iU (bg X [0] 9 cs) ws=bg (iU X ws) [0] 9 cs:=by
 have b:bg X [0] 9 cs [0]=some (.c (l.set 9 (.s (au X [0] 9+1) cs.length))):=by rw[sR h,NX.aR]
 have d:iU X ws [0]=some (.c (l.set 15 (.v (.bool (dF X [0] 15||decide (Xr [32] ws∈aS X)))))):=by rw[o7 h a,NX.aE _ _ ak,NX.aR]
 have f:iU X ws [9,0]=X [9,0]:=by rw[o7 h a,NX.aE _ _ ak,NX.aE _ _ ak]
 have g:au (iU X ws) [0] 9=au X [0] 9:=by unfold au;rw[cU h,cU d,du,af aa]
 rw[o7 b (by rw[uV];exact a),sR d,KQ f,g,Ux h b (by rw[du,af aa]),kU (po X ak ak cs),sR h,o7 h a,List.set_comm _ _ (show(9)≠15 by omega)];funext k;unfold NX.set;by_cases q:k=[0]
 ·simp[q]
 ·by_cases e:k=[2]
  ·simp[e]
  ·simp[q,e]
def Xh8{j}(h:X [0]=some (.c l))(d:l.length=18)(b:X [9,0]=some (.c j))(ws y cs):iU (bg X [9,0] y cs) ws=bg (iU X ws) [9,0] y cs:=by
 have i:([y,9,0])≠[0]:=λe=>jA;have a:([y,9,0])≠[2]:=λe=>jA;have f:bg X [9,0] y cs [0]=some (.c l):=by rw[UH b,NX.aE _ _ ak,NX.aE _ _ (bq i)];exact h
 have g:iU X ws [9,0]=some (.c j):=by rw[o7 h d,NX.aE _ _ ak,NX.aE _ _ ak];exact b
 have n:iU X ws [y,9,0]=X [y,9,0]:=by rw[o7 h d,NX.aE _ _ a,NX.aE _ _ i]
 rw[o7 f d,UH g,KQ n,XlQ (g.trans b.symm),Ux h f rfl,kU (po X ak a cs),UH b,o7 h d];funext k;unfold NX.set;by_cases q:k=[0]
 ·subst q;simp[]
 ·by_cases m:k=[2]
  ·subst m;simp[]
  ·simp[q,m]
def XjJ(h:X [0]=some (.c l))(f:l.length=18)(z cs):bg (bF X [0] 17 [z]) [0] 9 cs=bF (bg X [0] 9 cs) [0] 17 [z]:=by
 have a:bF X [0] 17 [z] [0]=some (.c (l.set 17 (.v z))):=by rw[nj h aa,NX.aR]
 have b:bg X [0] 9 cs [0]=some (.c (l.set 9 (.s (au X [0] 9+1) cs.length))):=by rw[sR h,NX.aR]
 have d:bF X [0] 17 [z] [9,0]=X [9,0]:=by rw[nj h aa,NX.aE _ _ ak]
 have e:au (bF X [0] 17 [z]) [0] 9=au X [0] 9:=by unfold au;rw[cU h,cU a,du,af aa]
 rw[sR a,nj b (by rw[uV];omega),KQ d,e,nj h aa,sR h,List.set_comm _ _ (show(9)≠17 by omega)];funext k;unfold NX.set;by_cases q:k=[0]
 ·simp[q]
 ·simp[q]
variable {c:Cx}{G m:Mem}{Q j i7:ay}{J s u i5 S':ao}{o V' A' h Z':Nat}{ts zb6:List Tmp}{x:Option Rs}{i8:Value->Nat->ay->ao->Prop}{v:Value}{cu:Cu}
def W.YJ[cG c](h:W c G Q J o m j s ts)(z):∃q,Xe 1 (pt c.P (0+14) 0) (.int .i64 z) m=some q/\W c G Q J o q j (s.aC [0] 17 [.int .i64 z]) ts:=by
 obtain⟨l,a,b⟩:=h.ps.wt.root;obtain⟨d,w,x⟩:=h.ps.wt.get a rfl (y:=17) aa;obtain⟨d,rfl⟩:∃z,d=.v z:=by
  cases d with
  |v z=>simp
  |s n A=>trivial
 have r:(gy c s l)[2]?=some (.v d):=by rw[gN];show some (ey l 17)=_;unfold ey;rw[w];rfl
 have e:∀i d,([.int .i64 z])[i]?=some d->dz (bo 0 (17+i)) (.v d):=λi d p=>by
  match i,p with
  |0,p=>cases p;exact bR _ _
 have ok:mL c (s.aC [0] 17 _):=⟨h.ps.ok.le,h.ps.ok.ee,h.ps.wt.st a rfl (by show 17+1<=l.length;omega) e,h.ps.ok.il,h.ps.ok.ge.to λt u _=>oT (yo h.ps.wt a rfl (by show 17+1<=l.length;omega) e t u).symm⟩
 refine h.B7 a aa r rfl rfl (nj a aa _) (by rw[uV];exact b) rfl rfl ?_ ?_ ok
 ·exact List.take_set_of_le aa
 ·rw[gN,gN];have f:ey (l.set 17 (.v (.int .i64 z))) 15=ey l 15:=by unfold ey;rw[du,af aa]
  have g:ey (l.set 17 (.v (.int .i64 z))) 16=ey l 16:=by unfold ey;rw[du,af aa]
  have k:ey (l.set 17 (.v (.int .i64 z))) 17=.v (.int .i64 z):=by unfold ey;rw[du,ah rfl,ah aa];rfl
  rw[f,g,k];rfl
def XM[cG c](h:PS c o m j s):X9 false 1 (pt c.P (0+14) 0) m=some (.int .i64 (bI s.X [0] 17)):=by
 obtain⟨l,a,f⟩:=h.wt.root;obtain⟨d,g,b⟩:=h.wt.get a rfl (y:=17) aa;have b:dz (some _) d:=b;cases d with
 |s n p=>trivial
 |v k =>
  obtain⟨z,rfl⟩:=b;have e:bI s.X [0] 17=z:=by unfold bI dm;rw[cU a,g];rfl
  have:=h.rr a (i:=2) aa (by rw[gN];show some (ey l 17)=_;unfold ey;rw[g];rfl)
  grind
def YG(y:Option Nat):Int:=match y with|some i=>(i:Int)|none=>-1
def WO(w:WT s.X)(z):bI (s.aC [0] 17 [.int .i64 z]).X [0] 17=z:=by obtain⟨l,a,b⟩:=w.root;show bI (bF s.X [0] 17 _) [0] 17=z;rw[nj a aa];unfold bI dm;rw[lI,du,ah rfl,ah aa];rfl
def BA(w:WT s.X)(z y):au (s.aC [0] 17 [.int .i64 z]).X [0] y=au s.X [0] y:=by
 obtain⟨l,a,b⟩:=w.root;exact yo w a rfl aq (λi d c=>by
  match i,c with
  |0,c=>cases c;exact bR _ _) [0] y
def XmL(w:WT s.X)(z)(c:k≠[0]):(s.aC [0] 17 [.int .i64 z]).X k=s.X k:=by obtain⟨l,a,b⟩:=w.root;show bF s.X [0] 17 _ k=_;rw[nj a aa,NX.aE _ _ c]
def Xss(w:WT s.X)(g8 z):(s.aC [0] 17 [.int .i64 g8]).aC [0] 17 [.int .i64 z]=s.aC [0] 17 [.int .i64 z]:=by obtain⟨l,a,b⟩:=w.root;show({ s with X:=bF (bF s.X [0] 17 [.int .i64 g8]) [0] 17 [.int .i64 z] })=_;rw[Xte a aa];rfl
def Xum(p sz f):∀n i a b,ri p sz f n i a=some b->a=some b\/b<i+n
 |0,i,a,b,h=>.inl h
 |n+1,i,a,b,h=>by
  unfold ri at h;rcases Xum p sz f n _ _ b h with q|q
  ·grind
  omega
def VU[cG c](M')(e:o+1<=8589934592)(nm)(h:ae):∀N i f a (m:aj),i+N=au u.X [0] 9->N<f->WT u.X->W c G Q J o m j (u.aC [0] 17 [.int .i64 (YG a)]) ts ->
  ∃g,wW M' f (I i) (pt c.P 0 0) (sv nm) h m=Hc M' (pt c.P 0 0) (sv nm) h g/\W c G Q J o g j (u.aC [0] 17 [.int .i64 (YG (ri (λL=>decide (di u.X [9,0] L=nm)) 3 0 N i a))]) ts
 |N,i,0,a,m,_,hf,_,_=>aa
 |0,i,f+1,a,m,K,hf,w,k=>by obtain⟨_,r,b,_,s⟩:=k.ps.dev (f:=9) (sz:=3) rfl aa rfl;rw[BA w]at b r;refine⟨m,?_,k⟩;unfold wW;delta E F je N ji;simp only[Xg,X7,X3,b,dx,Qb,Xf];rw[af aa]
 |N+1,i,f+1,a,m,K,hf,w,k=>by
  obtain⟨_,r,b,_,s⟩:=k.ps.dev (f:=9) (sz:=3) rfl aa rfl;rw[BA w]at b r s;obtain⟨M,t,z,C⟩:=s aa;have hi:i<au u.X [0] 9:=aa;have p:Xd 3 _ (I i)=some _:=eU _ C _ 3 i _ hi;have v:=k.ps.BY t (sz:=3) rfl rfl z rfl i hi;obtain⟨ty,d⟩:=k.ps.aF t ak ak;have n:di (u.aC [0] 17 [.int .i64 (YG a)]).X [9,0] (i*3+0)=di u.X [9,0] (i*3+0):=by unfold di dm cl;rw[XmL w _ ak]
  rw[n]at v;have q:X9 _ 1 (pt _ (i*3+0) _) m=some _:=Xt d v;have H:bin _ _ _ _ (sv (di u.X [9,0] (i*3+0))) (sv nm)=some _:=Qh false true _ _;have D:bin .add true true .int (I i) (.int .i64 1)=some (I (i+1:Nat)):=by rw[cz];have:((i:Nat):Int)+1=((i+1:Nat):Int):=aa;rw[this,wrap64 _ aa]
  unfold wW;delta E F je N ji;simp only[Xg,X7,X3,b,dx,Qb,Xf];rw[ah aa];delta Z2 Ot E F je B Z jb ja A;simp only[Xg,X7,X3,aQ,b,p,q,H,Xf,D];unfold ri;by_cases l:di u.X [9,0] (i*3+0)=nm
  ·rw[ah l,ah (bj l)];obtain⟨g,u1,x⟩:=k.YJ (i);rw[Xss w]at x;have u1:Xe 1 (pt c.P 14 0) (I i) m=some g:=by rwa[aQ]at u1
   simp only[u1,Xj];exact VU M' e nm h N _ f _ g aa aa w x
  ·rw[af l,af aq];exact VU M' e nm h N _ f a m aa aa w k
def XbL[cG c](d)(L:o+1<=8589934592){w i q N':Nat}(hi:i<au u.X [0] 9)(a:bI u.X [0] 17=(i:Int))(k:W c G Q J o m j u ((w,0,(gL q N').map Cl.raw)::ts)){V' h}(hc:o+1<=V'+h) :
  aK c G Q J (Hb (aH d) (pt c.P 0 0) (pt w 0 0) m) (QR V' h (.tuple ⟨[]⟩) (u.app [9,0] (i*3+1) (gL q N'))):=by
 obtain⟨⟨lr,p,A⟩,q2,R,_,S⟩:=k.ps.dev (f:=9) (sz:=3) rfl aa rfl;obtain⟨l9,v,Y,C⟩:=S aa;have x:=oN (sz:=3) hi;have hf:bo 12 (i*3+1)=some (.l 13):=by rw[fd_row (r:=12) (sz:=3) rfl i 1 aa];rfl
 obtain⟨_,_,b,_,_⟩:=k.ps.list v wC aa hf;have b:X9 _ 1 _ m=some (ax _ _ 15):=b;have s:Xd 3 _ (I i)=some _:=eU _ C _ 3 i _ hi;have lp:=XM k.ps;rw[a,aQ]at lp;have t:X9 _ 15 _ m=some (.agg ⟨(gL q N').map _⟩):=k.fi (y:=0) br ar rfl;delta Hb O jo T F jn jd X je jc jb jm jf jq;simp only[Xg,X7,X3,aQ,R,lp,s,b,t];refine k.bO (cs:=(gL q N').map _) rfl ak λZ m2 g=>?_;refine g.Fs aa v wC aa hf (sz:=15) rfl rfl rfl (dJ (by repeat' (first|exact trivial|exact bR _ _|exact fV _|exact eJ c7|exact jM _ _|apply And.intro))) ak (K:=λm=>some (.tuple ⟨[]⟩,m)) (λv' B z=>by
   have M:aL c u [0]≠none:=by rw[lF p];simp
   have e2:=z [0] M (λe=>aq);rw[g.ps.pP]at e2;have D:X9 false 1 (pt c.P 14 0) B=some (I i):=by rw[Xoj e2];have:=XM g.ps;rwa[a,aQ]at this
   have E:∀m,again (aI (some (I i)) m) (I i)=true:=λm=>kQ _ _ _;simp only[xS g (f:=9) (sz:=3) rfl aa rfl (λe=>aq) z,D,o6,E,fO,Xv,]) λV B U H _ N=>?_
 exact N.ret ⟨rfl,aa,rfl,λ_=>rfl⟩
def Nu(X:NX):Prop:=∀a b,a<au X [0] 9->b<au X [0] 9->di X [9,0] (a*3+0)=di X [9,0] (b*3+0)->a=b
def jH(s:ao)(a:ai)(N' q:Nat):ao:=
 let r:=rowOf s 9 3 a [.v (sv a),.s 0 15,.v (.bool false)]
 ig ((r.2.aC [0] 17 [I r.1]).app [9,0] (r.1*3+1) (gL q N')) kH dj [dj,a,bN q] (sj++a++[32]++decDigits q)
def XkE(s b bt ws key):(ig s b bt ws key).X=iU s.X ws:=rfl
abbrev eT(name:ai):List Cl:=[.v (sv name),.s 0 15,.v (.bool false)]
abbrev BE(name:ai)(q:Nat):ai:=sj++name++[32]++decDigits q
def Xwu(h:X [0]=some (.c l))(b:l.length=18)(ws):∃a,iU X ws [0]=some (.c a)/\a.length=18:=⟨_,by rw[o7 h b,NX.aE _ _ ak,NX.aR],aq⟩
def Xy7(w:WT s.X)(name N' q i)(hf:fq s.X [0] 9 3 0 name=some i)(d:∃f,s.X [9,0]=some (.c f)) :
  ((ig s kH dj [dj,name,bN q] (BE name q)).aC [0] 17 [I i]).app [9,0] (i*3+1) (gL q N')=jH s name N' q:=by
 obtain⟨l,a,b⟩:=w.root;obtain⟨f,d⟩:=d;have g:bF s.X [0] 17 [I i] [0]=some (.c (l.set 17 (.v (I i)))):=by rw[nj a aa,NX.aR]
 have h:bF s.X [0] 17 [I i] [9,0]=some (.c f):=by rwa[nj a aa,NX.aE _ _ Yq]
 have e:iU (bg (bF s.X [0] 17 [I i]) [9,0] (i*3+1) (gL q N')) [dj,name,bN q]=bg (bF (iU s.X [dj,name,bN q]) [0] 17 [I i]) [9,0] (i*3+1) (gL q N'):=by rw[Xh8 g aq h,Xjy a b]
 unfold jH rowOf;rw[hf];show({ ig s kH dj [dj,name,bN q] (BE name q)with X:=bg (bF (iU s.X [dj,name,bN q]) [0] 17 [I i]) [9,0] (i*3+1) (gL q N') })=_;rw[<-e];rfl
def Xyx(w:WT s.X)(name N' q)(hf:fq s.X [0] 9 3 0 name=none) :
  (((ig s kH dj [dj,name,bN q] (BE name q)).aC [0] 17 [I (au s.X [0] 9)]).app [0] 9 (eT name)).app [9,0] (au s.X [0] 9*3+1) (gL q N')=jH s name N' q:=by
 obtain⟨l,a,b⟩:=w.root;obtain⟨l1,f,g⟩:=Xwu a b [dj,name,bN q];have d:bg s.X [0] 9 (eT name) [0]=some (.c (l.set 9 (.s (au s.X [0] 9+1) 3))):=by rw[sR a,NX.aR];rfl
 have h:bF (bg s.X [0] 9 (eT name)) [0] 17 [I (au s.X [0] 9)] [0]=some (.c ((l.set 9 (.s (au s.X [0] 9+1) 3)).set 17 (.v (I (au s.X [0] 9))))):=by rw[nj d aq,NX.aR]
 have i:bF (bg s.X [0] 9 (eT name)) [0] 17 [I (au s.X [0] 9)] [9,0]=some (.c (bz s.X [9,0]++eT name)):=by rw[nj d aq,NX.aE _ _ Yq,sR a,NX.aE _ _ Yq,NX.aR]
 have e:iU (bg (bF (bg s.X [0] 9 (eT name)) [0] 17 [I (au s.X [0] 9)]) [9,0] (au s.X [0] 9*3+1) (gL q N')) [dj,name,bN q]=bg (bg (bF (iU s.X [dj,name,bN q]) [0] 17 [I (au s.X [0] 9)]) [0] 9 (eT name)) [9,0] (au s.X [0] 9*3+1) (gL q N'):=by rw[Xh8 h aq i,Xjy d aq,Xqf a b,XjJ f g]
 unfold jH rowOf;rw[hf];show({ ig s kH dj [dj,name,bN q] (BE name q)with X:=bg (bg (bF (iU s.X [dj,name,bN q]) [0] 17 [I (au s.X [0] 9)]) [0] 9 (eT name)) [9,0] (au s.X [0] 9*3+1) (gL q N') })=_;rw[<-e];rfl
def LM(s a N' q):(jH s a N' q).cu=s.cu:=by unfold jH rowOf;cases fq s.X [0] 9 3 0 a<;>rfl
def XhQ(h:X [0]=some (.c l))(a:9<l.length)(cs):au (bg X [0] 9 cs) [0] 9=au X [0] 9+1:=by
 rw[sR h];show(match cl _ [0] 9 with|.s n _=>n|_=>0)=_
 rw[lI,du,ah rfl,ah a];rfl
def Xq0[r:cG c](h:PS c o m j s)(al:o+4<=8589934592)(hn:s.rs.num<1000000000000){g w:ai}(V:g.length<=65536){q qf N'}(hq:q<=65535)
  (Q:s.cu.er.isNone=true->(BE g qf∈s.rs.bM↔Xr [32] [dj,g,bN qf]∈aS s.X)) (hE:s.cu.er.isNone=true->q=qf/\N'=(if w=dq then 1 else if w=lE then 2 else 0)) (hu:Nu s.X) (d:Nat) :
  mH c o 3 m j s (TA (d+4) N3 [pt c.P 0 0,sv g,sv w,I q] m) (.tuple ⟨[]⟩) (jH s g N' qf):=by
 refine h.tB (X50 _ _ _ _ _ _) λG k=>?_;have am:=j8 q aa;delta CB C B D;have e1:bin _ _ _ _ (.string ⟨#[114,111,117,116,101,45,109,97,112,32]⟩) _=some (sv (sj++g)):=Qu true true _ _ cF;have e2:bin _ _ _ _ _ (.string ⟨#[32]⟩)=some (sv (sj++g++[32])):=Qu true true (sj++g) _ cF;have e4:TA (d+3) _ _ G=some _:=BQ q aa _ G;simp only[e1,e2,e4,Qu false true (sj++g++[32]) (decDigits q) cF,X4,X3];have a9:=xW q aa;refine W.YB (key:=BE _ q) aa hn kH dj (ws:=[dj,g,bN q]) (aO (A9 _ _ (λx hx=>by
   simp only[eF,Na,or_false]at hx;rcases hx with rfl|rfl|rfl
   ·decide
   ·exact V
   ·omega)) (show 3*(65536+1)<=SB by decide)) _ k (λe=>by obtain⟨rfl,_⟩:=hE e;exact Q e) λA' m1 i7 A ab k1 u M L=>?_
 delta OE B Y U A;have eb:Xc qW [(0,1),(1,1),(2,1),(3,1),(4,1),(5,1),(6,1),(7,1),(8,1),(9,1),(10,1),(11,1),(12,1),(13,1),(14,1)] [(0,I q),(4,.int _ _),(5,.int _ _),(6,.int _ _),(7,.int _ _),(8,.int _ _),(9,.int _ _)]=some (.agg ⟨(gL q 0).map Cl.raw⟩):=aU rfl rfl;simp only[eb,X3];refine k1.new λK m2 k2=>?_;refine k2.aC (l1:=[]) (za6:=(gL q 0).map _) rfl rfl aW rfl λm3 k3=>?_;have es:∀a,bin .eql true true .str (sv w) (.string ⟨⟨a⟩⟩)=some (.bool (decide (w=a))):=λa=>Qh true true w a
 have fin:∀S J,(s.cu.er.isNone=true->J=N')->W c G j s A' S i7 A [(K,0,(gL q J).map Cl.raw)] ->
   aK c G j s (CQ (aH (d+3)) (pt c.P 0 0) (sv g) (pt K 0 0) S) (QR o 3 (.tuple ⟨[]⟩) (jH s g N' qf)):=λS J O k'=>by
  obtain⟨m4,u4,k4⟩:=k'.YJ (-1);have t:=k'.ps.wt;obtain⟨_,an,_,_,q5⟩:=k'.ps.dev (f:=9) (sz:=3) rfl aa rfl;delta CQ Z A;simp only[Xg,X7,X3,u4,Xj];have ⟨m5,u5,k5⟩:=VU (aH (d+3)) aa g (pt K 0 0) (au A.X [0] 9) 0 18446744073709551616 none m4 (aQ _) aa t k4;have e5:OC (aH (d+3)) (pt c.P 0 0) (sv g) (pt K 0 0) m4=wW (aH (d+3)) 18446744073709551616 (I (0:Nat)) (pt c.P 0 0) (sv g) (pt K 0 0) m4:=by rfl
  rw[e5,u5];have R:=λp e=>Xum (λp=>decide (di A.X [9,0] p=g)) 3 0 (au A.X [0] 9) 0 none p e;have n:s.cu.er.isNone=true->ri (λp=>decide (di A.X [9,0] p=g)) 3 0 (au A.X [0] 9) 0 none=fq s.X [0] 9 3 0 g/\au A.X [0] 9=au s.X [0] 9:=λe=>by
   have L:=L e;have ⟨l,a,b⟩:=h.wt.root;have a7:A.X [9,0]=s.X [9,0]:=M _ ak ak;have a6:di A.X [9,0]=di s.X [9,0]:=by unfold di dm cl;rw[a7]
   have a5:au A.X [0] 9=au s.X [0] 9:=by
    rw[L,XkE];have h2:iU s.X [dj,g,bN q] [0]=some (.c (l.set 15 (.v (.bool (dF s.X [0] 15||decide (Xr [32] [dj,g,bN q]∈aS s.X)))))):=by rw[o7 a b,NX.aE _ _ ak,NX.aR]
    unfold au;rw[cU a,cU h2,du,af aa]
   rw[a6,a5,WJ _ _ _ _ _ (λp j' _ h2 _ h4 p1 p2=>hu p j' aa aa ((aT p1).trans (aT p2).symm))];unfold fq
   grind
  generalize ri (λp=>decide (di A.X _ p=g)) 3 0 _ 0 _=y at R n k5;delta Hc F E je jc B N Z jm jf A;have lp:=XM k5.ps;rw[WO t]at lp;simp only[Xg,X7,X3,aQ,lp,Qb];cases y with
  |some i =>
   have hi:i<au A.X [0] 9:=by
    rcases R i rfl with e|e
    ·cases e
    ·omega
   rw[show decide _=false from bJ (by show ¬((i:Int)<0);omega),X5];refine(XbL _ aa (by rw[BA t];exact hi) (WO t _) k5 aa).qr (by rwa[LM]) λe=>?_;rw[LM]at e;obtain⟨rfl,_⟩:=hE e;have:=O e;subst this;have ⟨f1,f2⟩:=n e;have ⟨l9,g1,_⟩:=q5 aa;rw[L e];exact Xy7 h.wt _ J q i f1.symm ⟨l9,by rwa[<-M [9,0] ak ak]⟩
  |none =>
   rw[show decide _=true from rfl,X6];obtain⟨_,_,q3,_,_⟩:=k5.ps.dev (f:=9) (sz:=3) rfl aa rfl;rw[BA t]at q3;simp only[q3,dx,X3];have ⟨m6,u6,k6⟩:=k5.YJ (au A.X [0] 9);rw[Xss t]at k6;simp only[u6,Xj];obtain⟨_,_,q3,_,_⟩:=k6.ps.dev (f:=9) (sz:=3) rfl aa rfl;have a4:Xc sq [(0,1),(1,1),(2,1)] [(0,sv g)]=some _:=aU rfl rfl;rw[BA t]at q3;simp only[q3,a4,X3];refine k6.bO (cs:=[sv _,.slice _ 0 0,.bool _]) rfl ak λb2 m7 k7=>?_;have k7:W c G j s _ m7 i7 _ ((b2,0,(eT _).map Cl.raw)::_):=k7;have T:=BA t (au A.X [0] 9) 9;rw[<-T];have ⟨lA,aA,bA⟩:=k7.ps.wt.root;refine k7.ml aa (y:=9) aa rfl rfl rfl rfl (dJ (And.intro (eJ (aO V ak)) (And.intro (jM 13 0) (And.intro (fV _) trivial)))) ak λaB m8 aw ag _ k8=>?_;have a8:au ((A.aC [0] 17 [.int .i64 (au A.X [0] 9)]).app [0] 9 (eT g)).X [0] 9=au A.X [0] 9+1:=by exact(XhQ aA aa _).trans (jQ (·+1) T)
   have a0:bI ((A.aC [0] 17 [.int .i64 (au A.X [0] 9)]).app [0] 9 (eT g)).X [0] 17=(au A.X [0] 9):=by have:=WO (s:=A) t (au A.X [0] 9:Int);show bI (bg (A.aC [0] 17 [.int .i64 (au A.X [0] 9:Int)]).X [0] 9 (eT g)) [0] 17=_;rw[sR aA];rw[<-this];unfold bI dm;rw[lI,cU aA,du,af aa]
   refine(XbL _ aa aa a0 k8 aa).qr (by rwa[LM]) λe=>?_;rw[LM]at e;obtain⟨rfl,_⟩:=hE e;have:=O e;subst this;have ⟨f1,f2⟩:=n e;rw[f2,L e];exact Xyx h.wt _ J q f1.symm
 delta OD E jf P D;simp only[es,X3,X7,aQ];refine Xh (λH=>?_) (λH=>?_)
 ·have H:=aT H;refine k3.aC (za6:=(gL q 1).map _) rfl rfl aW rfl λm4 k4=>?_;delta CR E jf P D;simp only[es,X3,X7,aQ];rw[show decide _=false from bJ (by rw[H];decide),X5]
  grind
 ·have H:=aV H;delta CR E jf P D;simp only[es,X3,X7,aQ];refine Xh (λz=>?_) (λz=>?_)
  ·have z:=aT z;refine k3.aC (za6:=(gL q 2).map _) rfl rfl aW rfl λm4 k4=>?_
   grind
  grind
variable [gF c]
def XiH(h:∀w∈ws,w.length<=65536)(hn:ws.length<=16):(Xr [32] ws).length<=140737488355328:=by have:=A9 _ ws h;exact aO this (aO (lU _ hn) ak)
theorem eM.ret(b:W c G j s o m j u []){i5}(a:eM c o h m j u g8 w i5)(hd:h<=zb7):aK c G j s (bp g8 λ_ m=>some (.tuple ⟨[]⟩,m)) (gG o zb7 (.tuple ⟨[]⟩) i5):=b.pd a λf i g d e=>e.iM aa
def XlU(h:PS c o m j s)(F:o+c.ws.length+3<=8589934592)(d):eM c o (c.ws.length+3) m j s (TA (d+9) I9 [pt c.P 0 0,pt c.C 0 0] m) (.tuple ⟨[]⟩) (qE c s):=by
 refine h.pad (Xcg _ _ _ _) λG k=>?_;delta Ja H C E je jc B Z jt js jr ju jm A P D jp jq
 try simp only[Xg,X7,X3,aQ]
 refine k.cl (mO k.ps (d+6)) λm1 e=>?_;unfold qE
 try dsimp only
 generalize (Xa c _).1=w;generalize s.at (Xa c s.cu).2=s1 at e|-
 try simp only[fC,Qh,X3]
 refine Xh (λa=>?_) (λa=>?_)
 ·rw[ah (aT a)];have b:=j6 e.ps;refine e.cl (nY e.ps _) λL n=>?_;generalize bB c _=N at n b|-
  try simp only[Xg,X7,X3,aQ]
  refine n.MW rfl rfl aa (.inl aa) (by show dz (bo 0 0) _;exact eJ (aO b ak)) λM p=>?_;refine p.bO (cs:=[lD].map sv) rfl ak λT Q i=>?_;refine i.cs (KD i.ps (ws:=[lD]) (i.iE br) ak ak (d+7)) λr g=>?_;exact g.iM aa
 rw[af (aV a)]
 try simp only[fC,Qh,X3]
 refine Xh (λa=>?_) (λa=>?_)
 ·rw[ah (aT a)];have b:=j6 e.ps;refine e.cl (nY e.ps _) λL n=>?_;generalize bB c _=N at n b|-;refine n.bO (cs:=[jB,N.1].map sv) rfl ak λT M p=>?_;have Y:∀w∈[jB,N.1],w.length<=65536:=λw J=>by
   grind
  refine p.cs (KD p.ps (ws:=[jB,N.1]) (p.iE br) ar (XiH Y ar) _) λQ i=>?_;obtain⟨_,_,R,_,_⟩:=i.ps.dev (f:=2) (sz:=1) rfl aa rfl;simp only[X3,R];refine i.bO (cs:=[sv N.1]) rfl ak λu r g=>?_;have g:W c G j s o r j _ ((u,0,[Cl.v (sv N.1)].map Cl.raw)::_):=g;refine g.ml aa (y:=2) aa (r':=1) rfl (sz:=1) rfl rfl rfl (dJ (And.intro (eJ (aO b ak)) trivial)) ak λV U i7 x _ q=>?_;exact q.iM aa
 rw[af (aV a)]
 try simp only[fC,Qh,X3]
 refine Xh (λa=>?_) (λa=>?_)
 ·rw[ah (aT a)];have b:=j6 e.ps;refine e.cl (nY e.ps _) λL n=>?_;generalize bB c _=N at n b|-;refine n.bO (cs:=[sf,N.1].map sv) rfl ak λT M p=>?_;refine p.cs (EH p.ps (ws:=[sf,N.1]) (p.iE br) ar (λw J=>by
   simp only[eF,Na,or_false]at J;rcases J with rfl|rfl
   ·decide
   ·omega) mV ak _) λQ i=>?_
  obtain⟨_,_,R,_,_⟩:=i.ps.dev (f:=3) (sz:=11) rfl aa rfl;have X:Xc vA [(0,1),(1,1),(2,1),(3,1),(4,1),(5,1),(6,1),(7,1),(8,1),(9,1),(10,1)] [(0,sv N.1),(8,.int _ _),(9,.int _ 10)]=some (.agg ⟨[sv N.1,sv [],u32 0,I 0,.bool _,sv [],sv [],.int .u8 0,.int .i64 (-1),I 10,.bool _]⟩):=aU rfl rfl;simp only[X3,R,X];refine i.bO (cs:=[sv N.1,sv [],u32 0,I 0,.bool _,sv [],sv [],.int .u8 0,.int _ _,I 10,.bool _]) rfl ak λu r g=>?_;have g:W c G j s o r j _ ((u,0,[Cl.v (sv N.1),.v (sv []),.v (u32 0),.v (I 0),.v _,.v (sv []),.v (sv []),.v _,.v _,.v (I 10),.v _].map Cl.raw)::_):=g;refine g.ml aa (y:=3) aa (r':=2) rfl (sz:=11) rfl rfl rfl (dJ (by repeat' (first|exact trivial|exact bR _ _|exact fV _|exact eJ (aO b ak)|exact eJ c7|apply And.intro))) ak λV U i7 x _ q=>?_
  exact q.iM aa
 rw[af (aV a)]
 try simp only[fC,Qh,X3]
 refine Xh (λa=>?_) (λa=>?_)
 ·rw[ah (aT a)];exact eM.ret e (XmV e.ps F d) aY
 rw[af (aV a)]
 try simp only[fC,Qh,X3]
 refine Xh (λa=>?_) (λa=>?_)
 ·rw[ah (aT a)];have b:=j6 e.ps;refine e.cl (nY e.ps (d+3)) λL n=>?_;generalize bB c s1.cu=N at n b|-;refine n.bO (cs:=[.int .u8 1,.int .u8 0,.int .u8 2]) rfl ak λt M p=>?_;refine p.bO (cs:=[dq,dP,lE].map sv) rfl ak λbs Q i=>?_;have lt:=EI c N.2 [dq,dP,lE] ar;refine i.cl (qj i.ps (i.iE (ws:=[dq,dP,lE]) br) ar (d+5)) λr g=>?_;rw[bL]at g|-;generalize aP c N.2 [dq,dP,lE]=O at g lt|-;have lt:O.1<3:=lt;have ix:Xd 1 (.slice (some ⟨t,0,some 1⟩) 3 1) (I O.1)=some (pt t (O.1*1) 0):=eU ⟨t,0,1⟩ ar 3 1 O.1 .i64 lt;have K:X9 false 1 (pt t (O.1*1) 0) r=some (.int .u8 ((if O.1=0 then 1 else if O.1=1 then 0 else 2:Nat):Int)):=g.ld (gC _ br) (by
   grind)
  simp only[ix,X3,K];refine g.cl (kz g.ps 1 65535 65535 rfl aa (d+2)) λU q=>?_;rw[bL]at q|-;have l:=Er c O.2 1 65535;generalize Xb c O.2 1 _=Z at q l|-;obtain⟨z,hz⟩:∃z:Nat,Z.1=(z:Int):=⟨Z.1.toNat,(Y2 l.1).symm⟩
  rw[hz]at l|-;have q:=q.sub (Y0 _);exact eM.ret q (Xvs q.ps aa N.1 b _ z aa d) aa
 rw[af (aV a)]
 try simp only[fC,Qh,X3]
 refine Xh (λa=>?_) (λa=>?_)
 ·rw[ah (aT a)];exact eM.ret e (Xtq e.ps aa d) aa
 ·rw[af (aV a)];exact(e.BK 130 ak _ rfl).pd
variable {c:Cx}{G m:Mem}{Q j i7:ay}{J s u i5 S':ao}{o V' A' h Z':Nat}{ts zb6:List Tmp}{x:Option Rs}{i8:Value->Nat->ay->ao->Prop}{v:Value}{cu:Cu}
abbrev vL:ai:=lW
def vR(c:Cx)(s:ao):ao:=
 let y:=aP c s.cu [oq,iZ]
 if y.1=0 then
  let v:=dG c y.2
  (ig (s.at v.2) oz oq [vL,oq,v.1] (Gm++v.1)).app [0] 10 [.v (sv v.1),.v (u32 0),.s 0 4]
 else
  let n:=Xb c y.2 1 4294967295;let v:=dG c n.2
  (ig (s.at v.2) mo iZ [vL,iZ,v.1] (wU++v.1)).app [0] 11 [.v (sv v.1),.v (.int .u32 n.1),.v (u32 0),.s 0 2,.s 0 6,.s 0 4]
def mw(c:Cx)(J:ao):ao:=
 let w:=Xa c J.cu;let s:=J.at w.2
 if w.1=lD then
  let n:=bB c s.cu
  iA (Xz ((s.at n.2).aC [0] 0 [sv n.1]) [lD]) lD
 else if w.1=jB then
  let n:=bB c s.cu
  (iA (Xz (s.at n.2) [jB,n.1]) (Gi++n.1)).app [0] 2 [.v (sv n.1)]
 else if w.1=mR then
  let n:=bB c s.cu
  (ig (s.at n.2) mV mR [mR,n.1] (Gk++n.1)).app [0] 3 [.v (sv n.1),.v (sv []),.v (u32 0),.v (I 0),.v (.bool false),.v (sv []),.v (sv []),.v (.int .u8 0),.v (.int .i64 (-1)),.v (I 10),.v (.bool false)]
 else if w.1=[105,112]then tn c s
 else if w.1=dj then
  let n:=bB c s.cu;let y:=aP c n.2 [dq,dP,lE];let q:=Xb c y.2 1 65535
  jH (s.at q.2) n.1 (if y.1=0 then 1 else if y.1=1 then 0 else 2) q.1.toNat
 else if w.1=vL then vR c s
 else fu c s 130
def aK.mono(a:aK c G Q J x (QR o h v i5))(hd:h<=Z'):aK c G Q J x (QR o Z' v i5):=by obtain⟨m,e,d,b,f,g,i,j,rfl,n,k,l⟩:=a;exact⟨_,e,d,b,f,g,i,j,rfl,aa,k,l⟩
def LJ{c cu}(h:(dG c cu).2.er.isNone=true):(dG c cu).1=[]\/fZ (dG c cu).1=true:=by
 unfold dG at h|-;split
 ·rename_i q;rw[ah q]at h;exact .inr (ur h)
 simp
def XbE{a b d}(c:a.length<=65536)(e:b.length<=65536)(hd:d.length<=65536):(Xr [32] [a,b,d]).length<=SB:=aO (A9 65536 _ (λx f=>by grind)) (show 3*(65536+1)<=SB by decide)
def Vw[r:cG c](d)(J:o+3<=8589934592)(hn:u.rs.num<1000000000000)(h:W c G j s o m j u [])(b bt){key ws}(L:(Xr [32] ws).length<=SB)(p:u.cu.er.isNone=true->(key∈u.rs.bM↔Xr [32] ws∈aS u.X))
  {y r' sz e bytes:Nat} {cs w:List Cl} {K:aj->Option Rs} (B:y<12) (hf:bo 0 y=some (.l r')) (M:aN r'=sz) (F:cs.length=sz) (f:cs.all Cl.new=true) (n:∀(i:Nat)(d),cs[i]?=some d->dz ((ch r')[i]?) d) (E:bytes<=256) (k:u.cu.er.isNone=true->cs=w)
  (C:∀A' z i7 t,W c G j s A' z i7 t []->∀v,(∀g A,W c G j s A' A i7 t ((g,0,cs.map Cl.raw)::[])->aK c G j s (bp (dn e sz bytes (ax (i7 [y,0]) (au t.X [0] y) sz) (.slice (some ⟨g,0,some sz⟩) 1 1) A) λx m=>bp (bP (Xe 1 (pt c.P y 0) x m)) λ_ m=>some (.tuple ⟨[]⟩,m)) v)->aK c G j s (K z) v) :
  aK c G j s (bp (TA (d+2) Qs [pt c.P 0 0,sv bt,sv key] m) λ_ m=>K m) (QR o 3 (.tuple ⟨[]⟩) ((ig u b bt ws key).app [0] y w)):=by
 refine W.YB aa hn b bt L d h p λA' R i7 S H N a _ D=>?_;refine C _ R i7 S N _ λg V O=>?_;refine O.ml aa (y:=y) aa hf M F f n E λU Y T I _ Q=>?_;refine Q.kj aa a λq=>?_;rw[D q,k q]
def Xib[r:cG c](ag:PS c o m j s)(Y:∀w∈c.ws,w.1≠[])(b1:o+c.ws.length+4<=8589934592)(hn:s.rs.num<1000000000000)(T:pZ s)(hu:Nu s.X)(d):mH c o (c.ws.length+3) m j s (TA (d+8) NZ [pt c.P 0 0,pt c.C 0 0] m) (.tuple ⟨[]⟩) (mw c s):=by
 refine ag.tB (X4g _ _ _ _) λG k=>?_;delta Cy C;refine k.cl (nV k.ps (d+6)) λm1 p=>?_;have hp:(Xa c s.cu).2.er.isNone=true->1<=(Xa c s.cu).2.pl:=λq=>nZ q;unfold mw;dsimp only;generalize Xa c s.cu=V at *;have T:=T.at V.2;have hu:Nu (s.at V.2).X:=hu;have hn:(s.at V.2).rs.num<1000000000000:=hn;have a2:(s.at V.2).cu=V.2:=rfl;generalize s.at V.2=L at *;have es:∀a,bin .eql true true .str (sv V.1) (.string ⟨⟨a⟩⟩)=some (.bool (decide (V.1=a))):=λa=>Qh true true V.1 a;delta H F E je B jm jf A P D jp jq;simp only[es,X3];refine Xh (λi=>?_) (λi=>?_)
 ·rw[ah (aT i)];have z:=j6 p.ps;refine p.cl (nU p.ps _) λm2 S=>?_;generalize bB c _=N at *;simp only[Xg,X7,X3,aQ];refine S.MW rfl rfl aa (.inl aa) (by exact eJ (aO z ak)) λm3 t=>?_;have a5:aS ((L.at N.2).aC [0] 0 [sv N.1]).X=aS L.X:=kU (YL _ ak _ _);refine W.XdX (o:=o) (u:=(L.at N.2).aC [0] 0 [sv N.1]) (key:=lD) (ws:=[lD]) aa (d+6) t (λq=>by rw[a5];exact T.host) λA' m4 i7 s4 a7 K a1 hS=>?_;exact K.kj aa a1 λq=>hS q
 rw[af (aV i)];refine Xh (λi=>?_) (λi=>?_)
 ·rw[ah (aT i)];have z:=j6 p.ps;refine p.cl (nU p.ps _) λm2 S=>?_;have l:=λq=>ur (c:=c) (cu:=L.cu) q;generalize bB c _=N at *;have e1:bin _ _ _ _ (.string ⟨#[118,114,102,32]⟩) _=some (sv (Gi++N.1)):=Qu true true _ N.1 cF;simp only[e1,X3];refine W.XdX aa _ S (λq=>T.qF N.1 (l q)) λA' m3 i7 s3 a7 t a0 hS=>?_;obtain⟨_,_,q3,_,_⟩:=t.ps.dev (f:=2) (sz:=1) rfl aa rfl;simp only[Xg,X7,X3,aQ,q3];refine t.bO (cs:=[sv N.1]) rfl ak λb3 m5 M=>?_;have M:W c G j s _ m5 i7 _ ((b3,0,[Cl.v (sv N.1)].map Cl.raw)::_):=M;refine M.ml aa (y:=2) aa (r':=1) rfl (sz:=1) rfl rfl rfl (dJ (And.intro (eJ (aO z ak)) trivial)) ak λb6 m6 b5 b0 _ k6=>?_;exact k6.kj aa a0 λq=>by rw[hS q]
 rw[af (aV i)];refine Xh (λi=>?_) (λi=>?_)
 ·rw[ah (aT i)];have z:=j6 p.ps;refine p.cl (nU p.ps _) λm2 S=>?_;have l:=λq=>ur (c:=c) (cu:=L.cu) q;generalize bB c _=N at *;have e1:bin _ _ _ _ (.string ⟨#[105,110,116,101,114,102,97,99,101,32]⟩) _=some (sv (Gk++N.1)):=Qu true true _ N.1 cF;simp only[e1,X3];refine aK.mono (h:=3) (Vw (u:=L.at N.2) (o:=o) (bytes:=120) (e:=Ek) (r':=2) (cs:=[.v (sv N.1),.v (sv []),.v (u32 0),.v (I 0),.v (.bool false),.v (sv []),.v (sv []),.v (.int .u8 0),.v (.int .i64 (-1)),.v (I 10),.v (.bool false)]) (d+5) aa hn S mV mR XeX (λq=>T.iface N.1 (l q)) (y:=3) aa rfl (sz:=11) rfl rfl rfl (dJ (by repeat' (first|exact trivial|exact bR _ _|exact fV _|exact eJ (aO z ak)|exact eJ c7|apply And.intro))) ak (λ_=>rfl) λA' m3 i7 s3 t Q' g=>?_) aa
  obtain⟨_,_,q3,_,_⟩:=t.ps.dev (f:=3) (sz:=11) rfl aa rfl;have eb:Xc vA [(0,1),(1,1),(2,1),(3,1),(4,1),(5,1),(6,1),(7,1),(8,1),(9,1),(10,1)] [(0,sv N.1),(8,.int _ _),(9,.int _ 10)]=some (.agg ⟨[sv N.1,sv [],u32 0,I 0,.bool _,sv [],sv [],.int .u8 0,.int .i64 (-1),I 10,.bool _]⟩):=aU rfl rfl;simp only[Xg,X7,X3,aQ,q3,eb];exact t.bO (cs:=[sv N.1,sv [],u32 0,I 0,.bool false,sv [],sv [],.int .u8 0,.int .i64 (-1),I 10,.bool false]) rfl ak g
 rw[af (aV i)];refine Xh (λi=>?_) (λi=>?_)
 ·rw[ah (aT i)];exact p.tf (XjL p.ps Y aa hn T d) aa
 rw[af (aV i)];refine Xh (λi=>?_) (λi=>?_)
 ·rw[ah (aT i)];have z:=j6 p.ps;refine p.cl (nU p.ps (d+5)) λm2 S=>?_;have l:=λq=>ur (c:=c) (cu:=L.cu) q;generalize bB c _=N at *;refine S.cl (mM S.ps dq dP lE ak ak ak (d+5)) λm3 t=>?_;rw[bL]at t|-;have o0:(Xa c N.2).1=dq->(aP c N.2 [dq,dP,lE]).1=0:=λe=>by unfold aP de;rw[ah e]
  have o1:(Xa c N.2).1=dP->(aP c N.2 [dq,dP,lE]).1=1:=λe=>Ns;have o2:(Xa c N.2).1=lE->(aP c N.2 [dq,dP,lE]).1=2:=λe=>XeW;have oe:(aP c N.2 [dq,dP,lE]).2.er.isNone=true->(Xa c N.2).1=dq\/(Xa c N.2).1=dP\/(Xa c N.2).1=lE:=λe=>M7 λn=>by rw[mN (by simp only[eF,Na,or_false];exact n),fY]at e;cases e
  have a6:(aP c N.2 [dq,dP,lE]).2.er.isNone=true->N.2.er.isNone=true:=λq=>kG (λe=>XF e _) q;generalize aP c N.2 _=O at *;refine t.cl (ky t.ps Y 1 65535 65535 rfl aa (d+5)) λm4 K=>?_;rw[bL]at K|-;have ab:=VG c O.2 1 65535;have b2:=Er c O.2 1 65535;have a4:=λq=>j7 (c:=c) (cu:=O.2) (lo:=1) (hi:=65535) q;have a3:=λq=>VC (c:=c) (cu:=O.2) (lo:=1) (hi:=65535) q;generalize eQ c O.2 1 _=U at *;generalize Xb c O.2 1 _=Z at *;have ⟨q,hq⟩:∃q:Nat,U=(q:Int):=⟨U.toNat,(Y2 ab.1).symm⟩
  subst hq;refine aK.mono (K.tf (Xq0 K.ps aa hn z aa (λe=>T.rO N.1 _ (l (a6 (a3 e))) aa) (λe=>?_) hu _) (d0:=3) aa) aa;have e:Z.2.er.isNone=true:=e
  grind
 rw[af (aV i)];refine Xh (λi=>?_) (λi=>?_)
 ·rw[ah (aT i)];unfold vR;refine p.cl (mM p.ps _ _ _ ak ak ak _) λm3 t=>?_;rw[ux]at t;have o0:(Xa c _).1=gZ->(aP c L.cu [gZ,dZ]).1=0:=λe=>by unfold aP de;rw[ah e]
  have o1:(Xa c _).1=dZ->(aP c L.cu [gZ,dZ]).1=1:=λe=>Ns;have oe:(Xa c _).1≠gZ->(Xa c _).1≠dZ->aP c L.cu [gZ,dZ]=(0,cA c _ 130):=λa b=>by unfold aP de de de;rw[af a,af b]
  generalize aP c _ _=O at *;generalize Xa c _=w at *;have ew:bin _ _ true _ _ (.string ⟨#[111,115,112,102]⟩)=some _:=Qh true _ w.1 _;simp only[ew,X3];refine Xh (λQ=>?_) (λQ=>?_)
  ·rw[ah (o0 (aT Q))];have J:=Bp t.ps;refine t.cl (Wu t.ps _) λm4 K=>?_;rw[bL]at K J|-;have l:=λq=>LJ (c:=c) (cu:=O.2) q;generalize dG c O.2=Z at *;have e1:bin _ _ _ _ (.string ⟨#[111,115,112,102,32]⟩) _=some (sv (Gm++Z.1)):=Qu true true _ Z.1 cF;simp only[e1,X3];refine aK.mono (Vw (u:=L.at Z.2) (bytes:=48) (e:=Ut) (cs:=[.v _,.v (u32 0),.s 0 4]) _ aa hn K _ _ (XbE ak ak J) (λq=>T.iY Z.1 (l q)) aa rfl (sz:=3) rfl rfl rfl (dJ (And.intro (eJ (aO J ak)) (And.intro (bR _ _) (And.intro (jM _ _) trivial)))) ak (λ_=>rfl) λA' m5 i7 s3 M Q' g=>?_) aa;obtain⟨_,_,q3,_,_⟩:=M.ps.dev (f:=10) (sz:=3) rfl aa rfl;have eb:Xc AQ [(0,1),(1,1),(2,1)] [(0,sv Z.1)]=some (.agg ⟨[sv Z.1,u32 0,.slice _ 0 0]⟩):=aU rfl rfl;simp only[Xg,X7,X3,aQ,q3,eb];exact M.bO rfl ak g
  ·have Q:=aV Q;have a8:=EE c O.2 1 4294967295 aa;refine t.cl (ky t.ps Y 1 _ 4294967295 rfl aa _) λm4 K=>?_;rw[bL]at K|-;have a4:=λq=>j7 (c:=c) (cu:=O.2) (lo:=1) (hi:=4294967295) q;have a9:=λq=>xY (c:=c) (cu:=O.2) q 1 4294967295;generalize eQ c O.2 1 _=U at *;generalize Xb c O.2 1 _=N at *;have J:=Bp K.ps;refine K.cl (Wu K.ps _) λm5 M=>?_;rw[bL]at M J|-;have l:=λq=>LJ (c:=c) (cu:=N.2) q;have ac:(dG c N.2).2.er.isNone=true->N.2.er.isNone=true:=λq=>kG (λe=>XaL e) q;have R:aK c G j s (bp (aI (bin .add true true .str (.string ⟨#[98,103,112,32]⟩) (sv (dG c N.2).1)) m5) λal m=>bp (TA (d+7) Qs [pt c.P 0 0,.string ⟨#[98,103,112]⟩,al] m) λb4 m =>
     bp (aI (Xu (pt c.P 0 0)) m) λx m=>bp (aI (Xm 0 x) m) λam m=>bp (aI (Xm 11 am) m) λx m=>bp (aI (X9 false 1 x m) m) λan m =>
     bp (conv (.int .u32) (.int .i64 U) m) λav m=>bp (aI (Xc sD [(0,1),(1,1),(2,1),(3,1),(4,1),(5,1)] [(0,sv (dG c N.2).1),(1,av)]) m) λaw m =>
     bp (X8 xN sD 6 1 [(0,aw)] m) λg8 m=>bp (dn xN 6 96 an g8 m) λaA m=>bp (aI (Xu (pt c.P 0 0)) m) λx m=>bp (aI (Xm 0 x) m) λaB m=>bp (aI (Xm 11 aB) m) λg8 m=>bp (bP (Xe 1 g8 aA m)) λ_ m=>some (.tuple ⟨[]⟩,m))
     (QR o 3 (.tuple ⟨[]⟩) ((ig (L.at (dG c N.2).2) mo iZ [vL,iZ,(dG c N.2).1] (wU++(dG c N.2).1)).app [0] 11 [.v (sv (dG c N.2).1),.v (.int .u32 N.1),.v (u32 0),.s 0 2,.s 0 6,.s 0 4])):=by
    generalize dG c N.2=Z at *;have e1:bin .add true true .str (.string ⟨#[98,103,112,32]⟩) (sv Z.1)=some (sv (wU++Z.1)):=Qu true true wU Z.1 aq;simp only[e1,X3];refine Vw (u:=L.at Z.2) (o:=o) (bytes:=96) (e:=xN) (r':=16) (cs:=[.v (sv Z.1),.v (.int .u32 U),.v (u32 0),.s 0 2,.s 0 6,.s 0 4]) (d+5) aa hn M mo iZ (XbE ak ak J) (λq=>T.iW Z.1 (l q)) (y:=11) aa rfl (sz:=6) rfl rfl rfl (dJ (And.intro (eJ (aO J ak)) (And.intro (bR _ _) (And.intro (bR _ _) (And.intro (jM _ _) (And.intro (jM _ _) (And.intro (jM _ _) trivial))))))) ak (λq=>by rw[a4 (ac q)]) λA' m5 i7 s3 M Q' g=>?_;obtain⟨_,_,q3,_,_⟩:=M.ps.dev (f:=11) (r':=16) (sz:=6) rfl aa rfl;have eb:Xc sD [(0,1),(1,1),(2,1),(3,1),(4,1),(5,1)] [(0,sv Z.1),(1,.int .u32 U)]=some (.agg ⟨[sv Z.1,.int .u32 U,u32 0,.slice none 0 0,.slice none 0 0,.slice none 0 0]⟩):=aU rfl rfl;simp only[Xg,X7,X3,aQ,q3,a8,X4,eb];exact M.bO (cs:=[sv Z.1,.int .u32 U,u32 0,.slice none 0 0,.slice none 0 0,.slice none 0 0]) rfl ak g
   have R:=aK.mono (Z':=c.ws.length+3) R aa;by_cases h1:w.1=dZ
   ·rw[af aq];trivial
   ·have hO:=oe Q h1;subst hO;have e1:=a9 (fY _ _ _);refine R.qr ?_ λq=>?_
    ·show(dG c N.2).2=(dG c (cA c w.2 130)).2;rw[e1]
    ·have q:(dG c (cA c w.2 130)).2.er.isNone=true:=q;rw[XaL (fY _ _ _),fY]at q;cases q
 ·rw[af (aV i)];refine p.cl (kS p.ps (λq=>by rw[a2]at q|-;exact hp q) 130 ak _) λm2 S=>?_;exact S.kj aa rfl λ_=>rfl
def isSp(b:UInt8):Bool:=decide (b=32)
def cZ(s:ai):ai:=s.dropWhile isSp
def ya(s):(cZ s).length<=s.length:=by
 unfold cZ
 induction s with
 |nil=>simp
 |cons a l b =>
  rw[zm]
  grind
def XiU(a)(l:ai):gH (sv (a::l)) (some (.int .i64 1)) none=some (sv l):=yg (a::l) 1 ar
def Xkk(M')(m:aj):∀s f,s.length<f->Aa M' f (sv s) (.int .u8 32) m=some (sv (cZ s),m)
 |[],f+1,h=>by rfl
 |a::l,f+1,h=>by
  have c:l.length<f:=aq;unfold Aa;delta E B N jj A;have e1:bin .gtr true true .int (.int .i64 ((a::l).length)) (.int .i64 0)=some (.bool true):=bY;have e2:Xi _ (.int _ 0)=some (.int .u8 (a.toNat)):=iu (a::l) .i64 0 ar;have b:bin .eql false true .int (.int .u8 (a.toNat)) (.int .u8 32)=some (.bool (isSp a)):=by
   rw[dI];unfold isSp;congr 2;rw[gW];constructor
   ·intro e;apply j3.mp;show a.toNat=32;omega
   ·simp_all
  simp only[dw,X3,e1,X6,e2,b];delta QP L B A;unfold cZ;rw[zm];cases isSp a with
  |true =>rw[X6,XiU,X3,ah rfl];exact Xkk M' m l f c
  |false =>trivial
def XcQ(s)(e:s.length<=4194304)(d m):TA (d+2) AE [sv s,sv [32]] m=some (sv (cZ s),m):=by
 have c:∀m,TA (d+1) _ _ m=some (sv _,m):=λm=>by rw[X8m];refine jV (m1:=aD m m.next) ?_ (Fr.refl _ _) rfl;unfold HC QQ;exact Xkk _ _ s 18446744073709551616 aa
 rw[Xcq];refine jV ?_ (Fr.refl _ _) rfl;delta Jb Qt5 E B P jh D;have e0:bin _ true true _ (sv [32]) (.string ⟨#[]⟩)=some (.bool false):=Qh _ _ _ [];have e1:bin _ true true _ _ (.string ⟨#[]⟩)=some (.bool (decide (s=[]))):=Qh _ _ _ [];simp only[e0,e1,X3];by_cases h:s=[]
 ·subst h;trivial
 ·rw[bJ h,X5];delta Tm L K;rw[X5];delta Qt4 E B N jk jj A;have e2:bin .eql true true .int (.int .i64 (([32]:ai).length)) (.int .i64 1)=some (.bool true):=by rfl
  have a:Xi _ (.int _ 0)=some (.int .u8 32):=iu [32] .i64 0 ar;have b:bin .lss true true .int (.int .u8 32) (.int .u8 128)=some (.bool true):=bY;simp only[dw,X3,e2,X6,a,b];delta Tl C L B K Y U jg A;simp only[X6,a,X3,c,X4]
def eV(n:Nat):Nat->ai->List Wd
 |0,_=>[]
 |f+1,G'=>if G'=[]then[]else((eZ 32 G').1,n-G'.length+1)::eV n f (cZ (eZ 32 G').2.1)
def iO(row:ai):Option (Nat × List Wd):=
 let G':=cZ row
 if G'=[]\/G'.head?=some 33 then none else some (row.length-G'.length,eV row.length (row.length+1) G')
def ka(ln:Nat)(ws:List Wd):List ae:=ws.flatMap λw=>[sv w.1,I ln,I w.2]
def Xgp(ln ws):(ka ln ws).length=ws.length*3:=by
 unfold ka
 induction ws with
 |nil=>rfl
 |cons w l a=>grind
def Xqn(ln a b):ka ln (a++b)=ka ln a++ka ln b:=by unfold ka;simp
def Xsf(h:G'≠[]):(eZ 32 G').2.1.length<G'.length:=by
 unfold eZ;cases a:cut 32 G' with
 |none=>exact wP.mpr h
 |some p =>
  have:=Bd a
  grind
def nT(B:Nat)(m:aj)(ln:Nat)(L:Lc)(ws:List Wd):Prop:=ws≠[]->B<=L.b/\L.b<m.next/\L.r<2/\∃ty,m.get L.b=some (.cells (ka ln ws) L.ver 0 false ty)
def Xpv(T){ind ln:Nat}{ws m}(w)(z:∃ty,m.get bl=some (.cells [I ind,ax L ws.length 3] 0 0 false ty))(K:bl<m.next)(j:nT (bl+1) m ln L ws)(W:ws.length<4194304) :
  ∃g k m3 d,X8 T xM 3 1 [(0,.agg ⟨[sv w.1,I ln,I w.2]⟩)] m=some (.slice (some ⟨m.next,0,some 3⟩) 1 1,g)/\X9 false 1 (pt bl 1 0) m=some (ax L ws.length 3)/\dn T 3 32 (ax L ws.length 3) (.slice (some ⟨m.next,0,some 3⟩) 1 1) g=some (ax d (ws.length+1) 3,k)/\Xe 1 (pt bl 1 0) (ax d (ws.length+1) 3) k=some m3 /\
   (∃ty,m3.get bl=some (.cells [I ind,ax d (ws++[w]).length 3] 0 0 false ty))/\nT (bl+1) m3 ln d (ws++[w])/\Fb bl m m3:=by
 obtain⟨o,r⟩:=z;have E:X8 T xM 3 1 [(0,.agg ⟨[sv w.1,I ln,I w.2]⟩)] m=some (.slice (some ⟨m.next,0,some 3⟩) 1 1,m.push (.cells [sv w.1,I ln,I w.2] 0 0 false (some (2*T)))):=aU rfl rfl;generalize i:m.push (.cells [sv w.1,I ln,I w.2] 0 0 false (some (2*T)))=g at E;have G:g.next=m.next+1:=by rw[<-i];rfl
 have F:∀b,b<m.next->g.get b=m.get b:=λb r=>by rw[<-i,Mem.bV,af aa]
 have l:g.get m.next=some (.cells [sv w.1,I ln,I w.2] 0 0 false (some (2*T))):=by rw[<-i,Mem.bV,ah rfl]
 have s:Fb bl m g:=by rw[<-i];exact Fb.push _ aa
 have B:∃ty,ws.length≠0->g.get L.b=some (.cells (ka ln ws) L.ver 0 false ty):=by
  by_cases M:ws=[]
  ·simp_all
  ·obtain⟨_,X,_,ty,Y⟩:=j M
   grind
 obtain⟨V,A⟩:=B;have f:∀{p:Prop},(ws≠[]->p)->ws.length≠0->p:=λh q=>h (λe=>q (by rw[e];rfl));obtain⟨d,D,k,N,O,P,Q,H⟩:=Lr (e:=T) (bytes:=32) (L:=L) (n:=ws.length) (size:=3) (c:=ka ln ws) (new:=[sv w.1,I ln,I w.2]) A (f λh=>(j h).2.2.1) (Xgp _ _) l rfl rfl aa (uv aa ak);have u:bl+1<=d.b:=by
  rcases H with⟨a,b,_⟩|⟨a,_⟩
  ·rw[a];exact f (λh=>(j h).1) b
  ·omega
 have J:d.b<k.next:=by
  rcases H with⟨a,b,c,_⟩|⟨a,b,_⟩
  ·rw[a,c];have:=f (λh=>(j h).2.1) b;omega
  ·omega
 have t:Fb bl g k:={
  next:=aa
  low:=aa
  bQ:=λx a b=>by omega
  get:=λb r=>Q b aa aa
  lo:=λb r=>by grind }
 have v:k.get bl=some (.cells [I ind,ax L ws.length 3] 0 0 false o):=aq;have C:(ax d (ws.length+1) 3).cells=#[ax d (ws.length+1) 3]:=bY;have ⟨m3,R,S,Z,s4,U⟩:=VN (y:=1) v (ax d (ws.length+1) 3) (by rw[C]) (nX _ _ _) ar (c6 bl);refine⟨g,k,m3,d,E,Xt r rfl,N,R,⟨o,aq⟩,λ_=>⟨u,aa,P,D,by rw[U _ aa,Xqn];exact O⟩,s.trans (t.trans S)⟩
def Xha(d)(k0:ae->ae->ae->ae->ae->aj->Option Rs)(row)(n:row.length<=4194304)(i bl)(ind:Nat)(hi:i<=4194304)(t c b a V:ae):∀f F G' ws L m,G'.length<f->G'.length<F->G'.length<=row.length->ws.length+G'.length<=4194304 ->
  (∃ty,m.get bl=some (.cells [I ind,ax L ws.length 3] 0 0 false ty))->bl<m.next->nT (bl+1) m (i+1) L ws ->
  ∃S p,Eg (aH (d+3)) k0 F (sv G') (sv row) (pt bl 0 0) (I i) t c b a V m=JV (aH (d+3)) k0 t (pt bl 0 0) c b a V S /\
   (∃ty,S.get bl=some (.cells [I ind,ax p (ws++eV row.length f G').length 3] 0 0 false ty))/\nT (bl+1) S (i+1) p (ws++eV row.length f G')/\Fb bl m S
 |f+1,F+1,G',ws,L,m,Q,R,T,U,j,r,o=>by
  unfold Eg;delta C F E B N jg ja jm jf A D;unfold eV;have e0:bin .neq true true .str (sv G') (.string ⟨#[]⟩)=some (.bool (decide (G'≠[]))):=uf _ _ _ [];simp only[e0,X3];by_cases e:G'=[]
  ·rw[bJ (λh=>h e),X5,ah e,lC];exact⟨m,L,rfl,j,o,.refl _ _⟩
  ·rw[bj e,X6,af e];have l:TA (d+3) uc [sv G',.string ⟨#[32]⟩] m=_:=XcI G' aa 32 (d+1) m;have e1:bin .sub false true .int (.int .i64 (row.length:Int)) (.int .i64 (G'.length:Int))=some (I (row.length-G'.length:Nat)):=by
    rw[kP];have:(row.length:Int)-(G'.length:Int)=((row.length-G'.length:Nat):Int):=aa;rw[this,wrap64 _ aa]
   have e2:bin .add true true .int (I (row.length-G'.length:Nat)) (.int .i64 1)=some (I (row.length-G'.length+1:Nat)):=by rw[cz];have:((row.length-G'.length:Nat):Int)+1=((row.length-G'.length+1:Nat):Int):=aa;rw[this,wrap64 _ aa]
   have z:bin .add true true .int (I i) (.int .i64 1)=some (I (i+1:Nat)):=by grind[cz,wrap64]
   have G:Xc Q2 [(0,1),(1,1)] [(0,I (i+1:Nat)),(1,I (row.length-G'.length+1:Nat))]=some (aZ (i+1) (row.length-G'.length+1)):=aU rfl rfl;have e5:Xc xM [(0,1),(1,2)] [(0,sv (eZ 32 G').1),(1,aZ (i+1) (row.length-G'.length+1))]=some (.agg ⟨[sv (eZ 32 G').1,I (i+1:Nat),I (row.length-G'.length+1:Nat)]⟩):=aU rfl rfl;have ⟨W,X,m3,p,H,ld,K,P,k,s,g⟩:=Xpv Kj ((eZ 32 G').1,row.length-G'.length+1) j r o (by have:=wP.mpr e;omega);have v:=Xsf e;have J:=ya (eZ 32 G').2.1;have y:TA (d+3) AE [sv (eZ 32 G').2.1,.string ⟨#[32]⟩] m3=some (sv (cZ (eZ 32 G').2.1),m3):=XcQ _ aa (d+1) m3;have u:=g.next;have ⟨S,q,M,w,x,O⟩:=Xha d k0 row n i bl ind hi t c b a V f F (cZ (eZ 32 G').2.1) (ws++[((eZ 32 G').1,row.length-G'.length+1)]) p m3 aa aa aa aq k aa s;rw[lV]at w x;refine⟨S,q,?_,w,x,g.trans O⟩;simp only[dw,X3,e1,e2,l,X4,dy,dK,pz,X7,ld,z,G,e5,H,K,P,Xj,y];exact M
structure Ln where
 ind:Nat
 ln:Nat
 ws:List Wd
def eO:List ai->Nat->List Ln
 |[],_=>[]
 |r::l,i=>match iO r with|some x=>⟨x.1,i+1,x.2⟩::eO l (i+1)|none=>eO l (i+1)
def oo(l:List (Ln × Lc)):List ae:=l.flatMap λx=>[I x.1.ind,ax x.2 x.1.ws.length 3]
def Xhg(l):(oo l).length=l.length*2:=by
 unfold oo
 induction l with
 |nil=>rfl
 |cons w l a=>grind
def Xqx(a b):oo (a++b)=oo a++oo b:=by unfold oo;simp
def vg(B:Nat)(m:aj)(x:Ln × Lc):Prop:=x.1.ws≠[]/\B<=x.2.b/\x.2.b<m.next/\x.2.r<2/\∃ty,m.get x.2.b=some (.cells (ka x.1.ln x.1.ws) x.2.ver 0 false ty)
structure gv (B:Nat) (m:Mem) (L:Lc) (l:List (Ln × Lc)):Prop where
 out:l≠[]->B<=L.b/\L.b<m.next/\L.r<2/\∃ty,m.get L.b=some (.cells (oo l) L.ver 0 false ty)
 ls:∀x∈l,vg B m x/\x.2.b≠L.b
def vg.oI{m x}(h:vg B m x)(hn:m.next<=S.next)(g:S.get x.2.b=m.get x.2.b):vg B S x:=by obtain⟨a,c,e,d,ty,f⟩:=h;exact⟨a,c,aa,d,ty,aq⟩
def Xvw{f}(h:G'≠[]):eV n (f+1) G'≠[]:=by simp_all[eV]
def XiA(T){A}{m:aj}{l x}(h:gv B m L l)(C:l.length<=4194304)(hB:B<=bl)(i:vg (bl+1) m (x,Lw))(D:∀g8∈l,g8.2.b<bl)(Q:l≠[]->L.b<bl)(s:m.get A=some (.cells [I x.ind,ax Lw x.ws.length 3] 0 0 false (some (2*T))))(G:bl<m.next) :
  ∃S d,dn T 2 32 (ax L l.length 2) (.slice (some ⟨A,0,some 2⟩) 1 1) m=some (ax d (l.length+1) 2,S)/\gv B S d (l++[(x,Lw)])/\Fb B m S/\m.next<=S.next:=by
 have g:∀{p:Prop},(l≠[]->p)->l.length≠0->p:=λh q=>h (λe=>q (by rw[e];rfl));have u:∃ty,l.length≠0->m.get L.b=some (.cells (oo l) L.ver 0 false ty):=by
  by_cases J:l=[]
  ·simp_all
  ·obtain⟨_,_,_,ty,U⟩:=h.out J
   grind
 obtain⟨O,t⟩:=u;obtain⟨d,z,y,K,M,N,v,w⟩:=Lr (e:=T) (bytes:=32) (L:=L) (n:=l.length) (size:=2) (c:=oo l) (new:=[I x.ind,ax Lw x.ws.length 3]) t (g λq=>(h.out q).2.2.1) (Xhg _) s rfl (by show(one (I x.ind)&&(one (ax Lw x.ws.length 3)&&true))=true;rw[nX];rfl) aa (uv aa ak);have hn:m.next<=y.next:=aa;have o:B<=d.b:=by
  rcases w with⟨a,b,_⟩|⟨a,_⟩
  ·rw[a];exact g (λq=>(h.out q).1) b
  ·omega
 have r:d.b<y.next:=by grind
 have f:Lw.b≠d.b:=by
  have k:=i.2.1;have P:=i.2.2.1;rcases w with⟨a,b,_⟩|⟨a,_⟩
  ·grind
  ·grind
 refine⟨y,d,K,⟨λ_=>⟨o,r,N,z,by rw[Xqx];exact M⟩,λg8 H=>?_⟩,?_,hn⟩
 ·rcases nH.mp H with e|e
  ·obtain⟨E,R⟩:=h.ls g8 e;have j:g8.2.b≠d.b:=by
    rcases w with⟨a,_⟩|⟨a,_⟩
    ·omega
    ·grind
   exact⟨E.oI hn (v _ E.2.2.1 j),j⟩
  ·rw[va.mp e];have k:vg B m _:=⟨i.1,by have:=i.2.1;omega,i.2.2⟩
   exact⟨k.oI hn (v _ k.2.2.1 f),f⟩
 ·exact{
   next:=hn
   low:=aa
   bQ:=λg8 a b=>by omega
   get:=λb F=>v b aa aa
   lo:=λb F=>by grind }
theorem gv.push{m l}(h:gv B m L l)(hn:m.next<=S.next)(hg:∀b,b<m.next->S.get b=m.get b):gv B S L l where
 out:=λq=>by obtain⟨a,b,c,ty,d⟩:=h.out q;exact⟨a,aa,c,ty,aq⟩
 ls:=λx hx=>by obtain⟨a,b⟩:=h.ls x hx;exact⟨a.oI hn (hg _ a.2.2.1),b⟩
theorem gv.lt{B}{m:aj}{L l}(h:gv B m L l):(∀g8∈l,g8.2.b<m.next)/\(l≠[]->L.b<m.next):=⟨λg8 a=>(h.ls g8 a).1.2.2.1,λq=>(h.out q).2.1⟩
def Xo5(T){z}{m c:aj}{l ws}(q:gv B m L l)(f:l.length<=4194304)(hB:B<=m.next)(e:Fb m.next m c)(hn:m.next<c.next)(r:vg (m.next+1) c (⟨z,n,ws⟩,Lw)) :
  ∃m3 g h,X8 T ue 2 1 [(0,.agg ⟨[I z,ax Lw ws.length 3]⟩)] c=some (.slice (some ⟨c.next,0,some 2⟩) 1 1,m3)/\dn T 2 32 (ax L l.length 2) (.slice (some ⟨c.next,0,some 2⟩) 1 1) m3=some (ax h (l.length+1) 2,g)/\gv B g h (l++[(⟨z,n,ws⟩,Lw)])/\Fb B m g:=by
 have p:X8 T ue 2 1 [(0,.agg ⟨[I z,ax Lw ws.length 3]⟩)] c=some (.slice (some ⟨c.next,0,some 2⟩) 1 1,c.push (.cells [I z,ax Lw ws.length 3] 0 0 false (some (2*T)))):=by rfl
 generalize d:c.push (.cells [I z,ax Lw ws.length 3] 0 0 false (some (2*T)))=m3 at p;have w:m3.next=c.next+1:=by rw[<-d];rfl
 have g3:∀b,b<c.next->m3.get b=c.get b:=λb j=>by rw[<-d,Mem.bV,af aa]
 have i:m3.get c.next=some (.cells [I z,ax Lw ws.length 3] 0 0 false (some (2*T))):=by rw[<-d,Mem.bV,ah rfl]
 have s:Fb B m m3:=by rw[<-d];exact Fb.trans { next:=e.next,low:=e.low,bQ:=λx a b=>e.bQ x a aa,get:=λb j=>e.get b aa,lo:=e.lo } (Fb.push _ aa)
 have ⟨k,o⟩:=q.lt;have ⟨g,h,t,u,v,y⟩:=XiA T (bl:=m.next) (x:=⟨z,n,ws⟩) (Lw:=Lw) (q.push aa (λb j=>by rw[g3 b aa,e.get b j])) f hB (r.oI aa (g3 _ r.2.2.1)) k o i aa;exact⟨_,g,h,p,t,u,s.trans v⟩
def Xhh(d B V c)(hr:∀r∈c,r.length<=4194304)(hN:c.length<=4194304)(v):∀n i f(l:List (Ln × Lc)) (L) (m),i+n=c.length->n<f->l.length<=i->B<=m.next->SL m v c->(∀b,b<B->True)->gv B m L l ->
  (∃u,u<B/\∀S,B<=S.next->S.get u=m.get u->SL S v c)->V<B->(∃ty x g8,m.get V=some (.cells [x,g8] 0 0 false ty)) ->
  ∃S s k,kq (aH (d+3)) f (I i) (I c.length) v (ax L l.length 2) (pt V 0 0) m=AK (aH (d+3)) (ax s k.length 2) (pt V 0 0) S/\gv B S s k/\k.map (·.1)=l.map (·.1)++eO (c.drop i) i/\Fb B m S
 |0,i,f+1,l,L,m,e,hf,a0,hB,hS,_,O,_,_,_=>by
  have:i=c.length:=aa;subst this;refine⟨m,L,l,?_,O,?_,.refl _ _⟩
  ·unfold kq;delta B ji;simp only[Qb,X3,j1,j4];delta Kc L;rw[X5]
  ·rw[FY];unfold eO;rw[lC]
 |n+1,i,f+1,l,L,m,e,hf,a0,hB,hS,hT,O,W,J,X=>by
  have hi:i<c.length:=aa;have a4:decide (((i:Nat):Int)<((c.length:Nat):Int))=true:=bj aa;have ⟨p,l1,l2⟩:=hS.at (dX hi);have hd:c.drop i=c[i]::c.drop (i+1):=mB hi;have o:c[i].length<=4194304:=hr _ (Cf hi);have a5:=ya c[i];have ct:TA (d+3) AE [sv c[i],.string ⟨#[32]⟩] m=some (sv (cZ c[i]),m):=XcQ _ o (d+1) m;have e1:bin .add true true .int (I i) (.int .i64 1)=some (I (i+1:Nat)):=by grind[cz,wrap64]
  have e0:bin .eql true true .str (sv (cZ c[i])) (.string ⟨#[]⟩)=some (.bool (decide (cZ c[i]=[]))):=Qh _ _ _ [];rw[hd];unfold eO;have next:∀k s S,Fb B m S->k.length<=i+1->gv B S s k ->
    ∃g t l2,AL (aH (d+3)) (kq (aH (d+3)) f) (I i) (I c.length) v (ax s k.length 2) (pt V 0 0) S=AK (aH (d+3)) (ax t l2.length 2) (pt V 0 0) g/\gv B g t l2/\l2.map (·.1)=k.map (·.1)++eO (c.drop (i+1)) (i+1)/\Fb B m g:=λk s S F Z T=>by
   obtain⟨u,w,G⟩:=W;have hn:=F.next;have ⟨g,t,l2,q1,y,Q,q4⟩:=Xhh d B V c hr hN v n (i+1) f k s S aa aa Z aa (G S aa (F.get u w)) hT T ⟨u,w,λm3 a b=>G m3 a (by rw[b,F.get u w])⟩ J (by obtain⟨ty,x,g8,hg⟩:=X;exact⟨ty,x,g8,by rwa[F.get V J]⟩)
   refine⟨g,t,l2,?_,y,Q,F.trans q4⟩;delta AL B ja A;simp only[e1,X3];exact q1
  have skip:iO c[i]=none->∃g t l2,AL (aH (d+3)) (kq (aH (d+3)) f) (I i) (I c.length) v (ax L l.length 2) (pt V 0 0) m=AK (aH (d+3)) (ax t l2.length 2) (pt V 0 0) g/\gv B g t l2/\l2.map (·.1)=l.map (·.1)++(match iO c[i]with|some x=>⟨x.1,i+1,x.2⟩::eO (c.drop (i+1)) (i+1)|none=>eO (c.drop (i+1)) (i+1))/\Fb B m g:=λhn=>by rw[hn];exact next l L m (.refl _ _) aa O
  unfold kq;delta B ji;simp only[Qb,X3,a4];delta Kc L;delta Ue jt;simp only[l1,l2,X3];delta Ud C D;simp only[ct,X4];delta TW E B jk A P jh D;simp only[e0,X3];by_cases M:cZ c[i]=[]
  ·rw[bj M,X6];exact skip (by simp[iO,M])
  ·rw[bJ M,X5];have hp:0<(cZ c[i]).length:=wP.mpr M;have ei:Xi (sv (cZ c[i])) (.int .i64 0)=some (.int .u8 (((cZ c[i])[0]).toNat:Int)):=iu _ .i64 0 hp;have R:bin .eql true true .int (.int .u8 (((cZ c[i])[0]).toNat:Int)) (.int .u8 33)=some (.bool (decide ((cZ c[i]).head?=some 33))):=by
    rw[dI];congr 2;rw[gW];have H:(cZ c[i]).head?=some (cZ c[i])[0]:=by rw[YY,dX hp]
    rw[H];constructor
    ·intro h;congr 1;apply j3.mp;show _=33;omega
    ·intro h;rw[pM h];rfl
   simp only[ei,R,X3];delta JW L;by_cases H:(cZ c[i]).head?=some 33
   ·rw[bj H,X6];exact skip (by simp[iO,ah,H])
   ·rw[bJ H,X5];have K:iO c[i]=some (c[i].length-(cZ c[i]).length,eV c[i].length (c[i].length+1) (cZ c[i])):=by
     unfold iO;rw[af aq]
    delta TV B N Y U;have e2:bin .sub false true .int (.int .i64 (c[i].length:Int)) (.int .i64 ((cZ c[i]).length:Int))=some (I (c[i].length-(cZ c[i]).length:Nat)):=by rw[kP];have:(c[i].length:Int)-((cZ c[i]).length:Int)=((c[i].length-(cZ c[i]).length:Nat):Int):=aa;rw[this,wrap64 _ aa]
    have e3:∀z,Xc ue [(0,1),(1,1)] [(0,I z)]=some (.agg ⟨[I z,.slice none 0 0]⟩):=λz=>aU rfl rfl;generalize hz:c[i].length-(cZ _).length=z at e2 K;obtain⟨m1,n1,n2,n3,n4⟩:=kR [] m (some (2*AS+1)) ue (v:=.agg ⟨[I z,.slice none 0 0]⟩) (n:=2) rfl rfl rfl;obtain⟨g,Lw,q1,y,Q,q4⟩:=Xha d (kq (aH (d+3)) f) c[i] o i m.next z aa (ax L l.length 2) (I i) (I c.length) v (pt V 0 0) (c[i].length+1) 18446744073709551616 (cZ c[i]) [] ⟨0,0,0⟩ m1 aa aa a5 cF ⟨_,n4⟩ aa (λq=>absurd rfl q);have j:eV c[i].length (c[i].length+1) (cZ c[i])≠[]:=Xvw M;generalize a7:eV _ _ _=ws at y Q j K;obtain⟨a8,y⟩:=y;have F1:Fb m.next m m1:=n2.iP aY;have F2:Fb m.next m g:=F1.trans q4;have uM:X9 true 2 (pt m.next 0 0) g=some (.agg ⟨[I z,ax Lw ws.length 3]⟩):=Xw y ar rfl;have ⟨w1,w2,w3,a6,w4⟩:=Q j;have ⟨m3,m4,L4,e4,a1,a2,a3⟩:=Xo5 AS (z:=z) O aa hB F2 aa ⟨j,w1,w2,w3,a6,w4⟩;have ⟨m5,L5,l5,r1,r2,r3,r4⟩:=next _ L4 m4 a3 (by rw[fy];simp;omega) a2
    refine⟨m5,L5,l5,?_,r2,?_,r4⟩
    ·simp only[dw,X3,e2,e3,Xq,n1,Xj];refine aU q1 ?_;delta JV jd jm;simp only[uM,X3,e4,X4,a1];rwa[fy]at r1
    grind
def lu(s:ai):List Ln:=eO (split 10 s) 0
def lh:List UInt8->Nat->Nat->Nat × Nat × Nat
 |[],_,_=>(0,0,0)
 |c::r,l,k=>if 4096<l then(l,k,3)else if c.toNat=10 then lh r (l+1) 1 else if c.toNat<32\/126<c.toNat then(l,k,70)else lh r l (k+1)
def uI(x:Nat × Nat × Nat):ae:=.tuple ⟨[.agg #[.int .i64 x.1,.int .i64 x.2.1],.int .i64 x.2.2]⟩
def eh(m:aj)(b a c:Nat):Prop:=∃ty,m.get b=some (.cells [I a,I c] 0 0 false ty)
def eh.l0{m c}(h:eh m b a c):X9 false 1 (pt b 0 0) m=some (I a):=by obtain⟨ty,h⟩:=h;exact Xt h rfl
def eh.l1{m c}(h:eh m b a c):X9 false 1 (pt b 1 0) m=some (I c):=by obtain⟨ty,h⟩:=h;exact Xt h rfl
def eh.l2{m c}(h:eh m b a c):X9 true 2 (pt b 0 0) m=some (aZ a c):=by obtain⟨ty,h⟩:=h;exact Xw h ar rfl
def eh.put{m b a c B}(h:eh m b a c)(hB:B<=b)(d c'):∃S,Xe 2 (pt b 0 0) (aZ d c') m=some S/\eh S b d c'/\Fb B m S/\∀e,e≠b->S.get e=m.get e:=by obtain⟨ty,h⟩:=h;obtain⟨S,i,f⟩:=iJ (y:=0) (n:=2) (v:=aZ d c') (c':=[I d,I c']) h rfl c7 ar rfl rfl;exact⟨S,i,⟨ty,by rw[f.get,Mem.aX,ah rfl]⟩,((Fb.refl B m).put _ hB).jL f,λe g=>by rw[f.get,Mem.aX,af (bq g)]⟩
def eh.YH{m c}(h:eh m b a c)(hB:B<=b)(c':Nat):∃S,Xe 1 (pt b 1 0) (I c') m=some S/\eh S b a c'/\Fb B m S/\∀d,d≠b->S.get d=m.get d:=by obtain⟨ty,h⟩:=h;obtain⟨S,g,e⟩:=iJ (y:=1) (n:=1) (v:=I c') (c':=[I a,I c']) h rfl c7 ar rfl rfl;exact⟨S,g,⟨ty,by rw[e.get,Mem.aX,ah rfl]⟩,((Fb.refl B m).put _ hB).jL e,λd f=>by rw[e.get,Mem.aX,af (bq f)]⟩
def eh.ne{m c}(h:eh m b a c)(e:S.get b=m.get b):eh S b a c:=by obtain⟨ty,h⟩:=h;exact⟨ty,aq⟩
def MI(a g8)(m:aj):(ob (ob (some g8) λv=>ob (some [a]) λl=>some (v::l)) λl=>some (bZ l,m))=some (.tuple ⟨[g8,a]⟩,m):=aU rfl rfl
def Vm(M' s b c B)(g:b≠c)(w:B<=b)(t:B<=c)(K:s.length<=65536):∀(r d:ai)(f l k) (m) (x g8),s=d++r->r.length<f->l<=d.length+1->k<=d.length+1->eh m b l k->eh m c x g8 ->
  ∃S,xJ M' f (I d.length) (I s.length) (pt b 0 0) (pt c 0 0) (sv s) m=some (uI (lh r l k),S)/\Fb B m S
 |[],d,f+1,l,k,m,x,g8,q,hf,P,O,e,p=>by obtain⟨S,i,j,o,_⟩:=p.put t 0 0;refine⟨S,?_,o⟩;unfold xJ;delta B ji;have e1:bin .lss false true .int (I d.length) (I s.length)=some (.bool false):=Zi;have z:Xc Q2 [(0,1),(1,1)] []=some (aZ 0 0):=aU rfl rfl;simp only[e1,X3];delta Uj Ui L B jl A;simp only[z,X3,i,Xj,j.l2];exact MI _ _ _
 |a::r,d,f+1,l,k,m,x,g8,q,hf,P,O,e,p=>by
  have J:d.length+(r.length+1)=s.length:=aq;have hf:r.length<f:=aq;have C:s[d.length]'aa=a:=by grind
  have e1:bin .lss false true .int (I d.length) (I s.length)=some (.bool true):=Zj;have e2:bin .gtr true true .int (I l) (.int .i64 4096)=some (.bool (decide (4096<l))):=Cp;have y:Xi (sv s) (I d.length)=some (.int .u8 (a.toNat:Int)):=by rw[iu s .i64 d.length aa,C]
  have M:bin .eql true true .int (.int .u8 (a.toNat:Int)) (.int .u8 10)=some (.bool (decide (a.toNat=10))):=by rw[dI];congr 2;rw[gW];omega
  have e5:bin .lss true true .int (.int .u8 (a.toNat:Int)) (.int .u8 32)=some (.bool (decide (a.toNat<32))):=Nt;have N:bin .gtr true true .int (.int .u8 (a.toNat:Int)) (.int .u8 126)=some (.bool (decide (126<a.toNat))):=Cp;have uH:∀n:Nat,n<=70000->bin .add true true .int (I n) (.int .i64 1)=some (I (n+1:Nat)):=λn hn=>by rw[cz];have:((n:Nat):Int)+1=((n+1:Nat):Int):=aa;rw[this,wrap64 _ aa]
  have Q:(d++[a]).length=d.length+1:=ar;unfold xJ;delta B ji;simp only[e1,X3];delta Uj Qzn Qzm F L B A;unfold lh;rw[X6];simp only[X7,X3,aQ,e.l0,e2];delta Qyn L jd B jl jk A;by_cases u:4096<l
  ·rw[bj u,X6,ah u];have ⟨S,i,j,o,_⟩:=p.put t l k;refine⟨S,?_,o⟩;simp only[e.l2,X3,i,Xj,j.l2];exact MI _ _ _
  ·rw[bJ u,X5,af u];simp only[y,X3,M];delta Qym F L E B Y ja A jh;by_cases g2:a.toNat=10
   ·rw[bj g2,X6,ah g2];have ⟨S,i,j,o,D⟩:=e.put w (l+1) 1;have z:Xc Q2 [(0,1),(1,1)] [(0,I (l+1:Nat)),(1,.int .i64 1)]=some (aZ (l+1) 1):=aU rfl rfl;have ⟨G,R,H⟩:=Vm M' s b c B g w t K r (d++[a]) f (l+1) 1 S x g8 (by rw[q];simp) hf aa aa j (p.ne (D c (bq g)));refine⟨G,?_,o.trans H⟩;delta Ke B ja A;simp only[X7,X3,e.l0,uH l aa,z,i,Xj,uH d.length aa]
    grind
   ·rw[bJ g2,X5,af g2];have fin:∀m,eh m b l k->eh m c x g8->∃S,Eh M' (xJ M' f) (.bool true) (pt b 0 0) (pt c 0 0) (I d.length) (I s.length) (sv s) m=some (uI (l,k,70),S)/\Fb B m S:=λm e p=>by
     obtain⟨S,i,j,o,_⟩:=p.put t l k;refine⟨S,?_,o⟩;delta Eh F L jd B jl ja jf A;simp only[e.l2,X3,i,Xj,j.l2];exact MI _ _ _
    simp only[y,X3,e5];by_cases g3:a.toNat<32
    ·rw[bj g3,X6,ah (.inl g3)]
     grind
    ·rw[bJ g3,X5];simp only[y,X3,N];by_cases v:126<a.toNat
     ·rw[bj v,ah (.inr v)]
      grind
     ·rw[bJ v,af (λh=>h.elim g3 v)];have ⟨S,i,j,o,D⟩:=e.YH w (k+1);have ⟨G,R,H⟩:=Vm M' s b c B g w t K r (d++[a]) f l (k+1) S x g8 (by rw[q];simp) hf aa aa j (p.ne (D c (bq g)));refine⟨G,?_,o.trans H⟩;delta Eh Ke F L jd B jl ja jf A;rw[X5];simp only[X7,X3,e.l1,uH k aa,i,Xj,uH d.length aa]
      grind
def Xp(s:ai):Nat × Nat × Nat:=if 65536<s.length then(0,0,3)else lh s 1 1
def XcT(s d m):TA (d+1) Kb [sv s] m=some (uI (Xp s),m):=by
 rw[Xm8];generalize b:aD m m.next=G;have r:G.next=m.next:=by rw[<-b];rfl
 generalize a:G.push (.cells Q2 0 0 false (some (2*Q7+1)))=f;have t:f.next=G.next+1:=by rw[<-a];rfl
 have n:Fb m.next G f:=by rw[<-a];exact Fb.push _ aa
 have o:eh f G.next 0 0:=⟨_,by rw[<-a,Mem.bV,ah rfl];rfl⟩
 have key:∃S,Ej (aH d) (sv s) G=some (uI (Xp s),S)/\Fb m.next G S:=by
  delta Ej U;rw[Xq];rw[a];delta Ul E B N jl A;unfold Xp;have e1:bin .gtr true true .int (.int .i64 (s.length:Int)) (.int .i64 65536)=some (.bool (decide (65536<s.length))):=Cp;simp only[dw,X3,e1];by_cases g:65536<s.length
  ·rw[bj g,X6,ah g];have ⟨S,e,h,k,_⟩:=o.put (B:=m.next) aa 0 0;refine⟨S,?_,n.trans k⟩;have j:Xc Q2 [(0,1),(1,1)] []=some (aZ 0 0):=aU rfl rfl;simp only[j,X3,e,Xj,h.l2];trivial
  ·rw[bJ g,X5,af g];delta Uk B Y U A;have j:Xc Q2 [(0,1),(1,1)] [(0,.int .i64 1),(1,.int .i64 1)]=some (aZ 1 1):=aU rfl rfl;simp only[j,X3,Xq];generalize c:f.push (.cells Q2 0 0 false (some (2*Q7+1)))=l;have p:Fb m.next f l:=by rw[<-c];exact Fb.push _ aa
   have q:eh l f.next 0 0:=⟨_,by rw[<-c,Mem.bV,ah rfl];rfl⟩
   have i:eh l G.next 0 0:=o.ne (by rw[<-c,Mem.bV,af aa]);have ⟨v,e,h,k,u⟩:=q.put (B:=m.next) aa 1 1;obtain⟨w,y,x⟩:=Vm (aH d) s f.next G.next m.next aa aa aa aa s [] 18446744073709551616 1 1 v 0 0 rfl aa aY aY h (i.ne (u _ aa));refine⟨w,?_,n.trans (p.trans (k.trans x))⟩;simp only[e,Xj];assumption
 obtain⟨S,e,h⟩:=key;rw[<-b]at e h;rw[b]at e;exact cD e h rfl
end Go.Ab.Sh
namespace Go.Ab
open Go
def A7{m m1 v}{x:Option Rs}(l:x=some (v,m1))(f:Fr [] (aD m m.next) m1)(n:refs m.next 8 v=false):∃d,cK m x=some (v,d)/\Fr [] m d/\d.next=m1.next/\∀b,d.get b=m1.get b:=by
 subst l;have k:(Nat.ble m.next m1.low&&refs m.next 8 v)=false:=aq;have e:∀g d,gc m v m1=(g,d)->cK m (some (v,m1))=some (g,d):=λg d h=>gS;refine⟨aD m1 (min _ m1.low),e _ _ (by simp[sT,qt,k]),{
  next:=f.next
  low:=wN _ _
  bQ:=λi a b c=>by have:=f.bQ i b b ar;show i<=min m.low m1.low;omega
  get:=f.get
  lo:=λb j=>by
   rcases f.lo b j with q|q
   ·exact .inl (aO (tG _ _) q)
   ·exact .inr q },rfl,λ_=>rfl⟩
end Go.Ab
namespace Go.Ab.Sh
open Go Go.Ab Go.Lib
def MJ(a b)(m:aj)(g8):(ob (ob (ob (some g8) λv=>ob (some [a]) λl=>some (v::l)) λl=>some (b::l)) λl=>some (bZ l,m))=some (.tuple ⟨[b,g8,a]⟩,m):=aU rfl rfl
def XoR(s)(h:(Xp s).2.2≠0)(d m):TA (d+4) Ka [sv s] m=some (.tuple ⟨[.slice none 0 0,aZ (Xp s).1 (Xp s).2.1,I (Xp s).2.2]⟩,m):=by
 rw[Xf0];generalize b:aD m m.next=G;have q:G.next=m.next:=by rw[<-b];rfl
 have i:Fb m.next G (G.push (.cells Q2 0 0 false (some (2*Q7+1)))):=Fb.push _ aa;generalize c:G.push (.cells Q2 0 0 false (some (2*Q7+1)))=a at i;have p:a.get G.next=some (.cells Q2 0 0 false (some (2*Q7+1))):=by rw[<-c,Mem.bV,ah rfl]
 have r:a.next=G.next+1:=by rw[<-c];rfl
 obtain⟨e,g,l,z,w⟩:=kR [] a (some (2*Q7+1)) Q2 (v:=aZ (Xp s).1 (Xp s).2.1) (n:=2) rfl rfl rfl;have g:Xe 2 (pt a.next 0 0) (.agg #[.int .i64 (Xp s).1,.int .i64 (Xp s).2.1]) (a.push (.cells Q2 0 0 false (some (2*Q7+1))))=some e:=g;have l2:X9 true 2 (pt a.next 0 0) e=some (aZ (Xp s).1 (Xp s).2.1):=Xw w aW rfl;have g2:e.get G.next=some (.cells Q2 0 0 false (some (2*Q7+1))):=by simp_all[l.get,p]
 obtain⟨u,t,k⟩:=iJ (y:=0) (n:=2) (v:=aZ (Xp s).1 (Xp s).2.1) (c':=[I (Xp s).1,I (Xp s).2.1]) g2 rfl c7 aW rfl rfl;have l3:X9 _ 2 (pt _ 0 0) u=some (aZ _ _):=Xw (by rw[k.get,Mem.aX,ah rfl]) ar rfl;have j:=(i.trans (l.iP aa)).trans (((Fb.refl _ e).put _ aa).jL k);rw[<-b]at j;refine cD ?_ j rfl
 try rw[b]
 delta AN Kd C E jd Y jl U jg A;have f:=XcT s (d+2) a;have f:TA (d+3) _ _ a=some (.tuple _,a):=f;have e0:bin .neq true true .int (.int .i64 (Xp s).2.2) (.int .i64 0)=some (.bool true):=Zk;rw[Xq,c];simp only[f,X4,dy,dK,X3,Xq,g,Xj,e0,X6,l2,t,l3];exact MJ _ _ _ _
def XoQ(s)(h:(Xp s).2.2=0)(d m):∃S L l,TA (d+4) Ka [sv s] m=some (.tuple ⟨[ax L l.length 2,aZ 0 0,I 0]⟩,S)/\gv m.next S L l/\l.map (·.1)=lu s/\Fr [] m S:=by
 have hs:s.length<=65536:=by
  rcases lT 65536 s.length with q|q
  ·unfold Xp at h
   grind
  ·exact q
 rw[Xf0];generalize g:aD m m.next=G;have a0:G.next=m.next:=by rw[<-g];rfl
 have F1:Fb m.next G (G.push (.cells Q2 0 0 false (some (2*Q7+1)))):=Fb.push _ aa;generalize o:G.push (.cells Q2 0 0 false (some (2*Q7+1)))=i at F1;have g1:i.get G.next=some (.cells Q2 0 0 false (some (2*Q7+1))):=by rw[<-o,Mem.bV,ah rfl]
 have a6:i.next=G.next+1:=by rw[<-o];rfl
 obtain⟨p,T,n2,n3,n4⟩:=kR [] i (some (2*Q7+1)) Q2 (v:=aZ (Xp s).1 (Xp s).2.1) (n:=2) rfl rfl rfl;have T:Xe 2 (pt i.next 0 0) (.agg #[.int .i64 (Xp s).1,.int .i64 (Xp s).2.1]) (i.push (.cells Q2 0 0 false (some (2*Q7+1))))=some p:=T;have a7:p.next=i.next+1:=n3;have g2:p.get G.next=some (.cells Q2 0 0 false (some (2*Q7+1))):=by simp_all[n2.get,g1]
 obtain⟨v,H,W,X,V,p4⟩:=XcP s aa 10 d p;have W:TA (d+3) D6 [sv s,.string ⟨#[10]⟩] p=some (v,H):=W;have a8:=X.next;have g3:H.get G.next=some (.cells Q2 0 0 false (some (2*Q7+1))):=by rw[X.get _ aa ar];exact g2
 obtain⟨bs,q1,q2,_⟩:=V.block;have ab:(split 10 s).length<=s.length+1:=by rw[AZ 10 s.length s aY];have:=YS (a:=(10:UInt8)) (l:=s);omega
 obtain⟨J,L,l,r1,r2,Z,u⟩:=Xhh d H.next G.next (split 10 s) (λr hr=>by have:=xV 10 s r hr;omega) aa v (split 10 s).length 0 18446744073709551616 [] ⟨0,0,0⟩ H aa aa c7 aY V (λ_ _=>trivial) ⟨λq=>absurd rfl q,λx f=>by cases f⟩ ⟨bs,q1,λS a b=>q2 S a b⟩ aa ⟨_,_,_,g3⟩;rw[FV,my,mA]at Z;have g4:J.get G.next=some (.cells Q2 0 0 false (some (2*Q7+1))):=by rw[u.get _ aa];exact g3
 obtain⟨t,R,F⟩:=iJ (y:=0) (n:=2) (v:=aZ 0 0) (c':=[I 0,I 0]) g4 rfl c7 aW rfl rfl;have l5:X9 true 2 (pt G.next 0 0) t=some (aZ 0 0):=Xw (by rw[F.get,Mem.aX,ah rfl]) ar rfl;have F2:Fb m.next G p:=F1.trans (n2.iP aa);have F3:Fb m.next G H:=F2.trans (X.iP aa);have F4:Fb m.next G J:=F3.trans { next:=u.next,low:=u.low,bQ:=λx a b=>u.bQ x a aa,get:=λb hb=>u.get b aa,lo:=u.lo }
 have K:Fb m.next G t:=F4.trans (((Fb.refl m.next J).put _ aa).jL F);have a9:t.next=J.next:=by rw[F.next,Mem.ij]
 have j:gv m.next t L l:={
  out:=λq=>by obtain⟨a,b,c,ty,e⟩:=r2.out q;exact⟨aa,aa,c,ty,by rw[F.get,Mem.aX,af aa];exact e⟩
  ls:=λx f=>by obtain⟨⟨a1,a2,a3,a4,ty,a5⟩,b⟩:=r2.ls x f;exact⟨⟨a1,aa,aa,a4,ty,by rwa[F.get,Mem.aX,af aa]⟩,b⟩ }
 have f:AN (aH (d+3)) (sv s) G=some (.tuple ⟨[ax L l.length 2,aZ 0 0,I 0]⟩,t):=by
  delta AN Kd C E jd Y jl U jg A;have O:=XcT s (d+2) i;have O:TA (d+3) Kb [sv s] i=some (.tuple ⟨[.agg #[.int .i64 (Xp s).1,.int .i64 (Xp s).2.1],.int .i64 (Xp s).2.2]⟩,i):=O;have e0:bin .neq true true .int (.int .i64 (Xp s).2.2) (.int .i64 0)=some (.bool false):=by grind[eg,decide_eq_false]
  rw[Xq,o];simp only[O,X4,dy,dK,X3,Xq,T,Xj,e0,X5];delta Uh Ug C N A D;simp only[W,X4,V.len,X3];unfold Uf;refine aU r1 ?_;delta AK B jl A;have eb:Xc Q2 [(0,1),(1,1)] []=some (aZ 0 0):=aU rfl rfl;have R:Xe 2 (pt G.next 0 0) (aZ 0 0) J=some t:=R;simp only[eb,X3,R,Xj,l5];exact MJ _ _ _ _
 rw[<-g]at f K;by_cases P:l=[]
 ·subst P;have Q:refs m.next 8 (.tuple ⟨[ax L ([]:List (Ln × Lc)).length 2,aZ 0 0,I 0]⟩)=true:=rfl;have:=cD f K Q;rw[g]at this;exact⟨m,L,[],this,⟨λq=>absurd rfl q,λx f=>by cases f⟩,Z,.refl _ _⟩
 ·have z:l.length≠0:=λe=>P (oQ e);have Q:refs m.next 8 (.tuple ⟨[ax L l.length 2,aZ 0 0,I 0]⟩)=false:=by
   have w:=A5 (L:=L) (n:=l.length) (k:=m.next) (sz:=2) z ((j.out P).1);unfold ax at w|-;rw[af z]at w|-;have w:Nat.blt L.b m.next=false:=w;show(Nat.blt L.b m.next&&_)=false;rw[w];rfl
  obtain⟨m6,o1,o2,o3,o4⟩:=A7 f (Fb.oP K) Q;rw[g]at o1;exact⟨m6,L,l,o1,{
   out:=λq=>by
    obtain⟨a,b,c,ty,e⟩:=j.out q
    grind
   ls:=λx f=>by obtain⟨a,b⟩:=j.ls x f;exact⟨a.oI aa (o4 _),b⟩ },Z,o2⟩
end Go.Ab.Sh
namespace Go.Ab
open Go
variable {X:NX}{o:Nat}{m:Mem}{j:ay}
def NR.XrN(h:NR o m j X)(G:X [1]=none)(hn:∀l,X []≠some (.c l))(vs:List ae)(u:vs.all one=true)(ty):NR o (m.push (.cells vs 0 0 false ty)) (j.set [1] ⟨m.next,0,0⟩) (X.set [1] (some (.c (vs.map .v)))):=by
 have hd:∀a,X.set [1] (some (.c (vs.map .v))) a≠none->a≠[1]->X a≠none:=λa d g=>by rwa[NX.aE _ _ g]at d
 have f:∀a,a≠[1]->(j.set [1] ⟨m.next,0,0⟩) a=j a:=λa d=>ay.aE _ _ d;have w:∀b,b<m.next->(m.push (.cells vs 0 0 false ty)).get b=m.get b:=λb p=>rV;have x:∀a i l,X a=some (.c l)->i::a≠[1]:=λa i l d e=>by grind
 exact{
  inj:=λa b d p e=>by
   by_cases e1:a=[1]
   ·by_cases e2:b=[1]
    ·rw[e1,e2]
    ·rw[e1,ay.aR,f b e2]at e;have:=h.hi b (hd b p e2)
     grind
   ·by_cases e2:b=[1]
    ·rw[e2,ay.aR,f a e1]at e;have:=h.hi a (hd a d e1)
     grind
    ·rw[f a e1,f b e2]at e;exact h.inj a b (hd a d e1) (hd b p e2) e
  hi:=λa d=>by
   by_cases e1:a=[1]
   ·rw[e1,ay.aR];simp
   ·rw[f a e1];exact Nat.lt_succ_of_lt (h.hi a (hd a d e1))
  r2:=λa d=>by
   by_cases e1:a=[1]
   ·simp[e1,ay.aR]
   ·simp[f,e1,h.r2,hd,d]
  at':=λa ob d=>by
   by_cases e1:a=[1]
   ·subst e1;cases d;refine⟨ty,?_⟩;rw[ay.aR,U6];rw[Mem.bV,ah rfl]
   ·rw[NX.aE _ _ e1]at d;have k:X a≠none:=by rw[d];simp
    have:=h.at' a ob d;cases ob with
    |c l2 =>obtain⟨s,D⟩:=this;refine⟨s,?_⟩;rw[f a e1,w _ (h.hi a k),U7 (λy n H _ _=>f _ (x a y _ d))];exact D
    |m F cl =>show(m.push _).get _=_;rw[f a e1,w _ (h.hi a k)];trivial
  ok:=λa l2 d=>by
   by_cases e1:a=[1]
   ·subst e1;cases d;rw[cL]at u|-;intro c A;obtain⟨t,hy,rfl⟩:=mz.mp A;exact u t hy
   ·rw[NX.aE _ _ e1]at d;exact h.ok a l2 d
  ow:=λa l2 i C r d hi=>by
   by_cases e1:a=[1]
   ·subst e1;cases d;rw[gX]at hi;cases z:vs[i]? with
    |none=>rw[z]at hi;cases hi
    |some t=>rw[z]at hi;cases hi
   ·rw[NX.aE _ _ e1]at d;rw[NX.aE _ _ (x a i _ d)];exact h.ow a l2 i C r d hi
  par:=λi q a d=>by have g:i::q::a≠[1]:=λe=>aq;have ⟨B,n5,sz5,z1,z2,E⟩:=h.par i q a (hd _ d g);have:q::a≠[1]:=λe=>aq;exact⟨B,n5,sz5,by simp_all[NX.aE,z1],z2,E⟩ }
def NR.yM(h:NR o m j X)(w:∀l(i n u:Nat),X [1]=some (.c l)->l[i]?≠some (Cl.s n u))(hn:∀l,X []≠some (.c l)):NR o m j (X.set [1] none):=by
 have f:∀a,X.set [1] none a≠none->a≠[1]:=λa d e=>by simp_all[NX.aR]
 have hd:∀a,X.set [1] _ a≠none->X a≠none:=λa d=>by have:=f a d;rwa[NX.aE _ _ this]at d
 have q:∀a i l,X a=some (.c l)->i::a≠[1]:=λa i l d e=>by grind
 exact{
  inj:=λa b d p e=>h.inj a b (hd a d) (hd b p) e
  hi:=λa d=>h.hi a (hd a d)
  r2:=λa d=>h.r2 a (hd a d)
  at':=λa ob d=>by have:=f a aq;rw[NX.aE _ _ this]at d;exact h.at' a ob d
  ok:=λa l2 d=>by have:=f a aq;rw[NX.aE _ _ this]at d;exact h.ok a l2 d
  ow:=λa l2 i t g d hi=>by have:=f a aq;rw[NX.aE _ _ this]at d;rw[NX.aE _ _ (q a i _ d)];exact h.ow a l2 i t g d hi
  par:=λi k a d=>by
   obtain⟨r,n5,sz5,z1,z2,v⟩:=h.par i k a (hd _ d);have:k::a≠[1]:=λe=>by grind
   exact⟨r,n5,sz5,by simp_all[NX.aE],z2,v⟩ }
end Go.Ab
namespace Go.Ab.Sh
open Go Go.Ab Go.Lib
variable {B O P bf y p2 V zb7:Nat}{i5:ao}{X M:NX}{k:Key}{l:List Cl}{m3:Mem}{p w:Value}{r:Bool}{g8:Option Rs}
variable {c:Cx}{G m:Mem}{Q j:ay}{J s u:ao}{o h:Nat}{ts:List Tmp}{x:Option Rs}{i8:Value->Nat->ay->ao->Prop}{v:Value}{cu:Cu}
variable [gF c]
def o8(c:Cx)(s:ao):ao:=if s.aF=mV then rh c s else if s.aF=ni then nk c s else if s.aF=kH then oB c s else if s.aF=oz then ry c s else rG c s
inductive iG (s:ao):Prop where
 |none (h:s.aF=0)
 |iface (h:s.aF=mV) (n:0<au s.X [0] 3)
 |rP (h:s.aF=ni) (n:0<au s.X [0] 4)
 |ask (h:s.aF=kH) (n:Fk s.X)
 |iY (h:s.aF=oz) (n:0<au s.X [0] 10)
 |iW (h:s.aF=mo) (n:0<au s.X [0] 11)
theorem eM.mono(a:eM c o h m j s g8 w i5)(hd:h<=zb7):eM c o zb7 m j s g8 w i5:=by obtain⟨p,l,b,k,n,d,e,f,g,q,i⟩:=a;exact⟨p,l,b,k,n,d,e,f,g,aa,i⟩
def Fh:mV≠0/\ni≠0/\kH≠0/\oz≠0/\mo≠0/\ni≠mV/\kH≠mV/\kH≠ni/\oz≠mV/\oz≠ni/\oz≠kH/\mo≠mV/\mo≠ni/\mo≠kH/\mo≠oz:=ak
def Xxw(h:PS c o m j s)(q:o+c.ws.length+3<=8589934592)(p:iG s)(l:s.aF≠0)(d):eM c o (c.ws.length+3) m j s (o9 (TA (d+9)) (qm c s.aF) [pt c.C 0 0] m) (.tuple ⟨[]⟩) (o8 c s):=by
 obtain⟨t,u,v,w,x,e1,e2,b,e,e5,f,g,i,k,qq⟩:=Fh;have r:qm c s.aF=.func (.func s.aF) ⟨[pt c.P 0 0]⟩ ⟨[]⟩:=by unfold qm;rw[af l]
 unfold o8;cases p with
 |none h=>trivial
 |iface a n =>rw[a,ah rfl];exact(Xwr h aa n d).pad
 |rP a n =>rw[a,af e1,ah rfl];exact(XiQ h aa n d).mono aa
 |ask a n =>rw[a,af e2,af b,ah rfl];exact(XjK h aa n d).mono aa
 |iY a n =>rw[a,af e,af e5,af f,ah rfl];exact(XhK h aa n d).mono aa
 |iW a n =>rw[a,af g,af i,af k,af qq];exact(XkW h aa n d).mono aa
def jZ(c:Cx)(s:ao):ao:=
 let a:=if cH c s.cu=true then s.at (cB s.cu (bG c s.cu.pl).2 130)else s
 if dF a.X [0] 15=true then a.at (cB a.cu (bG c 0).2 7)else if dF a.X [0] 16=true then a.at (cB a.cu (bG c 0).2 120)else a
def jX(c:Cx)(s:ao)(ind:Nat):ao:=
 jZ c (if ind=0 then qE c { s with aF:=0 }else if ind=1/\s.aF≠0 then o8 c s else s.at (cB s.cu (bG c 0).2 70))
def Es(s ws):(Xl s ws).aF=s.aF:=rfl
def EY(s:ao)(cu):(s.at cu).aF=s.aF:=rfl
def EK(c s e):(fu c s e).aF=s.aF:=rfl
def K7(s:ao)(k y cs):(s.app k y cs).aF=s.aF:=rfl
def Bi(s:ao)(k y a):(s.aC k y a).aF=s.aF:=rfl
def XhC(s:ao)(k y a):(s.iV k y a).aF=s.aF:=rfl
def Xw0(s:ao)(k y cs a):(s.nl k y cs a).aF=s.aF:=rfl
def VR(c k y):∀f s,(ir c k y f s).aF=s.aF
 |0,s=>rfl
 |f+1,s=>by
  unfold ir
  try dsimp only
  split
  ·exact VR c k y f _
  ·rfl
def Xvi(c s):(rh c s).aF=s.aF:=by unfold rh;simp only[jz ao.aF,Es,Bi,EY,EK,pN]
def Xwo(c s):(nk c s).aF=s.aF:=rfl
def XhS(c s k b):(gA c s k b).2.aF=s.aF:=by unfold gA;simp only[jz ao.aF,XhC,VR,Bi,EY,EK,pN]
def XfH(c s):(oB c s).aF=s.aF:=by unfold oB;simp only[jz ao.aF,Es,XhS,Bi,EY,EK,pN]
def Xyw(c s):(ry c s).aF=s.aF:=by unfold ry;simp only[jz ao.aF,Es,K7,Bi,EY,EK,pN]
def XjY(s b i y yl ws):(lK s b i y yl ws).aF=s.aF:=by unfold lK;cases i<;>simp only[jz _,Es,K7,Bi,pN]
def XfO(c s):(rG c s).aF=s.aF:=by
 unfold rG
 try dsimp only
 rw[U1];unfold yV;simp only[jz ao.aF,Es,K7,Bi,EY,EK,XjY,pN]
def Xsz(c s):(o8 c s).aF=s.aF:=by unfold o8;simp only[jz ao.aF,Xvi,Xwo,XfH,Xyw,XfO,pN]
def rl(h:k≠[0])(y b):bF X k y b [0]=X [0]:=by
 cases a:X k with
 |none=>unfold bF;rw[a]
 |some ob =>
  cases ob with
  |c l=>rw[fp a,NX.aE _ _ (bq h)]
  |m d cl=>unfold bF;rw[a]
def L6(h:k≠[0])(hn:k≠[])(y cs):bg X k y cs [0]=X [0]:=by
 cases a:X k with
 |none=>unfold bg;rw[a]
 |some ob =>
  cases ob with
  |c l =>unfold bg;rw[a];show(NX.set _ _ _) [0]=_;rw[NX.aE _ _ (bq h),NX.aE _ _ (λe=>aq)]
  |m b cl=>unfold bg;rw[a]
def XnU(h:k≠[0])(hn:k≠[])(y vs):iz X k y vs [0]=X [0]:=by
 cases a:X k with
 |none=>unfold iz;rw[a]
 |some ob =>
  cases ob with
  |c l =>rw[vY a,NX.aE _ _ (bq h),NX.aE _ _ (λe=>aq)]
  |m b cl=>unfold iz;rw[a]
def Xz0(c){k:Key}(h:k≠[0])(hn:k≠[])(y):∀f s,(ir c k y f s).X [0]=s.X [0]
 |0,s=>rfl
 |f+1,s=>by
  unfold ir
  try dsimp only
  have e:((s.at (Xb c s.cu 1 4294967295).2).app k y [.v (.int .u32 (Xb c s.cu 1 4294967295).1)]).X [0]=s.X [0]:=L6 h hn _ _;split
  ·rw[Xz0 c h hn y f _,e]
  grind
def bU(X:NX):Prop:=∃l,X [0]=some (.c l)/\l.length=18
def bU.of(h:bU X)(e:M [0]=X [0]):bU M:=by obtain⟨l,a,b⟩:=h;exact⟨l,aq,b⟩
def bU.st(h:bU X)(y x)(e:y<18):bU (bF X [0] y [x])/\∀c,c≠y->cl (bF X [0] y [x]) [0] c=cl X [0] c:=by
 obtain⟨l,a,b⟩:=h;rw[fp a];refine⟨⟨_,NX.aR _ _ _,aq⟩,λc d=>?_⟩;rw[lI,cU a]
 grind
def bU.XeM(h:bU X)(y x)(c:y<18):cl (bF X [0] y [x]) [0] y=.v x:=by
 obtain⟨l,a,b⟩:=h;rw[fp a,lI]
 grind
def bU.ap(h:bU X)(f cs)(hf:f<18):bU (bg X [0] f cs)/\au (bg X [0] f cs) [0] f=au X [0] f+1/\∀d,d≠f->cl (bg X [0] f cs) [0] d=cl X [0] d:=by
 obtain⟨l,a,b⟩:=h;have e:bg X [0] f cs=(X.set (f::[0]) (some (.c (bz X (f::[0])++cs)))).set [0] (some (.c (l.set f (.s (au X [0] f+1) cs.length)))):=by unfold bg;rw[a]
 rw[e];refine⟨⟨_,NX.aR _ _ _,aq⟩,?_,λd g=>?_⟩
 ·show(match cl _ [0] f with|.s n _=>n|_=>0)=_
  rw[lI,du,ah rfl,ah aa];rfl
 ·rw[lI,cU a,du,af (bq g)]
def bU.single{s}(h:bU s.X)(ws):bU (Xz s ws).X/\∀c,c≠15->cl (Xz s ws).X [0] c=cl s.X [0] c:=by obtain⟨a,b⟩:=h.st 15 (.bool (dF s.X [0] 15||decide (Xr [32] ws∈aS s.X))) aa;trivial
def xU{s}(h:bU s.X)(ws)(b:k≠[0])(c:k≠[2]):(Xz s ws).X k=s.X k:=by
 obtain⟨l,a,_⟩:=h;unfold Xz
 try dsimp only
 rw[NX.aE _ _ c,fp a,NX.aE _ _ b]
def XjU(c s)(h:bU s.X):bI (oB c s).X [0] 17=bI s.X [0] 17:=by
 have ins:∀r ws,r.X [0]=s.X [0]->bI (Xl r ws).X [0] 17=bI s.X [0] 17:=λr ws e=>by unfold Xl bI dm;rw[((h.of e).single _).2 17 aa];unfold cl;rw[e]
 have d:mn s.X≠[0]:=λe=>by unfold mn at e;grind
 have hn:mn s.X≠[]:=λe=>ve;unfold oB
 try dsimp only
 split
 ·refine ins _ _ ?_;have:∀(p) [Decidable p] (a b:ao),a.X [0]=s.X [0]->b.X [0]=s.X [0]->(if p then a else b).X [0]=s.X [0]:=λp _ a b f g=>by grind
  exact this _ _ _ (rl d _ _) (this _ _ _ (rl d _ _) (this _ _ _ (rl d _ _) (this _ _ _ (rl d _ _) (this _ _ _ (rl d _ _) rfl))))
 ·split
  ·refine ins _ _ ?_;have:∀(p) [Decidable p] (a b:ao),a.X [0]=s.X [0]->b.X [0]=s.X [0]->(if p then a else b).X [0]=s.X [0]:=λp _ a b f g=>by grind
   exact this _ _ _ (rl d _ _) (this _ _ _ (rl d _ _) (this _ _ _ (rl d _ _) (this _ _ _ ((XnU d hn _ _).trans (rl d _ _)) (this _ _ _ (Xz0 c d hn _ _ _) (this _ _ _ (rl d _ _) rfl)))))
  ·split
   ·exact ins _ _ (rl d _ _)
   ·rfl
variable {c:Cx}{G m:Mem}{Q j:ay}{J s u:ao}{o h:Nat}{ts:List Tmp}{x:Option Rs}{i8:Value->Nat->ay->ao->Prop}{v:Value}{cu:Cu}
def gQ(h:M k=X k)(y):cl M k y=cl X k y:=by grind[cl]
def FO(s)(c:bU s.X)(n cs){sz}(d:y<18):bU (rowOf s y sz n cs).2.X/\(rowOf s y sz n cs).1<au (rowOf s y sz n cs).2.X [0] y/\(rowOf s y sz n cs).2.aF=s.aF:=by
 unfold rowOf;cases hf:fq s.X [0] y sz 0 n with
 |some i =>have:=vI _ _ _ _ _ _ hf;exact⟨c,aq,rfl⟩
 |none =>obtain⟨a,b,_⟩:=c.ap y cs d;exact⟨a,aq,rfl⟩
def Xr1(s a N' b)(B:bU s.X)(h:PS c o m j i5)(r:i5.X=(vO s a N' b).X):Fk (vO s a N' b).X:=by
 obtain⟨u,r2,_⟩:=FO s B a [.v (sv a),.s 0 15,.v (.bool false)] (y:=9) (sz:=3) aa;obtain⟨_,p,_,_,i⟩:=h.dev (f:=9) (sz:=3) rfl aa rfl;rw[r]at p i;unfold vO at p i|-;generalize rowOf s 9 3 _ _=R at u r2 p i|-;generalize A:([.v _,.v _,.v _,.v _,.v _,.v _,.v _,.v _,.v _,.v _,.s 0 1,.v _,.s 0 1,.v _,.v _]:List Cl)=cs at p i|-;obtain⟨t1,t2⟩:=u.st 17 (I R.1) aa;have q:((R.2.aC [0] 17 _).app [9,0] (R.1*3+1) cs).X [0]=(R.2.aC [0] 17 [I R.1]).X [0]:=L6 ak ak _ _;have u1:=bU.of t1 q;have ⟨G,x⟩:=u1.single [dH,a,bN b.toNat];have k:cl (Xz ((R.2.aC [0] 17 [I R.1]).app [9,0] (R.1*3+1) cs) [dH,a,bN b.toNat]).X [0] 17=.v (I R.1):=by rw[x 17 aa,gQ q];exact u.XeM 17 (I R.1) aa
 have w:cl (Xz ((R.2.aC [0] 17 [I R.1]).app [9,0] (R.1*3+1) cs) [dH,a,bN b.toNat]).X [0] 9=cl R.2.X [0] 9:=by rw[x 9 aa,gQ q];exact t2 9 aa
 have g:(Xz _ [dH,a,bN b.toNat]).X _=((R.2.aC [0] 17 _).app _ _ cs).X [9,0]:=xU u1 _ ak ak;generalize r:Xz _ _=i5 at k w g;have hi:bI i5.X [0] 17=(R.1):=by unfold bI dm;rw[k]
 have hn:au i5.X [0] 9=au R.2.X [0] 9:=by unfold au;rw[w]
 have t:(mj ((R.2.aC [0] 17 [I R.1]).app [9,0] (R.1*3+1) cs) kH [dH,a,bN b.toNat]).X=i5.X:=by rw[<-r];rfl
 rw[t]at i|-;have ⟨F,d,z,_⟩:=i aa;refine⟨aa,aa,?_⟩;rw[hi,pI];rw[g]at d;have d:bg _ _ _ cs _=some _:=d;have key:au i5.X [9,0] (R.1*3+1)=au (bg (R.2.aC [0] 17 [I R.1]).X [9,0] (R.1*3+1) cs) [9,0] (R.1*3+1):=by unfold au;rw[gQ g];rfl
 rw[key];cases C:(R.2.aC [0] 17 [I R.1]).X [9,0]with
 |none =>unfold bg at d;simp_all
 |some ob =>
  cases ob with
  |m E cl =>unfold bg at d;simp_all
  |c l =>
   have e:bg (R.2.aC [0] 17 [I R.1]).X [9,0] (R.1*3+1) cs=((R.2.aC [0] 17 [I R.1]).X.set ((R.1*3+1)::[9,0]) (some (.c (bz (R.2.aC [0] 17 [I R.1]).X ((R.1*3+1)::[9,0])++cs)))).set [9,0] (some (.c (l.set (R.1*3+1) (.s (au (R.2.aC [0] 17 [I R.1]).X [9,0] (R.1*3+1)+1) cs.length)))):=by unfold bg;rw[C]
   rw[e,NX.aR]at d;cases d;rw[uV]at z;rw[e];show 0<(match cl _ _ _ with|.s n _=>n|_=>0)
   rw[lI,du,ah rfl,ah aa];simp
def KF(s)(a:bU s.X)(b ws):bU (mj s b ws).X:=(a.single ws).1
def XnQ(s)(a:bU s.X)(ws cs):iG ((mj s mV ws).app [0] 3 cs):=by obtain⟨_,b,_⟩:=(KF s a mV ws).ap 3 cs aa;exact .iface rfl (FX (Cg _) b.symm)
def XnG(s)(a:bU s.X)(ws cs):iG ((mj s ni ws).app [0] 4 cs):=by obtain⟨_,b,_⟩:=(KF s a ni ws).ap 4 cs aa;exact .rP rfl (FX (Cg _) b.symm)
def XnE(s)(a:bU s.X)(ws cs):iG ((mj s oz ws).app [0] 10 cs):=by obtain⟨_,b,_⟩:=(KF s a oz ws).ap 10 cs aa;exact .iY rfl (FX (Cg _) b.symm)
def XoB(s)(a:bU s.X)(ws cs):iG ((mj s mo ws).app [0] 11 cs):=by obtain⟨_,b,_⟩:=(KF s a mo ws).ap 11 cs aa;exact .iW rfl (FX (Cg _) b.symm)
def Xt2(s):(og c s).aF=s.aF:=by unfold og;extract_lets v a k d h x n e b g t;clear_value t;rfl
def Xp5(s e):(fu c s e).aF=s.aF:=rfl
def XnH(J)(e:bU J.X)(d:J.aF=0):iG (rK c J):=by
 unfold rK;generalize Xa c _=w;have a:bU (J.at w.2).X:=e;have b:(J.at w.2).aF=0:=d;dsimp only;generalize J.at w.2=s at a b|-;split
 ·exact .none ((Xt2 s).trans b)
 ·split
  ·exact XnG (s.at (bB c _).2) a _ _
  ·split
   ·refine .none ?_;exact(K7 _ _ _ _).trans ((FO (s.at (j9 c _).2) a _ _ aa).2.2.trans b)
   ·split
    ·refine .none ?_;exact(Xw0 _ _ _ _ _).trans ((FO (s.at (cM c _ _).2) a _ _ aa).2.2.trans b)
    ·split
     ·exact .none (by assumption)
     ·exact .none ((Xp5 s _).trans b)
def Xvc(s)(a:bU s.X):iG (vK c s):=by
 unfold vK;generalize aP c _ _=y;dsimp only;split
 ·exact XnE (s.at (dG c y.2).2) a _ _
 ·exact XoB (s.at (dG c _).2) a _ _
def Xzm(J)(l:bU J.X)(k:J.aF=0)(h:PS c o m j i5)(b:i5.X=(qE c J).X):iG (qE c J):=by
 unfold qE at b|-;generalize Xa c _=w at b|-;have d:bU (J.at w.2).X:=l;have e:(J.at w.2).aF=0:=k;dsimp only at b|-;generalize J.at w.2=s at b d e|-;by_cases e1:w.1=lD
 ·rw[ah e1];exact .none (by assumption)
 ·rw[af e1]at b|-;by_cases e2:w.1=jB
  ·rw[ah e2];exact .none (by assumption)
  ·rw[af e2]at b|-;by_cases f:w.1=sf
   ·rw[ah f];exact XnQ (s.at (bB c _).2) d _ _
   ·rw[af f]at b|-;by_cases g:w.1=[105,112]
    ·rw[ah g];exact XnH s d e
    ·rw[af g]at b|-;by_cases e5:w.1=dH
     ·rw[ah e5]at b|-;generalize bB c _=n at b|-;generalize aP c n.2 _=y at b|-;generalize Xb c y.2 1 _=q at b|-;exact Xr1 (s.at q.2) _ _ _ d h b |> λa=>.ask rfl a
     ·rw[af e5];by_cases i:w.1=lW
      ·rw[ah i];exact Xvc s d
      ·rw[af i];exact .none ((Xp5 s _).trans e)
def XjZ(c s):(jZ c s).X=s.X/\(jZ c s).aF=s.aF/\(jZ c s).df=s.df:=by
 unfold jZ
 try dsimp only
 split<;>(repeat' split)<;>exact⟨rfl,rfl,rfl⟩
def iG.congr{s u}(h:iG s)(a:u.X=s.X)(b:u.aF=s.aF):iG u:=by
 cases h with
 |none h=>exact .none aa
 |iface h n=>exact .iface aa aq
 |rP h n=>exact .rP aa aq
 |ask h n=>exact .ask aa aq
 |iY h n=>exact .iY aa aq
 |iW h n=>exact .iW aa aq
def Xnt(s)(g:bU s.X)(h:iG s)(r:s.aF≠0)(a:c.X0=s.X)(f:PS c o m j i5)(d:i5.X=(o8 c s).X):iG (o8 c s):=by
 have ge:=f.ok.ge;rw[a,d]at ge;have t:=Xsz c s;have ⟨u,v,w,x,y,e1,e2,b,i,e5,k,l,p,q,qq⟩:=Fh;cases h with
 |none h=>grind
 |iface h n=>exact .iface aa (dU n (ge 3).1)
 |rP h n=>exact .rP aa (dU n (ge 4).1)
 |ask h n =>
  have e:o8 c s=oB c s:=by simp_all[o8,af,e2,b,ah]
  have hi:bI (o8 c s).X [0] 17=bI s.X [0] 17:=by rw[e];exact XjU c s g
  exact .ask aa ⟨by rw[hi];exact n.pos,by rw[hi];exact dU n.lt (ge 9).1,by rw[hi];exact dU n.cl (ge _).2⟩
 |iY h n=>exact .iY aa (dU n (ge 10).1)
 |iW h n=>exact .iW aa (dU n (ge 11).1)
variable [gF c]
def PS.ldb(h:PS c o m j s)(i:y=15\/y=16):X9 false 1 (pt c.P y 0) m=some (.bool (dF s.X [0] y)):=by
 obtain⟨l,a,e,ld⟩:=h.root;obtain⟨d,f,g⟩:=h.wt.get a rfl (y:=y) aa;have hf:bo 0 y=some .b:=by rcases i with rfl|rfl<;>rfl
 rw[hf]at g;cases d with
 |s n p=>trivial
 |v k =>obtain⟨z,rfl⟩:=g;rw[ld y _ (.inr ⟨aa,gF.rf⟩) f,LL a f]
abbrev d9(d:Nat):Gt:=(aH (d+9))
def Xyq(d)(k0:ae->ae->ae->ae->ae->ae->aj->Option Rs)(p2 V f e b:ae)(k:W c G Q J o m j s [(bf,0,[I c.ln,I (bG c 0).2])]) :
  ∃S,AG (d9 d) k0 (pt c.C 0 0) (pt c.P 0 0) (pt bf 0 0) p2 V f e b m=pX (d9 d) k0 (pt c.C 0 0) p2 V f e b (pt c.P 0 0) S/\W c G Q J o S j (jZ c s) [(bf,0,[I c.ln,I (bG c 0).2])]:=by
 have B:TA (d+9) _ _ m=some _:=Fw k.ps _;have two:∀q a,W c G Q J o q j a [(bf,0,[I c.ln,I (bG c 0).2])]->∃S,JL (d9 d) k0 (pt c.P 0 0) (pt c.C 0 0) (pt bf 0 0) p2 V f e b q=pX (d9 d) k0 (pt c.C 0 0) p2 V f e b (pt c.P 0 0) S/\W c G Q J o S j (if dF a.X [0] 15=true then a.at (cB a.cu (bG c 0).2 7)else if dF a.X [0] 16=true then a.at (cB a.cu (bG c 0).2 120)else a) [(bf,0,[I c.ln,I (bG c 0).2])]:=λq a g=>by
  have D:X9 _ 2 _ q=some (aZ _ _):=g.fi (y:=0) br ar rfl;delta JL C L jd jc A;simp only[Xg,X7,X3,g.ps.ldb (.inl rfl),g.ps.ldb (.inr rfl),D];cases x:dF a.X [0] 15 with
  |true =>have ⟨n,h,i,l⟩:=EM g.ps (bG c 0).2 7 ak (d+8);rw[h,X4];exact⟨n,rfl,g.go i l⟩
  |false =>
   rw[X5,af ak];cases z:dF a.X [0] 16 with
   |true =>have ⟨n,h,i,l⟩:=EM g.ps (bG c 0).2 120 ak (d+8);rw[h,X4];exact⟨n,rfl,g.go i l⟩
   |false =>
    rw[X5,af ak]
    grind
 delta AG C jv L jc jb A;unfold jZ
 try dsimp only
 rw[B,X4];cases t:cH c s.cu with
 |true =>have ⟨p,E,w,F,_,_,H,_⟩:=k.ps.wl.ix (qe t);have l0:X9 _ 1 (pt c.C 0 0) m=some _:=k.ps.ld rfl;have l1:X9 _ 1 (pt c.C 1 0) m=some _:=k.ps.ld rfl;simp only[Xg,X7,X3,l0,l1,E,w,H];have ⟨n,h,i,l⟩:=EM k.ps (bG c s.cu.pl).2 130 ak (d+8);rw[h,X4];exact two n _ (k.go i l)
 |false =>exact two m s k
variable {c:Cx}{G m:Mem}{Q j:ay}{J s u:ao}{o h:Nat}{ts:List Tmp}{x:Option Rs}{i8:Value->Nat->ay->ao->Prop}{v:Value}{cu:Cu}
def uJ(r:Bool)(P O:Nat):Cx:=⟨0,P,O,0,.nilFunc,[],0,λ_=>none,r⟩
def bX(r:Bool)(P O:Nat)(s:ao):NX:=(aL (uJ r P O) s).set [1] none
def UF(c s):aL c s=(bX c.rf c.P c.O s).set [1] (some (.c (cc c s.cu))):=by
 funext k;by_cases a:k=[1]
 ·subst a;rfl
 ·unfold bX;rw[NX.aE _ _ a,NX.aE _ _ a];unfold aL;rw[af a,af a];rfl
def XoC(r P O s cu):bX r P O (s.at cu)=bX r P O s:=by
 funext k;unfold bX NX.set aL;by_cases h:k=[1]
 ·rw[ah h,ah h]
 ·simp only[af h];rfl
def wi(w:WT s.X)(b:k≠[0])(h:(∃q,kt k=some q)\/r=false):bX r P O s k=s.X k:=by
 unfold bX;by_cases a:k=[1]
 ·subst a;rw[NX.aR,w.qy]
 ·have c:(uJ r P O).rf=r:=rfl;rw[NX.aE _ _ a];rcases h with⟨q,h⟩|h
  ·exact jI a b (gT h)
  ·unfold aL;rw[af a,af b,h,af (λq=>by cases q.1),af (λq=>by cases q.1)]
def yJ(w:WT s.X)(a:k≠[0])(h:s.X k=some (.c l)):bX r P O s k=some (.c l):=by obtain⟨q,b,_⟩:=w.ty _ _ h;rw[wi w a (.inl ⟨q,b⟩),h]
def Xyy(w:WT s.X)(l):bX r P O s []≠some (.c l):=by unfold bX;rw[NX.aE _ _ ak,jI ak ak ak];intro e;obtain⟨r,a,_⟩:=w.ty _ _ e;cases a
def Bj(h:s.X [0]=some (.c l)):bX r P O s [0]=some (.c (dt (uJ r P O) s l)):=by unfold bX;rw[NX.aE _ _ ak,lF h]
structure LI (r:Bool) (B P O o:Nat) (m:Mem) (j:ay) (s:ao):Prop where
 nr:NR o m j (bX r P O s)
 pP:j [0]=⟨P,0,0⟩
 pO:j [2]=⟨O,0,0⟩
 wt:WT s.X
 il:s.df.length<=SB
 hB:∀k,bX r P O s k≠none->B<=(j k).b
 bk:iG s
def Xl5(ln):∀ws i w,ws[i]?=some w->(ka ln ws)[i*3]?=some (sv w.1)/\(ka ln ws)[i*3+1]?=some (I ln)/\(ka ln ws)[i*3+2]?=some (I w.2)
 |[],i,w,h=>by simp at h
 |a::l,0,w,h=>by cases h;trivial
 |a::l,i+1,w,h=>by
  have c:=Xl5 ln l i w h;have e:∀b,(ka ln (a::l))[(i+1)*3+b]?=(ka ln l)[i*3+b]?:=λb=>by grind[ka]
  have e0:=e 0
  grind
def Xxf(c b):bin .neq true true .func (qm c b) .nilFunc=some (.bool (decide (b≠0))):=by
 unfold qm;by_cases h:b=0
 ·rw[ah h,bJ (λe=>e h),lH];rfl
 ·rw[af h,bj h,lH];rfl
abbrev eH(r:Bool)(P O C:Nat)(x:Ln)(L:Lc)(s:ao):Cx:=⟨C,P,O,L.b,ax L x.ws.length 3,x.ws,x.ln,s.X,r⟩
def tR(c:Cx)(B:Nat)(m:aj)(d:Nat->Prop)(S:aj)(a:ay)(i5:ao):Prop:=Fb B m S/\(∀k,aL c i5 k≠none->B<=(a k).b)/\∀b,d b->S.get b=m.get b/\b<S.next/\∀k,aL c i5 k≠none->(a k).b≠b
def VO(h:LI r B P O o m j s)(U:B<=m.next)(T D)(G:∀b,D b->b<m.next/\∀k,bX r P O s k≠none->(j k).b≠b)(x L)(Z:x.ws≠[])(a4:L.r<2)(F:∃ty,m.get L.b=some (.cells (ka x.ln x.ws) L.ver 0 false ty))(a5:D L.b)(a7:x.ws.length<=65536)(a8:∀w∈x.ws,w.1.length<=65536/\w.2<=65536) :
  ∃i7,PS (eH r P O m.next x L s) o (m.push (.cells [ax L x.ws.length 3,I 0,I 0,I 0,I 0] 0 0 false (some (2*T+1)))) i7 (s.at ⟨0,none⟩) /\
   ∀{u:Nat} {z:aj} {f:ay} {A:ao} {ts:List Tmp},W (eH r P O m.next x L s) (m.push (.cells [ax L x.ws.length 3,I 0,I 0,I 0,I 0] 0 0 false (some (2*T+1)))) i7 (s.at ⟨0,none⟩) u z f A ts->tR (eH r P O m.next x L s) B m D z f A:=by
 have Y:x.ws.length≠0:=λe=>Z (oQ e);have a0:ax L _ 3=.slice _ _ _:=af Y;obtain⟨tyL,F⟩:=F;generalize g:eH r P O _ x L s=c;have cC:c.C=m.next:=by rw[<-g]
 have cP:c.P=P:=by rw[<-g]
 have cO:c.O=O:=by rw[<-g]
 have a2:c.wb=L.b:=by rw[<-g]
 have S:c.wv=ax L x.ws.length 3:=by rw[<-g]
 have E:c.ws=x.ws:=by rw[<-g]
 have Q:c.ln=x.ln:=by rw[<-g]
 have N:c.X0=s.X:=by rw[<-g]
 have R:c.rf=r:=by rw[<-g]
 let vs:List _:=[ax L x.ws.length 3,I 0,I 0,I 0,I 0]
 have H:vs.all one=true:=by show([ax L x.ws.length 3,I 0,I 0,I 0,I 0]:List ae).all one=true;rw[a0];rfl
 have K:=h.nr.XrN (NX.aR _ _ _) (Xyy h.wt) vs H (some (2*T+1));show ∃i7,PS c o (m.push (.cells vs 0 0 _ _)) i7 _/\∀{u:Nat} {z:aj} {f:ay} {A:ao} {ts:List Tmp},W c (m.push (.cells vs 0 0 _ _)) i7 _ _ z f A ts->tR c B m D z f A;generalize t:m.push _=J at K;have a6:J.next=m.next+1:=by rw[<-t];rfl
 have V:∀b,b<m.next->J.get b=m.get b:=λb y=>by rw[<-t,Mem.bV,af aa]
 have F1:Fb B m J:=by rw[<-t];exact Fb.push _ U
 generalize l:j.set [1] _=i7 at K;have a1:i7 [1]=⟨m.next,0,0⟩:=by rw[<-l,ay.aR]
 have hφn:∀k,k≠[1]->i7 k=j k:=λk d=>by rw[<-l,ay.aE _ _ d]
 have p:(bX r P O s).set [1] (some (.c (vs.map .v)))=aL c (s.at ⟨0,none⟩):=by rw[UF,cP,cO,R,XoC];show _=(bX r P O s).set [1] (some (.c (cc c ⟨0,none⟩)));unfold cc;rw[S];rfl
 rw[p]at K;have n:∀b,D b->∀k,aL c _ k≠none->(i7 k).b≠b:=λb y k d=>by
  obtain⟨q1,q2⟩:=G b y;by_cases e:k=[1]
  ·grind
  ·rw[hφn k e];rw[<-p,NX.aE _ _ e]at d;exact q2 k d
 have a3:∀k,aL c _ k≠none->B<=(i7 k).b:=λk d=>by
  by_cases e:k=[1]
  ·grind
  ·rw[hφn k e];rw[<-p,NX.aE _ _ e]at d;exact h.hB k d
 have M:WL c J:={
  ne:=aq
  lt:=aq
  at':=⟨0,2*L.ver+L.r,ka x.ln x.ws,0,false,tyL,aq,aq,by rw[E,Xgp];omega,λi w hw=>by rw[E]at hw;rw[aQ,Q];exact Xl5 _ _ i w hw⟩
  len:=aq
  ze:=by grind }
 refine⟨i7,{
  nr:=K
  wl:=M
  nb:=aq
  pC:=aq
  pP:=by simp[cP,hφn,h.pP]
  pO:=by simp[cO,hφn,h.pO]
  ok:=⟨kn _,λg8 hy=>(by cases hy),h.wt,h.il,by rw[N];exact Ge.refl _⟩ },fun{u z f A ts} w=>⟨F1.trans {
  next:=w.wk.next
  low:=w.wk.low
  bQ:=λg8 a b=>w.wk.bQ g8 a aa λk d=>aq
  get:=λb y=>w.wk.get b aa λk d=>aq
  lo:=w.wk.lo },λk d=>?_,λb y=>?_⟩⟩
 ·rcases w.wk.nw k d with q|⟨k0,e1,e2⟩
  ·omega
  ·grind
 ·have q1:=(G b y).1;refine⟨by rw[w.wk.get b aa (n b y),V b q1],by grind[w.wk.next],λk d=>?_⟩;rcases w.wk.nw k d with q|⟨k0,e1,e2⟩
  ·omega
  ·grind
def Xs3{C x L}(q:PS (eH r P O C x L J) o m j i5)(t:iG i5)(hB:∀k,aL (eH r P O C x L J) i5 k≠none->B<=(j k).b):LI r B P O o m j i5/\∀k,bX r P O i5 k≠none->aL (eH r P O C x L J) i5 k≠none:=by
 have a:(aL (eH r P O C x L J) i5).set [1] none=bX r P O i5:=by
  rw[UF];funext k;unfold NX.set bX;by_cases c:k=[1]
  ·rw[ah c,c,NX.aR]
  ·grind
 have d:∀k,bX r P O i5 k≠none->aL _ i5 k≠none:=λk c=>by
  rw[<-a]at c;by_cases e:k=[1]
  ·rw[e,NX.aR]at c;exact absurd rfl c
  ·rwa[NX.aE _ _ e]at c
 refine⟨{
  nr:=?_
  pP:=q.pP
  pO:=q.pO
  wt:=q.wt
  il:=q.ok.il
  hB:=λk c=>hB k (d k c)
  bk:=t },d⟩
 rw[<-a];refine q.nr.yM (λp n u w f i=>?_) (λp=>by rw[UF,NX.aE _ _ ak];exact Xyy q.wt p)
 rw[uE]at f;cases f;unfold cc at i;have:∀(g:List ae),(g.map Cl.v)[n]?≠some (.s u w):=λg h=>by
  rw[gX]at h;cases l:g[n]? with
  |none=>rw[l]at h;cases h
  |some y=>rw[l]at h;cases h
 exact this [_,_,_,_,_] i
def XfI(d)(k0:ae->ae->ae->ae->ae->ae->aj->Option Rs)(p2 V l i g:ae){bl}(h:LI false B P O o m j s)(ag:B<=m.next)(Pr)(av:∀b,Pr b->b<m.next/\∀k,bX false P O s k≠none->(j k).b≠b)(x L)(a8:x.ws≠[])(am:L.r<2)(al:∃ty,m.get L.b=some (.cells (ka x.ln x.ws) L.ver 0 false ty))(an:Pr L.b)(aA:Pr bl)(f:∃ty,m.get bl=some (.cells [I x.ind,ax L x.ws.length 3] 0 0 false ty))(b5:x.ws.length<=65536)(b6:∀w∈x.ws,w.1.length<=65536/\w.2<=65536)(a7:o+x.ws.length+3<=8589934592) :
  ∃S a G C,TH (d9 d) k0 (pt bl 0 0) (pt P 0 0) p2 V l i g m=pX (d9 d) k0 (pt C 0 0) p2 V l i g (pt P 0 0) S/\PS (eH false P O C x L s) a S G (jX (eH false P O C x L s) (s.at ⟨0,none⟩) x.ind)/\a<=o+x.ws.length+3/\iG (jX (eH false P O C x L s) (s.at ⟨0,none⟩) x.ind)/\tR (eH false P O C x L s) B m Pr S G (jX (eH false P O C x L s) (s.at ⟨0,none⟩) x.ind):=by
 have b1:x.ws.length≠0:=λe=>a8 (oQ e);have b4:ax L x.ws.length 3=.slice (some ⟨L.b,0,some 3⟩) x.ws.length (2*L.ver+L.r):=af b1;obtain⟨bi,f⟩:=f;obtain⟨i7,P1,K⟩:=VO h ag Uc Pr av x L a8 am al an b5 b6;generalize M:eH false P O m.next x L s=c at P1 K;have cC:c.C=m.next:=by rw[<-M]
 have cP:c.P=P:=by rw[<-M]
 have cO:c.O=O:=by rw[<-M]
 have bd:c.wv=ax L x.ws.length 3:=by rw[<-M]
 have a6:c.ws=x.ws:=by rw[<-M]
 have bc:c.ln=x.ln:=by rw[<-M]
 have ac:c.X0=s.X:=by rw[<-M]
 have be:gF c:=⟨by rw[<-M]⟩
 let vs:List ae:=[ax L x.ws.length 3,I 0,I 0,I 0,I 0]
 generalize b2:m.push (.cells [ax L x.ws.length 3,I 0,I 0,I 0,I 0] 0 0 false (some (2*Uc+1)))=m1 at P1 K;have k1:=W.start P1
 have uM:∀{q:Nat} {T:aj} {v:ay} {s2:ao} {ts:List Tmp},W c m1 i7 (s.at ⟨0,none⟩) q T v s2 ts->X9 false 1 (pt bl 0 0) T=some (I x.ind)/\X9 false 1 (pt bl 1 0) T=some (ax L x.ws.length 3):=fun{q T v s2 ts} w=>by have e:=((K w).2.2 bl aA).1;exact⟨Xt (by rw[e];exact f) rfl,Xt (by rw[e];exact f) rfl⟩
 have a9:X9 false 1 (pt bl 1 0) m=some (ax L x.ws.length 3):=Xt f rfl;have eb:Xc Ub [(0,1),(1,1),(2,2),(4,1)] [(0,ax L x.ws.length 3)]=some (.agg ⟨vs⟩):=by show Xc Ub [(0,1),(1,1),(2,2),(4,1)] [(0,ax L x.ws.length 3)]=some (.agg ⟨[ax L x.ws.length 3,I 0,I 0,I 0,I 0]⟩);rw[b4];exact aU rfl rfl
 have b0:(Value.cells (.agg ⟨vs⟩)).toList=vs:=rfl;have b3:0<c.ws.length:=aq;obtain⟨p,p1,b8,_,_,_,p6,_⟩:=P1.wl.ix b3;have p1:Xd 3 (ax L x.ws.length 3) (.int .i64 0)=some (p 0):=aq;obtain⟨m3,ba,D⟩:=W.XeN (l1:=[]) (k1.push Q2 (some (2*Q7+1))) (n:=2) (g8:=aZ _ (bG c 0).2) (za6:=[I c.ln,I _]) rfl rfl rW rfl;have D:W c m1 i7 (s.at ⟨0,none⟩) o m3 i7 (s.at ⟨0,none⟩) [(m1.next,0,[I c.ln,I (bG c 0).2])]:=D;have fin:∀{q:Nat} {T:aj} {v:ay} {s2:ao},W c m1 i7 (s.at ⟨0,none⟩) q T v s2 [(m1.next,0,[I c.ln,I (bG c 0).2])]->q<=o+x.ws.length+3->jZ c s2=jX c (s.at ⟨0,none⟩) x.ind->iG s2 ->
   ∃S a G C,AG (d9 d) k0 (pt c.C 0 0) (pt P 0 0) (pt m1.next 0 0) p2 V l i g T=pX (d9 d) k0 (pt C 0 0) p2 V l i g (pt P 0 0) S /\
   PS (eH false P O C x L s) a S G (jX (eH false P O C x L s) (s.at ⟨0,none⟩) x.ind)/\a<=o+x.ws.length+3/\iG (jX (eH false P O C x L s) (s.at ⟨0,none⟩) x.ind)/\tR (eH false P O C x L s) B m Pr S G (jX (eH false P O C x L s) (s.at ⟨0,none⟩) x.ind):=fun{q T v s2} w aB he aw=>by
  obtain⟨S,e1,w1⟩:=Xyq d k0 p2 V l i g w;rw[he]at w1;obtain⟨x1,x2,_⟩:=XjZ c s2;refine⟨S,q,v,m.next,?_,?_⟩
  ·grind
  ·rw[M];exact⟨w1.ps,aB,by rw[<-he];exact aw.congr x1 x2,K w1⟩
 delta TH F B U;simp only[X7,X3,a9,eb];rw[b0,Xq];show ∃S a G C,TG _ _ _ _ _ _ _ _ _ _ (m.push (.cells [ax L _ 3,I 0,I 0,I 0,I 0] 0 0 _ _))=_/\_;rw[b2];delta TG jv F Y U jb A;obtain⟨_,b7⟩:=uM k1;simp only[X7,X3,b7,p1,b8,p6,Xq];rw[ba,Xj];delta Qxw F B jk A;obtain⟨l0,_⟩:=uM D;have e0:bin .eql true true .int (I x.ind) (.int .i64 0)=some (.bool (decide (x.ind=0))):=nW x.ind 0;have e1:bin .eql true true .int (I x.ind) (.int .i64 1)=some (.bool (decide (x.ind=1))):=nW x.ind 1;simp only[X7,X3,aQ,l0,e0];delta Qxv C F L E jc B Z jk jj A;rw[<-cC];have z:bU (s.at ⟨0,none⟩).X:=h.wt.root;by_cases y:x.ind=0
 ·rw[bj y,X6];obtain⟨m4,a0,k4⟩:=D.XdU 0 .nilFunc aa rfl rfl (u:={ s.at ⟨0,none⟩with aF:=0 }) (by show[qm c 0,_,_]=[_,_,_];unfold qm;rw[ah rfl]) rfl rfl h.il;have a0:Xe 1 (pt P 12 0) .nilFunc m3=some m4:=by rwa[<-cP]
  obtain⟨v',m5,a5,bb,s5,J,a2,a3,rfl,a4,rfl⟩:=XlU k4.ps aq d;have J:TA (d+9) I9 [pt P 0 0,pt c.C 0 0] m4=some (.tuple ⟨[]⟩,m5):=by rwa[<-cP]
  simp only[Xg,X7,X3,a0,Xj,J,X4];exact fin (k4.go a2 a3) (by rw[a6]at a4;omega) (by unfold jX;rw[ah y]) (Xzm _ z rfl a2 rfl)
 ·rw[bJ y,X5];simp only[l0,X7,X3,aQ,e1];have R:X9 false 1 (pt P 12 0) m3=some (qm c s.aF):=by rw[<-cP];exact D.ps.yU 0 _ rfl
  have bad:∀Q:¬(x.ind=1/\s.aF≠0),∃S a G C,Eb (d9 d) k0 (.bool false) (pt P 0 0) (pt c.C 0 0) (pt m1.next 0 0) p2 V l i g m3=pX (d9 d) k0 (pt C 0 0) p2 V l i g (pt P 0 0) S /\
   PS (eH false P O C x L s) a S G (jX (eH false P O C x L s) (s.at ⟨0,none⟩) x.ind)/\a<=o+x.ws.length+3/\iG (jX (eH false P O C x L s) (s.at ⟨0,none⟩) x.ind)/\tR (eH false P O C x L s) B m Pr S G (jX (eH false P O C x L s) (s.at ⟨0,none⟩) x.ind):=λQ=>by
   delta Eb H C L jd jc A;have lf:X9 _ 2 _ m3=some (aZ _ _):=D.fi br rW rfl;have ⟨m4,J,a2,a3⟩:=EM D.ps (bG c 0).2 70 ak (d+8);simp only[lf,X3,J,X4];exact fin (D.go a2 a3) aa (by unfold jX;rw[af y,af (show ¬(x.ind=1/\(s.at ⟨0,none⟩).aF≠0) from Q)];rfl) (h.bk.congr rfl rfl)
  by_cases N:x.ind=1
  ·rw[bj N,X6];simp only[Xg,X7,X3,aQ,R,Xxf];by_cases t:s.aF=0
   ·rw[bJ (λe=>e t)];exact bad (λe=>e.2 t)
   ·rw[bj t];delta Eb H C L jd jc A;obtain⟨v',m5,a5,bb,s5,J,a2,a3,rfl,a4,rfl⟩:=Xxw D.ps (by rwa[a6]) (h.bk.congr rfl rfl) t d;have J:o9 _ (qm c s.aF) _ m3=some _:=J;simp only[Xg,X7,X3,R,J,X4];exact fin (D.go a2 a3) aq (by unfold jX;rw[af y,ah ⟨N,t⟩]) (Xnt _ z (h.bk.congr rfl rfl) t ac a2 rfl)
  ·rw[bJ N,X5];exact bad (λe=>N e.1)
instance isF_mk(C P O wb:Nat)(wv:Value)(ws:List Wd)(ln:Nat)(X0:NX):gF ⟨C,P,O,wb,wv,ws,ln,X0,false⟩:=⟨rfl⟩
def Mn(x:Ln):Cx:=⟨0,0,0,0,.nilFunc,x.ws,x.ln,λ_=>none,false⟩
section
variable (c:Cx)
def fj(c:Cx):Cx:=⟨0,0,0,0,.nilFunc,c.ws,c.ln,λ_=>none,false⟩
def Xz8:cH c=cH (fj c):=rfl
def XrL:bG c=bG (fj c):=rfl
def E5:Xa c=Xa (fj c):=rfl
def MH:bh c=bh (fj c):=rfl
def XkN:lN c=lN (fj c):=rfl
def Xzp:bB c=bB (fj c):=rfl
def XmY:dG c=dG (fj c):=rfl
def UC:aP c=aP (fj c):=rfl
def EC:Xb c=Xb (fj c):=rfl
def Bs:Xy c=Xy (fj c):=rfl
def XmN:ll c=ll (fj c):=rfl
def LB:c8 c=c8 (fj c):=rfl
def UL:iX c=iX (fj c):=rfl
def XiM:j9 c=j9 (fj c):=bY
def XjR:iy c=iy (fj c):=by unfold iy;rw[MH,Bs,LB,UL]
def XgG:fR c=fR (fj c):=by unfold fR;rw[MH,EC]
def Xpm:ib c=ib (fj c):=bY
def LK:fu c=fu (fj c):=rfl
def Wf:∀f cu,cM c f cu=cM (fj c) f cu
 |0,cu=>rfl
 |f+1,cu=>by rw[vD,vD];rw[show eG c cu=eG (fj c) cu from rfl,Wf f,Xz8 c,E5 c]
def Xyz(k y):∀f s,ir c k y f s=ir (fj c) k y f s
 |0,s=>rfl
 |f+1,s=>by unfold ir;dsimp only;rw[EC c,Xz8 c,Xyz k y f]
def XgX:og c=og (fj c):=by unfold og;rw[XmY,Bs,LB,MH,UL,XmN,EC]
def XrJ(s):rK c s=rK (fj c) s:=by unfold rK;simp only[Wf c];rw[E5 c,XgX c,Xzp c,XiM c,UC c,XkN c,Bs c,LK c];rfl
def XmQ(s):qE c s=qE (fj c) s:=by unfold qE;dsimp only;rw[XrJ c];rfl
def XhH(s):rh c s=rh (fj c) s:=by unfold rh;rw[E5 c,Xzp c,Bs c,LB c,LK c,UC c,EC c,XrL c];rfl
def XlB(s):nk c s=nk (fj c) s:=by unfold nk;rw[UC c,MH c,EC c,XjR c,XgG c]
def XnK(s k b):gA c s k b=gA (fj c) s k b:=by unfold gA;simp only[Wf c,Xyz c];rfl
def XnN(s):oB c s=oB (fj c) s:=by unfold oB;simp only[XnK c];rfl
def XlF(s):ry c s=ry (fj c) s:=by unfold ry;rw[E5 c,Bs c,Xpm c,LK c]
def XrK(s):ui c s=ui (fj c) s:=by rfl
def XnA(s):rG c s=rG (fj c) s:=by unfold rG;simp only[XrK c];rw[E5 c,Bs c,LB c,UL c,Xpm c,LK c]
def XaD(s ind):jX c s ind=jX (fj c) s ind:=by unfold jX o8;simp only[XmQ c,XhH c,XlB c,XnN c,XlF c,XnA c];rfl
end
def sS(x:Ln)(s:ao):ao:=jX (Mn x) (s.at ⟨0,none⟩) x.ind
def mY:List Ln->ao->Except (Nat × Nat × Int) ao
 |[],s=>.ok s
 |x::l,s=>match(sS x s).cu.er with|some e=>.error (x.ln,e.1,e.2)|none=>mY l (sS x s)
def lS:List Ln->Nat
 |[]=>0
 |x::l=>x.ws.length+3+lS l
abbrev zD:ae:=.agg ⟨Q8⟩
def Yz(a g8 z)(m:aj):(ob (ob (some g8) λv=>ob (ob (some z) λv=>ob (some [a]) λl=>some (v::l)) λl=>some (v::l)) λl=>some (bZ l,m))=some (.tuple ⟨[g8,z,a]⟩,m):=aU rfl rfl
structure jS (m:Mem) (p2 V:Nat):Prop where
 l2:p2<m.next
 l3:V<m.next
 ne:p2≠V
 g2:∃cs ty,m.get p2=some (.cells cs 0 0 false ty)/\cs.length=12
 g3:∃cs ty,m.get V=some (.cells cs 0 0 false ty)/\cs.length=2
def vN(h:jS m p2 V)(o:B<=p2)(p:B<=V)(d:List ae)(hd:d.length=12)(q:d.all one=true)(a b):∃e f,Xe 12 (pt p2 0 0) (.agg ⟨d⟩) m=some e/\Xe 2 (pt V 0 0) (aZ a b) e=some f/\X9 true 12 (pt p2 0 0) f=some (.agg ⟨d⟩)/\X9 true 2 (pt V 0 0) f=some (aZ a b)/\Fb B m f /\
  (∀c,c≠p2->e.get c=m.get c)/\(∀c,c≠p2->c≠V->f.get c=m.get c):=by
 obtain⟨s,z,g2,A⟩:=h.g2;obtain⟨j,r,g3,C⟩:=h.g3;obtain⟨e,w,g⟩:=iJ (y:=0) (n:=12) (v:=.agg ⟨d⟩) (c':=d) g2 hd c7 aa q (by show[]++d++s.drop (0+12)=d;rw[rS aa];simp)
 have k:e.get V=some (.cells j 0 0 false r):=by rw[g.get,Mem.aX,af h.ne];exact g3
 obtain⟨f,x,i⟩:=iJ (y:=0) (n:=2) (v:=aZ a b) (c':=[I a,I b]) k rfl c7 aa rfl (by rw[rS aa];rfl)
 refine⟨e,f,w,x,?_,?_,(((Fb.refl B m).put _ o).jL g).trans (((Fb.refl B e).put _ p).jL i),λc l=>by rw[g.get,Mem.aX,af (bq l)],λc l u=>by rw[i.get,Mem.aX,af (bq u),g.get,Mem.aX,af (bq l)]⟩
 ·exact Xw (by rw[i.get,Mem.aX,af (bq h.ne),g.get,Mem.aX,ah rfl]) aa aq
 ·exact Xw (by rw[i.get,Mem.aX,ah rfl]) ar rfl
def Vy:∀l i x,l[i]?=some x->∃t,(oo l).drop (i*2)=I x.1.ind::ax x.2 x.1.ws.length 3::t
 |[],i,x,h=>by simp at h
 |a::l,0,x,h=>by cases h;exact⟨oo l,rfl⟩
 |a::l,i+1,x,h=>by
  obtain⟨t,b⟩:=Vy l i x h;refine⟨t,?_⟩;rw[<-b];unfold oo
  grind
def PS.pos(q:PS c o m j s){er}(d:s.cu.er=some er)(f:m3.get c.C=m.get c.C):X9 true 2 (pt c.C 2 0) m3=some (aZ c.ln er.1)/\X9 false 1 (pt c.C 4 0) m3=some (.int .i64 er.2):=by
 obtain⟨g,a⟩:=q.nr.at' [1] _ (uE _ _);rw[q.pC]at a;have b:cells j [1] (cc c s.cu)=[c.wv,I s.cu.pl,I c.ln,I er.1,I er.2]:=by unfold cc Cu.line Cu.cW Cu.e;rw[d];exact U6 j [1] [c.wv,I s.cu.pl,I c.ln,I er.1,I er.2]
 rw[b]at a;exact⟨Xw (by rw[f];exact a) ar rfl,Xt (by rw[f];exact a) rfl⟩
def E6(a b c):again (aI (some (aZ a b)) c) (aZ a b)=true:=by show fN 8 (aZ a b) (aZ a b)=true;simp[fN,fN.vsames]
def Xgu(d){B P O p2 V}(L l)(hl:l.length<=4194304)(hw:∀x∈l,x.1.ws.length<=65536/\∀w∈x.1.ws,w.1.length<=65536/\w.2<=65536)(T:B<=p2)(W:B<=V):∀n i f o (m:aj) (j) (s),i+n=l.length->n<f->B<=m.next ->
  LI false B P O o m j s->gv 0 m L l->jS m p2 V->o+lS ((l.drop i).map (·.1))<=8589934592 ->
  (∀b,(b=p2\/b=V\/(l≠[]/\b=L.b)\/∃x∈l,b=x.2.b)->∀k,bX false P O s k≠none->(j k).b≠b) ->
  (∀e,mY ((l.drop i).map (·.1)) s=.error e->(e.2.2≠0/\e.2.2≠5)/\∃S,o5 (d9 d) f (I i) (I l.length) (ax L l.length 2) (pt P 0 0) (pt p2 0 0) (pt V 0 0) m=some (.tuple ⟨[zD,aZ e.1 e.2.1,.int .i64 e.2.2]⟩,S)/\Fb B m S) /\
  (∀i5,mY ((l.drop i).map (·.1)) s=.ok i5->∃S y N,o5 (d9 d) f (I i) (I l.length) (ax L l.length 2) (pt P 0 0) (pt p2 0 0) (pt V 0 0) m=AH (d9 d) (pt P 0 0) (pt p2 0 0) (pt V 0 0) S/\Fb B m S/\LI false B P O y S N i5/\jS S p2 V/\y<=o+lS ((l.drop i).map (·.1))/\(∀k,bX false P O i5 k≠none->(N k).b≠p2/\(N k).b≠V))
 |0,i,f+1,o,m,j,s,e,hf,Z,p,hO,D,c,a=>by
  have:i=l.length:=aa;subst this;have e1:o5 (d9 d) (f+1) (I l.length) (I l.length) (ax L l.length 2) (pt P 0 0) (pt p2 0 0) (pt V 0 0) m=AH (d9 d) (pt P 0 0) (pt p2 0 0) (pt V 0 0) m:=by unfold o5;delta B ji;simp only[Qb,X3,j1,j4];delta TI L;rw[X5]
  rw[FY];refine⟨λe he=>(by cases he),λi5 hS=>?_⟩;cases hS;exact⟨m,o,j,e1,.refl _ _,p,D,Ch _ _,λk H=>⟨a p2 (.inl rfl) k H,a V (.inr (.inl rfl)) k H⟩⟩
 |n+1,i,f+1,o,m,j,s,e,hf,Z,p,hO,D,c,a=>by
  have hi:i<l.length:=aa;have ab:l≠[]:=λe=>by rw[e]at hi;exact absurd hi (vb _)
  have b0:decide (((i:Nat):Int)<((l.length:Nat):Int))=true:=bj aa;have hd:l.drop i=l[i]::l.drop (i+1):=mB hi;have g:l[i]∈l:=Cf hi;generalize hx:l[i]=x at hd g;have aB:l[i]?=some x:=by rw[<-hx];exact dX hi
  have ⟨_,oL,oR,bi,oG⟩:=hO.out ab;obtain⟨⟨x1,_,x3,x4,bb,x5⟩,_⟩:=hO.ls x g;have ⟨b8,b9⟩:=hw x g;rw[hd,lx]at c;have c:o+(x.1.ws.length+3+lS ((l.drop (i+1)).map (·.1)))<=8589934592:=c
  have ⟨t,ht⟩:=Vy l i x aB;have ix:Xd 2 (ax L l.length 2) (I i)=some (pt L.b (i*2) L.ver):=eU L oR _ 2 i .i64 hi;have lg:X9 true 2 (pt L.b (i*2) L.ver) m=some (.agg ⟨[I x.1.ind,ax x.2 x.1.ws.length 3]⟩):=Xw oG (by rw[Xhg];omega) (by rw[ht];rfl);have ba:x.1.ws.length≠0:=λe=>x1 (oQ e);have b7:ax x.2 x.1.ws.length 3=.slice (some ⟨x.2.b,0,some 3⟩) x.1.ws.length (2*x.2.ver+x.2.r):=af ba;obtain⟨m1,n1,n2,n3,n4⟩:=kR [] m (some (2*AS+1)) ue (v:=.agg _) (n:=2) rfl rfl (by show([I x.1.ind,ax x.2 x.1.ws.length 3]:List ae).all one=true;rw[b7];rfl);have F:∀b,b<m.next->m1.get b=m.get b:=λb hb=>n2.get b hb ar;have F1:Fb B m m1:=n2.iP Z;have a8:LI false B P O o m1 j s:={ p with nr:=p.nr.same aa λk H=>F _ (p.nr.hi k H) }
  let Pr:Nat->Prop:=λb=>b=m.next\/b=p2\/b=V\/b=L.b\/∃g8∈l,b=g8.2.b;have av:∀b,Pr b->b<m1.next/\∀k,bX false P O s k≠none->(j k).b≠b:=λb hb=>by
   rcases hb with rfl|rfl|rfl|rfl|⟨g8,hy,rfl⟩
   ·exact⟨aa,λk H=>Nat.ne_of_lt (p.nr.hi k H)⟩
   ·exact⟨by have:=D.l2;omega,a _ (.inl rfl)⟩
   ·exact⟨by have:=D.l3;omega,a _ (.inr (.inl rfl))⟩
   ·exact⟨aa,a _ (.inr (.inr (.inl ⟨ab,rfl⟩)))⟩
   ·exact⟨by have:=(hO.ls g8 hy).1.2.2.1;omega,a _ (.inr (.inr (.inr ⟨g8,hy,rfl⟩)))⟩
  obtain⟨K,bn,bc,C,q1,z,q3,q4,qA⟩:=XfI d (o5 (d9 d) f) (pt p2 0 0) (pt V 0 0) (I i) (I l.length) (ax L l.length 2) a8 aa Pr av x.1 x.2 x1 x4 ⟨bb,by rwa[F _ x3]⟩ (.inr (.inr (.inr (.inr ⟨x,g,rfl⟩)))) (.inl rfl) ⟨_,n4⟩ b8 b9 aa;rw[XaD]at z q4 qA;have be:jX (fj (eH false P O C x.1 x.2 s)) (s.at ⟨0,none⟩) x.1.ind=sS x.1 s:=rfl;have ⟨a9,ac⟩:=Xs3 z q4 qA.2.1;obtain⟨q6,_,G⟩:=qA;have e0:o5 (d9 d) (f+1) (I i) (I l.length) (ax L l.length 2) (pt P 0 0) (pt p2 0 0) (pt V 0 0) m=pX (d9 d) (o5 (d9 d) f) (pt C 0 0) (pt p2 0 0) (pt V 0 0) (I i) (I l.length) (ax L l.length 2) (pt P 0 0) K:=by refine aU ?_ q1;unfold o5;delta B ji;simp only[Qb,X3,b0];delta TI L;rw[X6];delta Qxx jd Y U jb;simp only[ix,lg,X3,Xq,n1,Xj,X4]
  have F2:Fb B m K:=F1.trans q6;have R:jS K p2 V:={
   l2:=(G p2 (.inr (.inl rfl))).2.1
   l3:=(G V (.inr (.inr (.inl rfl)))).2.1
   ne:=D.ne
   g2:=by rw[(G p2 (.inr (.inl rfl))).1,F _ D.l2];exact D.g2
   g3:=by rw[(G V (.inr (.inr (.inl rfl)))).1,F _ D.l3];exact D.g3 }
  have le:X9 false 1 (pt C 4 0) K=some (I (sS x.1 s).cu.e):=z.ld rfl;rw[hd,lx,e0];unfold mY;cases u:(sS x.1 s).cu.er with
  |some er =>
   refine⟨λe he=>?_,λi5 hS=>(by cases hS)⟩;cases he;have J:er.2≠0:=z.ee er u;have a0:C≠p2:=λe=>(G p2 (.inr (.inl rfl))).2.2 [1] (by rw[uE];simp) (by rw[z.pC];exact e);have am:C≠V:=λe=>(G V (.inr (.inr (.inl rfl)))).2.2 [1] (by rw[uE];simp) (by rw[z.pC];exact e);obtain⟨m3,m4,M,a2,a3,a4,a5,Q,a7⟩:=vN R T W Q8 rfl rfl x.1.ln er.1;obtain⟨b1,b2⟩:=z.pos u rfl;have ⟨b3,b4⟩:=z.pos u (m3:=m3) (Q C a0);have ⟨b5,b6⟩:=z.pos u (m3:=m4) (a7 C a0 am);have en:bin .neq true true .int (.int .i64 er.2) (.int .i64 0)=some (.bool true):=by rw[eg,bj J]
   have eb:Xc _ [(0,1),(1,1),(2,1),(3,1),(4,1),(5,1),(6,1),(7,1),(8,1),(9,1),(10,1),(11,1)] []=some zD:=aU rfl rfl;refine⟨⟨J,z.e5 er u⟩,m4,?_,F2.trans a5⟩;delta pX O jo E jn jd X je jc B Y ja A;simp only[Xg,X7,X3,b2,en,X6,eb,b1,M,Xj,b3,b4,E6,kQ,fO,Xv,a2,b6,a3,a4];rfl
  |none =>
   have aA:(sS x.1 s).cu.e=0:=by unfold Cu.e;rw[u]
   rw[aA]at le;have en:bin .neq true true .int (I 0) (.int .i64 0)=some (.bool false):=bY;have ei:bin .add true true .int (I i) (.int .i64 1)=some (I (i+1:Nat)):=by rw[cz];have:((i:Nat):Int)+1=((i+1:Nat):Int):=aa;rw[this,wrap64 _ aa]
   have al:pX (d9 d) (o5 (d9 d) f) (pt C 0 0) (pt p2 0 0) (pt V 0 0) (I i) (I l.length) (ax L l.length 2) (pt P 0 0) K=o5 (d9 d) f (I (i+1:Nat)) (I l.length) (ax L l.length 2) (pt P 0 0) (pt p2 0 0) (pt V 0 0) K:=by delta pX O jo E jn jd X je jc B Y ja A;simp only[Xg,X7,X3,aQ,le,en,X5,ei]
   rw[al];have an:gv 0 K L l:={
    out:=λq=>by
     have:=G L.b (.inr (.inr (.inr (.inl rfl))))
     grind
    ls:=λg8 hy=>by obtain⟨⟨M,a2,a3,a4,ty,a5⟩,Q⟩:=hO.ls g8 hy;have:=G _ (.inr (.inr (.inr (.inr ⟨g8,hy,rfl⟩))));exact⟨⟨M,a2,this.2.1,a4,ty,aq⟩,Q⟩ }
   obtain⟨i1,i2⟩:=Xgu d L l hl hw T W n (i+1) f _ K bc _ aa aa (by have:=q6.next;omega) a9 an R aa (λb hb k H=>by
    have aw:Pr b:=by
     rcases hb with rfl|rfl|⟨_,rfl⟩|h
     ·exact .inr (.inl rfl)
     ·exact .inr (.inr (.inl rfl))
     ·exact .inr (.inr (.inr (.inl rfl)))
     ·exact .inr (.inr (.inr (.inr h)))
    exact(G b aw).2.2 k (ac k H));refine⟨λe he=>?_,λi5 hS=>?_⟩
   ·obtain⟨hn,S,M,a2⟩:=i1 e he;exact⟨hn,S,M,F2.trans a2⟩
   ·obtain⟨S,y,N,M,a2,a3,a4,a5,Q⟩:=i2 i5 hS;refine⟨S,y,N,M,F2.trans a2,a3,a4,?_,Q⟩;show y<=o+(x.1.ws.length+3+lS _);omega
variable {c:Cx}{G m:Mem}{Q j:ay}{J s u t:ao}{o h:Nat}{ts:List Tmp}{x:Option Rs}{i8:Value->Nat->ay->ao->Prop}{v:Value}{cu:Cu}
def XgC(h:cH c cu=true):cu.er=none:=by unfold cH at h;simp_all
def Wj(t:jS m p2 V)(f:B<=p2)(g:B<=V){b a k}(i:∀m3,m3.get b=m.get b->X9 true 2 p m3=some (aZ a k))(e:b≠p2)(s:b≠V) :
  ∃c d,Xe 12 (pt p2 0 0) zD m=some c/\Xe 2 (pt V 0 0) (aZ a k) c=some d/\X9 true 12 (pt p2 0 0) d=some zD/\X9 true 2 (pt V 0 0) d=some (aZ a k)/\Fb B m d/\X9 true 2 p c=some (aZ a k)/\X9 true 2 p m=some (aZ a k)/\c.get b=m.get b/\d.get b=m.get b:=by
 obtain⟨c,d,j,l,n,o,q,h,r⟩:=vN t f g Q8 rfl rfl a k;exact⟨c,d,j,l,n,o,q,i c (h b e),i m rfl,h b e,r b e s⟩
def Fl:Xc Q8 [(0,1),(1,1),(2,1),(3,1),(4,1),(5,1),(6,1),(7,1),(8,1),(9,1),(10,1),(11,1)] []=some zD:=aU rfl rfl
def PS.XdT[r:cG c](h:PS c o m j s){y i}(k:(y=15/\i=4)\/(y=16/\i=5)):X9 false 1 (pt c.P (12+i) 0) m=some (.bool (dF s.X [0] y)):=by
 obtain⟨l,a,e⟩:=h.wt.root;obtain⟨d,f,g⟩:=h.wt.get a rfl (y:=y) aa;have hf:bo 0 y=some .b:=by rcases k with⟨rfl,_⟩|⟨rfl,_⟩<;>rfl
 rw[hf]at g;cases d with
 |s n t=>trivial
 |v p =>
  obtain⟨z,rfl⟩:=g;rw[LL a f];have q:ey l y=.v (.bool z):=by unfold ey;rw[f];rfl
  refine h.rr a aa ?_;rw[gN]
  grind
def Xtj[r:cG c](d)(k0:ae->ae->ae->ae->ae->aj->Option Rs)(p5:ae){i p2 V bf B:Nat}(hi:i<=4194304){mm:aj}(k:W c G Q J o m j s [(bf,0,[I c.ln,I (bG c 0).2])])
  (aw:∀{b0:Nat} {H:aj} {aB:ay} {s2:ao} {ts:List Tmp},W c G Q J b0 H aB s2 ts->Fb B mm H/\jS H p2 V) (v:B<=p2) (w:B<=V) (nb:bf≠p2/\bf≠V/\c.C≠p2/\c.C≠V) (h1:s.cu=t.cu) (h2:t.cu.er.isNone=true->s=t) :
  (∀e,(jZ c t).cu.er=some e->(e.2≠0/\e.2≠5)/\∃S,Af (d9 d) k0 (pt c.C 0 0) (pt p2 0 0) (pt V 0 0) (pt c.P 0 0) (pt bf 0 0) (I i) p5 m=some (.tuple ⟨[zD,aZ c.ln e.1,.int .i64 e.2]⟩,S)/\Fb B mm S) /\
  ((jZ c t).cu.er=none->s=t/\jZ c t=t/\Af (d9 d) k0 (pt c.C 0 0) (pt p2 0 0) (pt V 0 0) (pt c.P 0 0) (pt bf 0 0) (I i) p5 m=k0 (I (i+1:Nat)) p5 (pt c.P 0 0) (pt p2 0 0) (pt V 0 0) m):=by
 obtain⟨n1,n2,n3,n4⟩:=nb
 have err:∀s1 D,W c G Q J o D j s1 [(bf,0,[I c.ln,I (bG c 0).2])]->∀e,s1.cu.er=some e->(e.2≠0/\e.2≠5)/\∃S,DD (d9 d) k0 (pt c.C 0 0) (pt p2 0 0) (pt V 0 0) (pt c.P 0 0) (pt bf 0 0) (I i) p5 D=some (.tuple ⟨[zD,aZ c.ln e.1,.int .i64 e.2]⟩,S)/\Fb B mm S:=λs1 D a e f=>by
  obtain⟨F,hA⟩:=aw a;have x:=a.ps.ee e f;obtain⟨m3,m4,K,M,N,R,T,U,Z,a8,a9⟩:=Wj hA v w (λm3 l=>(a.ps.pos f l).1) n3 n4;refine⟨⟨x,a.ps.e5 e f⟩,m4,?_,F.trans T⟩;have en:bin .neq true true .int (.int .i64 e.2) (.int .i64 0)=some (.bool true):=by rw[eg,bj x]
  delta DD O jo E jn jd X je jc B Y ja A;simp only[Xg,X7,X3,(a.ps.pos f rfl).2,en,X6,Fl,Z,K,Xj,U,(a.ps.pos f a8).2,E6,kQ,fO,Xv,M,(a.ps.pos f a9).2,N,R];trivial
 have hl:TA (d+9) _ _ m=some _:=Mj k.ps _;delta Af C L A;simp only[hl,X4];rw[h1];unfold jZ;dsimp only;by_cases l:cH c t.cu=true
 ·
  rw[l,X6,ah rfl];obtain⟨D,x1,x2,x3⟩:=nV k.ps (d+8);have a:=k.go x2 x3;rw[h1]at x1 a;have hn:=XgC l;have hw:(Xa c t.cu).2={ t.cu with pl:=t.cu.pl+1 }:=by unfold Xa;rw[ah l]
  rw[hw]at a;obtain⟨H,y1,y2,y3⟩:=kS a.ps (λ_=>Cg _) 130 ak (d+8);have hb:(cA c ({ t.cu with pl:=t.cu.pl+1 }) 130).er=some ((bG c t.cu.pl).2,130):=by unfold cA cB rv;rw[ah (by show t.cu.er.isNone=true;rw[hn];rfl)];show some ((bG c (max (t.cu.pl+1) 1-1)).2,_)=_;rw[show max (t.cu.pl+1) 1-1=t.cu.pl by omega]
  have hf:∀(u:ao) cW e,u.cu.er.isNone=false->(cB _ cW e).er=u.cu.er:=λu cW e h=>by unfold cB;rw[af (by rw[h];simp)]
  have ag:(cB t.cu (bG c t.cu.pl).2 130).er=some ((bG c t.cu.pl).2,130):=by unfold cB;rw[ah aq]
  have f:(if dF (t.at (cB t.cu (bG c t.cu.pl).2 130)).X [0] 15=true then(t.at (cB t.cu (bG c t.cu.pl).2 130)).at (cB (t.at (cB t.cu (bG c t.cu.pl).2 130)).cu (bG c 0).2 7)else if dF (t.at (cB t.cu (bG c t.cu.pl).2 130)).X [0] 16=true then(t.at (cB t.cu (bG c t.cu.pl).2 130)).at (cB (t.at (cB t.cu (bG c t.cu.pl).2 130)).cu (bG c 0).2 120)else t.at (cB t.cu (bG c t.cu.pl).2 130)).cu.er=some ((bG c t.cu.pl).2,130):=by
   generalize hu:t.at (cB t.cu (bG c t.cu.pl).2 130)=u;have n:u.cu.er=some ((bG c t.cu.pl).2,130):=by rwa[<-hu]
   have y:u.cu.er.isNone=false:=by rw[n];rfl
   split
   ·exact(hf u _ _ y).trans n
   ·split
    ·exact(hf u _ _ y).trans n
    grind
  rw[f];refine⟨λe q=>?_,λq=>by cases q⟩;cases q;obtain⟨z,S,z1,z2⟩:=err _ H (a.go y2 y3) _ hb;refine⟨z,S,?_,z2⟩;have x1:TA (d+9) _ _ m=some _:=x1;have y1:TA (d+9) _ _ D=some _:=y1;simp only[x1,y1,X4];exact z1
 ·have l:cH c t.cu=false:=by simpa using l
  rw[l,X5,af Nb];cases b:t.cu.er with
  |some e0 =>
   have hf:∀cW e,(cB _ cW e).er=some e0:=λcW e=>by unfold cB;rw[af (by rw[b];simp)];exact b
   have f:(if dF t.X [0] 15=true then t.at (cB t.cu (bG c 0).2 7)else if dF t.X [0] 16=true then t.at (cB t.cu (bG c 0).2 120)else t).cu.er=some e0:=by
    split
    ·exact hf _ _
    ·split
     ·exact hf _ _
     omega
   rw[f];refine⟨λe q=>?_,λq=>by cases q⟩;cases q;exact err s m k e0 aq
  |none =>
   have al:=h2 aq;subst al;have hf:∀cW e,(cB _ cW e).er=some _:=λcW e=>by unfold cB;rw[ah (by rw[b];rfl)]
   have l4:X9 false 1 (pt c.C 4 0) m=some (I 0):=by have:=k.ps.lq;unfold Cu.e at this;rwa[b]at this
   have en:bin .neq true true .int (I 0) (.int .i64 0)=some (.bool false):=by rw[eg];rfl
   have am:X9 _ 1 (pt c.P 16 0) m=some _:=k.ps.XdT (.inl ⟨rfl,rfl⟩);have av:X9 _ 1 (pt c.P 17 0) m=some _:=k.ps.XdT (.inr ⟨rfl,rfl⟩);obtain⟨F,hA⟩:=aw k;obtain⟨m3,m4,K,M,N,R,T,U,Z,a8,a9⟩:=Wj hA v w (p:=pt bf 0 0) (λm3 l=>by obtain⟨ty,g⟩:=k.at' (bf,0,[I c.ln,I (bG c 0).2]) br;exact Xw (by rw[l];exact g) rW rfl) n1 n2
   delta DD O jo L E jn jd X je jc B Y jl ja A;simp only[Xg,X7,X3,l4,en,X5,am,av];by_cases g:dF s.X [0] 15=true
   ·rw[g,ah rfl,X6];refine⟨λe q=>?_,λq=>by rw[show(s.at (cB _ _ 7)).cu.er=_ from hf _ _]at q;cases q⟩;rw[show(s.at (cB _ _ 7)).cu.er=_ from hf _ _]at q;cases q;refine⟨(show(7)≠0/\(7)≠5 by decide),m4,?_,F.trans T⟩;simp only[Fl,X3,Z,K,Xj,U,E6,fO,Xv,M,N,R];rfl
   ·have g:dF s.X [0] 15=false:=by simpa using g
    rw[g,af Nb,X5];by_cases g2:dF s.X [0] 16=true
    ·rw[g2,ah rfl,X6];refine⟨λe q=>?_,λq=>by rw[show(s.at (cB _ _ 120)).cu.er=_ from hf _ _]at q;cases q⟩;rw[show(s.at (cB _ _ 120)).cu.er=_ from hf _ _]at q;cases q;refine⟨(show(120)≠0/\(120)≠5 by decide),m4,?_,F.trans T⟩;simp only[Fl,X3,Z,K,Xj,U,E6,fO,Xv,M,N,R];rfl
    ·have g2:dF s.X [0] 16=false:=by simpa using g2
     rw[g2,af Nb,X5];refine⟨λe q=>(by rw[b]at q;cases q),λ_=>⟨trivial,rfl,?_⟩⟩;have ei:bin .add true true .int (I i) (.int .i64 1)=some (I (i+1:Nat)):=by rw[cz];have:((i:Nat):Int)+1=((i+1:Nat):Int):=aa;rw[this,wrap64 _ aa]
     simp only[ei,X3]
end Go.Ab.Sh
end
