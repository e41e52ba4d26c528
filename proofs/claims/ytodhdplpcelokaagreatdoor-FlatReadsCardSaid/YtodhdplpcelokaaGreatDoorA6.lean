/-
  What the functions of the program answer, at every text and every question. No conditions.
-/
import Derived.Test.YtodhdplpcelokaaGreatDoorA5
import Derived.Test.YtodhdplpcelokaaGreatDoorA0
import Derived.Test.YtodhdplpcelokaaGreatDoorAb5
import Derived.Shelf.SlSortCmp.NoneTotal
import Derived.Test.YtodhdplpcelokaaGreatDoorA1
set_option linter.all false
set_option maxRecDepth 100000
noncomputable section
namespace Go.Ab.Sh
open Go Go.Ab Go.Lib
variable {K K' ws zb5:List ai}{X M za0:NX}{a N' b f y o' p q:Nat}{bt n name t' w:ai}{cs l l9:List Cl}{e:Int}{i:Option Nat}{k':Key}{g8 z:Cu}{yl:List Value}
variable {c:Cx}{G m:Mem}{Q j:ay}{J s u t:ao}{o h:Nat}{ts:List Tmp}{x:Option Rs}{i8:Value->Nat->ay->ao->Prop}{v:Value}{cu:Cu}
def pc(c:Cx)(s:ao)(ind:Nat):ao:=if 1<ind\/(ind=1/\s.rs.bt=[])then s.at (cB s.cu (bG c 0).2 70)else if ind=0 then mw c { s with aF:=0,rs:={ s.rs with bt:=[] } }else sM c s
def ek(c:Cx)(s:ao)(ind:Nat):ao:=jZ c (pc c s ind)
instance isR_mk(C P O wb:Nat)(wv:Value)(ws:List Wd)(ln:Nat)(X0:NX):cG ⟨C,P,O,wb,wv,ws,ln,X0,true⟩:=⟨rfl⟩
theorem XmR(a:Nat):bin .gtr true true .int (I a) (.int .i64 1)=some (.bool (decide (1<a))):=by rw[iT];congr 2;rw[gW];omega
theorem Xwq(d:Nat)(k0:ae->ae->ae->ae->ae->aj->Option Rs){B P O p2 V i N:Nat}{Lo:Lc}(h:LI true B P O o m j s)(be:B<=m.next)(J:Nat->Prop)(bv:∀b,J b->b<m.next/\∀k,bX true P O s k≠none->(j k).b≠b)(x:Ln)(L:Lc)(b5:x.ws≠[])(bi:L.r<2)(bf:∃ty,m.get L.b=some (.cells (ka x.ln x.ws) L.ver 0 false ty))(bn:J L.b)(bs:J Lo.b)(Q:∃cs ty,m.get Lo.b=some (.cells cs Lo.ver 0 false ty)/\cs[i*2]?=some (I x.ind)/\cs[i*2+1]?=some (ax L x.ws.length 3))(c2:Lo.r<2)(bE:i<N)(hN:N<=4194304)(hA:jS m p2 V)(b7:J p2)(b8:J V)(b1:B<=p2)(b2:B<=V)(c5:x.ws.length<=65536)(c9:∀w∈x.ws,w.1.length<=65536/\w.2<=65536)(ck:o+x.ws.length+4<=8589934592)(hw:∀w∈x.ws,w.1≠[])(hn:s.rs.num<1000000000000)(hT:pZ s/\Nu s.X)(hI:s.rs.bt≠[]->jT s/\NH s) :
  (∀e,(ek (eH true P O m.next x L s) (s.at ⟨0,none⟩) x.ind).cu.er=some e->(e.2≠0/\e.2≠5)/\∃S,Ag (d9 d) k0 (ax Lo N 2) (I i) (pt P 0 0) (pt p2 0 0) (pt V 0 0) m=some (.tuple ⟨[zD,aZ x.ln e.1,.int .i64 e.2]⟩,S)/\Fb B m S) /\
  ((ek (eH true P O m.next x L s) (s.at ⟨0,none⟩) x.ind).cu.er=none->∃S zb0 H1,Ag (d9 d) k0 (ax Lo N 2) (I i) (pt P 0 0) (pt p2 0 0) (pt V 0 0) m=k0 (I (i+1:Nat)) (ax Lo N 2) (pt P 0 0) (pt p2 0 0) (pt V 0 0) S /\
   ek (eH true P O m.next x L s) (s.at ⟨0,none⟩) x.ind=pc (eH true P O m.next x L s) (s.at ⟨0,none⟩) x.ind/\PS (eH true P O m.next x L s) zb0 S H1 (ek (eH true P O m.next x L s) (s.at ⟨0,none⟩) x.ind)/\zb0<=o+x.ws.length+3/\tR (eH true P O m.next x L s) B m J S H1 (ek (eH true P O m.next x L s) (s.at ⟨0,none⟩) x.ind)):=by
 have c0:x.ws.length≠0:=λe=>b5 (oQ e);have c4:ax L x.ws.length 3=.slice (some ⟨L.b,0,some 3⟩) x.ws.length (2*L.ver+L.r):=af c0;obtain⟨cs,cw,Q,c1,b6⟩:=Q;obtain⟨i7,P1,K⟩:=VO h be JB J bv x L b5 bi bf bn c5 c9;generalize hc:eH _ P O _ x L s=c at P1 K;have cC:c.C=m.next:=by rw[<-hc]
 have cP:c.P=P:=by rw[<-hc]
 have cm:c.wv=ax L x.ws.length 3:=by rw[<-hc]
 have bc:c.ws=x.ws:=by rw[<-hc]
 have b0:c.ln=x.ln:=by rw[<-hc]
 have ct:cG c:=⟨aq⟩
 let vs:List _:=[ax L x.ws.length 3,I 0,I 0,I 0,I 0]
 generalize b4:m.push _=f at P1 K;have cr:f.next=m.next+1:=by rw[<-b4];rfl
 have k1:=W.start P1;have ix:Xd 2 _ (I i)=some _:=eU Lo c2 _ 2 i _ bE;have uM:∀{T:Nat} {m2:aj} {R:ay} {s2:ao} {ts:List Tmp},W c f i7 _ T m2 R s2 ts->X9 _ 1 _ m2=some _/\X9 _ 1 _ m2=some _:=fun{T m2 R s2 ts} w=>by have e:=((K w).2.2 _ bs).1;exact⟨Xt (by rwa[e]) c1,Xt (by rwa[e]) b6⟩
 have b9:=Xt Q b6;have aw:∀{T:Nat} {m2:aj} {R:ay} {s2:ao} {ts:List Tmp},W c f i7 _ T m2 R s2 ts->Fb B m m2/\jS m2 p2 V:=fun{T m2 R s2 ts} w=>by obtain⟨a,_,b⟩:=K w;obtain⟨x1,x2,_⟩:=b p2 b7;obtain⟨y1,y2,_⟩:=b V b8;exact⟨a,⟨x2,y2,hA.ne,by rw[x1];exact hA.g2,by rw[y1];exact hA.g3⟩⟩
 have eb:Xc Tu [(0,1),(1,1),(2,2),(4,1)] [(0,ax L x.ws.length 3)]=some (.agg ⟨vs⟩):=by show Xc Tu [(0,1),(1,1),(2,2),(4,1)] [(0,ax L x.ws.length 3)]=some (.agg ⟨[ax L x.ws.length 3,I 0,I 0,I 0,I 0]⟩);rw[c4];exact aU rfl rfl
 have bD:(Value.cells (.agg ⟨vs⟩)).toList=[ax L _ 3,I 0,I 0,I 0,I 0]:=rfl;have c3:0<c.ws.length:=aq;obtain⟨p,p1,cf,_,_,_,p6,_⟩:=P1.wl.ix c3;have p1:Xd 3 (ax L x.ws.length 3) (.int .i64 0)=some (p 0):=aq;have k2:=k1.push Q2 (some (2*Q7+1));obtain⟨m3,al,v⟩:=W.XeN (l1:=[]) k2 (n:=2) (g8:=aZ _ (bG c 0).2) (za6:=[I c.ln,I _]) rfl rfl rW rfl;have v:W c f i7 _ o m3 i7 _ [(f.next,0,[I _,I _])]:=v;have ag:∀b,J b->b≠f.next/\b≠m.next:=λb hb=>aq;have nb:f.next≠p2/\f.next≠V/\c.C≠p2/\c.C≠V:=by have a:=ag _ b7;have b:=ag _ b8;rw[cC];exact⟨bq a.1,bq b.1,bq a.2,bq b.2⟩
 have al:Xe 2 _ (.agg _) _=some m3:=al;obtain⟨_,ca⟩:=uM k1;obtain⟨l0,_⟩:=uM v;have go:Ag (d9 d) k0 (ax Lo N 2) (I i) (pt P 0 0) (pt p2 0 0) (pt V 0 0) m=Ri (d9 d) k0 (ax Lo N 2) (I i) (pt P 0 0) (pt f.next 0 0) (pt p2 0 0) (pt V 0 0) (pt c.C 0 0) m3:=by rw[cC];delta Ag F B U jb;simp only[ix,X7,X3,b9,eb];rw[bD,Xq];show Rj _ _ _ _ _ _ _ _ (m.push (.cells [ax L x.ws.length 3,I 0,I 0,I 0,I 0] 0 0 false (some (2*JB+1))))=_;rw[b4];delta Rj jv F Y U jb A;simp only[ix,X4,X7,X3,ca,p1,cf,aQ,p6,Xq];rw[al,Xj]
 rw[go]
 have fin:∀{g8:Option Rs} {t:ao} {m4:aj} {av:ay} {s4:ao} {G:Nat},W c f i7 (s.at ⟨0,none⟩) G m4 av s4 [(f.next,0,[I c.ln,I (bG c 0).2])]->G<=o->mH c G (c.ws.length+3) m4 av s4 g8 (.tuple ⟨[]⟩) t->t=pc c (s.at ⟨0,none⟩) x.ind->∀X:Option Rs,X=(bp g8 λ_ m=>Af (d9 d) k0 (pt c.C 0 0) (pt p2 0 0) (pt V 0 0) (pt P 0 0) (pt f.next 0 0) (I i) (ax Lo N 2) m) ->
   (∀e,(ek c (s.at ⟨0,none⟩) x.ind).cu.er=some e->(e.2≠0/\e.2≠5)/\∃S,X=some (.tuple ⟨[zD,aZ x.ln e.1,.int .i64 e.2]⟩,S)/\Fb B m S) /\
   ((ek c (s.at ⟨0,none⟩) x.ind).cu.er=none->∃S zb0 H1,X=k0 (I (i+1:Nat)) (ax Lo N 2) (pt P 0 0) (pt p2 0 0) (pt V 0 0) S/\ek c (s.at ⟨0,none⟩) x.ind=pc c (s.at ⟨0,none⟩) x.ind/\PS c zb0 S H1 (ek c (s.at ⟨0,none⟩) x.ind)/\zb0<=o+x.ws.length+3/\tR c B m J S H1 (ek c (s.at ⟨0,none⟩) x.ind)):=fun{g8 t m4 av s4 G} k4 cp y ht X H=>by
  obtain⟨v',m5,aB,cj,s5,a1,a2,a3,rfl,a4,a5,a6⟩:=y;have k5:=k4.go a2 a3;rw[a1,X4]at H;subst H;obtain⟨e1,e2⟩:=Xtj d k0 (ax Lo N 2) (i:=i) aa k5 aw b1 b2 nb a5 a6;rw[cP,b0]at e1;rw[cP]at e2;unfold ek;rw[<-ht];refine⟨e1,λq=>?_⟩;obtain⟨x1,x2,x3⟩:=e2 q;subst x1;rw[x2];rw[bc]at a4;exact⟨m5,aB,cj,x3,rfl,k5.ps,aa,K k5⟩
 have e1:bin _ _ _ _ _ (.int _ 1)=some _:=nW x.ind 1;have e0:bin _ _ _ _ _ (.int _ 0)=some _:=nW x.ind 0;have lb:X9 false 1 (pt P 12 0) m3=some (sv s.rs.bt):=by rw[<-cP];exact v.ps.XeB
 have eb:bin .eql true true .str (sv s.rs.bt) (.string ⟨#[]⟩)=some (.bool (decide (s.rs.bt=[]))):=Qh _ _ _ []
 have bad:(1<x.ind\/(x.ind=1/\s.rs.bt=[]))->(∀e,(ek c (s.at ⟨0,none⟩) x.ind).cu.er=some e->(e.2≠0/\e.2≠5)/\∃S,vk (d9 d) k0 (.bool true) (pt f.next 0 0) (pt p2 0 0) (pt V 0 0) (ax Lo N 2) (I i) (pt P 0 0) (pt c.C 0 0) m3=some (.tuple ⟨[zD,aZ x.ln e.1,.int .i64 e.2]⟩,S)/\Fb B m S)/\((ek c (s.at ⟨0,none⟩) x.ind).cu.er=none->False):=λhb=>by
  have hl:(ek c (s.at ⟨0,none⟩) x.ind).cu.er=some ((bG c 0).2,70):=by
   unfold ek pc;rw[ah (show 1<x.ind\/(x.ind=1/\(s.at ⟨0,none⟩).rs.bt=[]) from hb)];have hf:(cB (s.at ⟨0,none⟩).cu (bG c 0).2 70)=⟨0,some ((bG c 0).2,70)⟩:=rfl;rw[hf];unfold jZ;dsimp only;have hm:cH c ((s.at ⟨0,none⟩).at ⟨0,some ((bG c 0).2,70)⟩).cu=false:=rfl;rw[hm,af Nb];split
   ·rfl
   ·split<;>rfl
  rw[hl];refine⟨λe q=>?_,λq=>by cases q⟩;cases q;obtain⟨F,bd⟩:=aw v;obtain⟨m5,m6,a1,a2,a3,a4,a5,a6,a7,a8,a9⟩:=Wj bd b1 b2 (p:=pt f.next 0 0) (b:=f.next) (a:=c.ln) (k:=(bG c 0).2) (λm3 hm=>by obtain⟨ty,g⟩:=v.at' (f.next,0,[I c.ln,I (bG c 0).2]) br;exact Xw (by rw[hm];exact g) rW rfl) nb.1 nb.2.1
  refine⟨(show(70)≠0/\(70)≠5 by decide),m6,?_,F.trans a5⟩;delta vk O jo L jn jd B Y jl A;simp only[X6,Fl,X3,a7,a1,Xj,a6,E6,fO,Xv,a2,a3,a4];rw[<-b0];exact Yz _ _ _ _
 have ab:(1<x.ind\/(x.ind=1/\s.rs.bt=[]))->∀X:Option Rs,X=vk (d9 d) k0 (.bool true) (pt f.next 0 0) (pt p2 0 0) (pt V 0 0) (ax Lo N 2) (I i) (pt P 0 0) (pt c.C 0 0) m3->(∀e,(ek c (s.at ⟨0,none⟩) x.ind).cu.er=some e->(e.2≠0/\e.2≠5)/\∃S,X=some (.tuple ⟨[zD,aZ x.ln e.1,.int .i64 e.2]⟩,S)/\Fb B m S) /\
   ((ek c (s.at ⟨0,none⟩) x.ind).cu.er=none->∃S zb0 H1,X=k0 (I (i+1:Nat)) (ax Lo N 2) (pt P 0 0) (pt p2 0 0) (pt V 0 0) S/\ek c (s.at ⟨0,none⟩) x.ind=pc c (s.at ⟨0,none⟩) x.ind/\PS c zb0 S H1 (ek c (s.at ⟨0,none⟩) x.ind)/\zb0<=o+x.ws.length+3/\tR c B m J S H1 (ek c (s.at ⟨0,none⟩) x.ind)):=λhb X H=>by
  subst H;exact⟨(bad hb).1,λq=>False.elim ((bad hb).2 q)⟩
 have ac:¬(1<x.ind\/(x.ind=1/\s.rs.bt=[]))->∀X:Option Rs,X=vk (d9 d) k0 (.bool false) (pt f.next 0 0) (pt p2 0 0) (pt V 0 0) (ax Lo N 2) (I i) (pt P 0 0) (pt c.C 0 0) m3->(∀e,(ek c (s.at ⟨0,none⟩) x.ind).cu.er=some e->(e.2≠0/\e.2≠5)/\∃S,X=some (.tuple ⟨[zD,aZ x.ln e.1,.int .i64 e.2]⟩,S)/\Fb B m S) /\
   ((ek c (s.at ⟨0,none⟩) x.ind).cu.er=none->∃S zb0 H1,X=k0 (I (i+1:Nat)) (ax Lo N 2) (pt P 0 0) (pt p2 0 0) (pt V 0 0) S/\ek c (s.at ⟨0,none⟩) x.ind=pc c (s.at ⟨0,none⟩) x.ind/\PS c zb0 S H1 (ek c (s.at ⟨0,none⟩) x.ind)/\zb0<=o+x.ws.length+3/\tR c B m J S H1 (ek c (s.at ⟨0,none⟩) x.ind)):=λhg X H=>by
  have b3:¬(1<x.ind\/(x.ind=1/\(s.at ⟨0,none⟩).rs.bt=[])):=hg;delta vk Qp2 C F L E B Z jb jk A D at H;rw[X5]at H;simp only[ix,X7,X3,gp,l0,e0]at H;by_cases a0:x.ind=0
  ·rw[bj a0,X6]at H;obtain⟨l,a,bl⟩:=v.ps.wt.root;obtain⟨m4,am,k4⟩:=v.B7 (u:={ s.at ⟨0,none⟩with aF:=0,rs:={ s.rs with bt:=[] } }) (l':=l) a (i:=0) (z:=sv s.rs.bt) (g8:=sv []) aa zu rfl rfl (MV a) bl rfl rfl rfl (by rw[gN,gN];rfl) ⟨v.ps.ok.le,v.ps.ok.ee,v.ps.ok.wt,v.ps.ok.il,v.ps.ok.ge⟩;have am:Xe 1 (pt P (0+12) 0) (.string ⟨#[]⟩) m3=some m4:=by rwa[<-cP]
   simp only[Xg,X7,X3,am,Xj]at H;have y:=Xib k4.ps aq aq hn ⟨hT.1.host,hT.1.qF,hT.1.iface,hT.1.rI,hT.1.rO,hT.1.iY,hT.1.iW⟩ hT.2 (d+1);rw[cP]at y;exact fin k4 aY y (by unfold pc;rw[af b3,ah a0];rfl) X H
  ·rw[bJ a0,X5]at H;have bw:s.rs.bt≠[]:=λe=>hg ((lT 1 _).imp id λq=>⟨aa,e⟩);obtain⟨bA,M⟩:=hI bw;have y:=Xse v.ps aq rfl aq hn bA ⟨M.i3,M.i4,M.i9,M.i10,M.i11⟩ (d+1);rw[cP]at y;exact fin v aY y (by unfold pc;rw[af b3,af a0]) X H
 delta Ri F E jc B jb jk jj A P jh D;simp only[ix,X7,X3,gp,l0,XmR];by_cases h1:1<x.ind
 ·rw[bj h1,X6];exact ab (.inl h1) _ rfl
 ·rw[bJ h1,X5];simp only[X3,e1];by_cases h2:x.ind=1
  ·rw[bj h2,X6];simp only[Xg,X7,X3,lb,eb];by_cases h3:s.rs.bt=[]
   ·rw[bj h3];exact ab (.inr ⟨h2,h3⟩) _ rfl
   ·rw[bJ h3];exact ac (λq=>aq) _ rfl
  ·rw[bJ h2,X5];exact ac (λq=>aa) _ rfl
def fg(s:ao):ao:={ s with rs:=⟨[],0,[]⟩ }
theorem Bz(i5 s:ao)(ws:List ai):fg (cX i5 s ws)=fg i5:=rfl
theorem Bt(s:ao)(ws:List ai):fg (Xl s ws)=Xl (fg s) ws:=rfl
theorem Xrs(s:ao)(ws:List ai):fg (Xz s ws)=Xz (fg s) ws:=rfl
theorem XjX(s:ao)(w:ai):fg (iA s w)=fg s:=rfl
theorem Lh(s:ao)(b:Nat)(bt:ai)(ws:List ai)(key:ai):fg (ig s b bt ws key)=mj (fg s) b ws:=rfl
theorem sV(s:ao)(cu:Cu):fg (s.at cu)=(fg s).at cu:=rfl
theorem vX(s:ao)(k:Key)(y:Nat)(a:List ae):fg (s.aC k y a)=(fg s).aC k y a:=rfl
theorem we(s:ao)(k:Key)(y:Nat)(cs:List Cl):fg (s.app k y cs)=(fg s).app k y cs:=rfl
theorem XjB(s:ao)(k:Key)(y:Nat)(vs:List ae):fg (s.iV k y vs)=(fg s).iV k y vs:=rfl
theorem Xwi(s:ao)(k:Key)(y:Nat)(cs:List Cl)(vs:List ae):fg (s.nl k y cs vs)=(fg s).nl k y cs vs:=rfl
theorem yx(c:Cx)(s:ao)(e:Int):fg (fu c s e)=fu c (fg s) e:=rfl
theorem XdM(s:ao):(fg s).X=s.X:=rfl
theorem sU(s:ao):(fg s).cu=s.cu:=rfl
theorem fg_row(s:ao)(y sz:Nat)(n:ai)(cs:List Cl):(rowOf (fg s) y sz n cs).1=(rowOf s y sz n cs).1/\(rowOf (fg s) y sz n cs).2=fg (rowOf s y sz n cs).2:=by
 unfold rowOf;show(match fq s.X [0] y sz 0 n with|some i=>(i,fg s)|none=>(au s.X [0] y,fg { s with X:=bg s.X [0] y cs })).1=_/\_
 cases h:fq s.X [0] y sz 0 n with
 |none=>exact⟨rfl,by show(match fq s.X [0] y sz 0 n with|some i=>(i,fg s)|none=>(au s.X [0] y,fg { s with X:=bg s.X [0] y cs })).2=_;rw[h]⟩
 |some i=>exact⟨rfl,by show(match fq s.X [0] y sz 0 n with|some i=>(i,fg s)|none=>(au s.X [0] y,fg { s with X:=bg s.X [0] y cs })).2=_;rw[h]⟩
theorem Xwg(c:Cx)(s:ao):fg (wg c s)=rh c (fg s):=by unfold wg rh;dsimp only;simp only[jz fg,Bz,Bt,sV,vX,yx,sU];rfl
theorem Xvm(c:Cx)(k:Key)(y:Nat):∀(f:Nat)(s:ao),fg (ir c k y f s)=ir c k y f (fg s)
 |0,s=>rfl
 |f+1,s=>by unfold ir;dsimp only;simp only[jz fg,Xvm c k y f];rfl
theorem XiY(c:Cx)(s:ao)(k:Key)(b:Nat):(gA c (fg s) k b).1=(gA c s k b).1/\(gA c (fg s) k b).2=fg (gA c s k b).2:=by refine⟨rfl,?_⟩;unfold gA;dsimp only;simp only[jz fg,sV,vX,XjB,Xvm,yx,sU];rfl
theorem XlL(c:Cx)(s:ao):fg (wz c s)=oB c (fg s):=by have h:=λk b=>XiY c (s.at (Xa c s.cu).2) k b;unfold wz oB;dsimp only;have a:∀k b,gA c ((fg s).at (Xa c _).2) k b=((gA c _ k b).1,fg _):=λk b=>Prod.ext (h k b).1 (h k b).2;simp only[a,jz fg,Bz,Bt,sV,vX,yx,XdM,sU];rfl
theorem XfY(c:Cx)(s:ao):fg (BC c s)=ry c (fg s):=by unfold BC ry;dsimp only;simp only[jz fg,Bz,Bt,sV,vX,we,yx,sU];rfl
theorem Xxu(s:ao)(b:Nat)(i:Option Nat)(y:Nat)(yl:List ae)(ws:List ai):fg (mS s b i y yl ws)=lK (fg s) b i y yl ws:=by
 unfold mS lK;cases i with
 |none=>dsimp only;simp only[jz fg,Bz,Bt,we,vX]
 |some a=>dsimp only;simp only[jz fg,Bz,Bt,vX]
theorem XnJ(c:Cx)(s:ao):fg (xX c s)=ui c (fg s):=by rw[U1];unfold xX tw yV;dsimp only;simp only[jz fg,Xxu,sV,XdM,sU];rfl
theorem XlE(c:Cx)(s:ao):fg (qk c s)=rG c (fg s):=by unfold qk rG;dsimp only;simp only[jz fg,Bz,Bt,sV,vX,we,yx,XnJ,sU];rfl
theorem Xsx(c:Cx)(s:ao):fg (vR c s)=vK c (fg s):=by unfold vR vK;dsimp only;simp only[jz fg,Lh,we,sV,sU];rfl
theorem Xwx(c:Cx)(s:ao):fg (og c s)=og c (fg s):=by unfold og;rw[we,sV];rfl
theorem XoE(s:ao)(n:ai)(cs:List Cl):fg (mu s n cs)=mu (fg s) n cs:=by unfold mu;rw[we,(fg_row _ _ _ _ _).1,(fg_row _ _ _ _ _).2]
theorem XnD(s:ao)(n:ai)(p:Bool)(l:List ae):fg (qn s n p l)=qn (fg s) n p l:=by unfold qn;rw[Xwi,(fg_row _ _ _ _ _).1,(fg_row _ _ _ _ _).2]
theorem XmU(c:Cx)(s:ao):fg (tn c s)=rK c (fg s):=by unfold tn rK;dsimp only;simp only[jz fg,Lh,we,sV,Xwx,XoE,XnD,yx,sU];rfl
theorem XhX(c:Cx)(cu:Cu)(lo:Int)(hi:Nat):((Xb c cu lo hi).1.toNat:Int)=(Xb c cu lo hi).1:=by
 unfold Xb;split
 ·rfl
 ·rfl
theorem Xs9(s:ao)(name:ai)(N':Nat)(a:Int)(h:(a.toNat:Int)=a):fg (jH s name N' a.toNat)=vO (fg s) name N' a:=by unfold jH vO;dsimp only;rw[(fg_row _ _ _ _ _).1,(fg_row _ _ _ _ _).2,Lh];unfold gL;rw[h];rfl
theorem XaC(c:Cx)(s:ao):fg (mw c s)=qE c (fg s):=by unfold mw qE;dsimp only;simp only[jz fg,XjX,Xrs,Lh,we,sV,vX,yx,XmU,Xsx,sU,Xs9 _ _ _ _ (XhX _ _ _ _)];rfl
variable {i5:ao}
def BT(s:ao):Prop:=(s.aF=0/\s.rs.bt=[])\/(s.aF=mV/\s.rs.bt=mR)\/(s.aF=ni/\s.rs.bt=od)\/(s.aF=kH/\s.rs.bt=dj)\/(s.aF=oz/\s.rs.bt=oq)\/(s.aF=mo/\s.rs.bt=iZ)
theorem MY:od≠mR/\dj≠mR/\dj≠od/\oq≠mR/\oq≠od/\oq≠dj/\iZ≠mR/\iZ≠od/\iZ≠dj/\iZ≠oq/\mR≠[]/\od≠[]/\dj≠[]/\oq≠[]/\iZ≠[]:=ak
theorem BT.iff(h:BT s):s.aF=0↔s.rs.bt=[]:=by obtain⟨e,f,g,i,j,_⟩:=Fh;obtain⟨_,_,_,_,_,_,_,_,_,_,e1,e2,c,d,e5⟩:=MY;rcases h with⟨a,b⟩|⟨a,b⟩|⟨a,b⟩|⟨a,b⟩|⟨a,b⟩|⟨a,b⟩<;>rw[]<;>simp_all
theorem Xox(h:BT s)(l:s.aF≠0):fg (sM c s)=o8 c (fg s):=by
 obtain⟨m,n,o,p,q,e1,e2,d,e,e5,f,g,i,j,qq⟩:=Fh;obtain⟨f1,f2,f3,f4,f5,f6,f7,f8,f9,f10,_⟩:=MY;have k:(fg s).aF=s.aF:=rfl;unfold sM o8;rw[k];rcases h with⟨a,b⟩|⟨a,b⟩|⟨a,b⟩|⟨a,b⟩|⟨a,b⟩|⟨a,b⟩
 ·trivial
 ·rw[a,b,ah rfl,ah rfl];exact Xwg c s
 ·rw[a,b,af f1,ah rfl,af e1,ah rfl];trivial
 ·rw[a,b,af f2,af f3,ah rfl,af e2,af d,ah rfl];exact XlL c s
 ·rw[a,b,af f4,af f5,af f6,ah rfl,af e,af e5,af f,ah rfl];exact XfY c s
 ·rw[a,b,af f7,af f8,af f9,af f10,ah rfl,af g,af i,af j,af qq];exact XlE c s
theorem XiW(c:Cx)(s:ao):fg (jZ c s)=jZ c (fg s):=by
 unfold jZ;dsimp only;rw[sU];by_cases h:cH c s.cu=true
 ·rw[ah h,ah h,jz fg,jz fg];rfl
 ·rw[af h,af h,jz fg,jz fg];rfl
theorem XhR(h:BT s)(ind:Nat):fg (ek c s ind)=jX c (fg s) ind:=by
 have d:(fg s).aF=s.aF:=rfl;unfold ek jX pc;rw[XiW,d];congr 1;have hi:=h.iff;by_cases a:ind=0
 ·rw[af aa,ah a,ah a,XaC];rfl
 ·rw[af a,af a];by_cases b:ind=1/\s.aF≠0
  ·rw[af (λq=>aq),ah b];exact Xox h b.2
  ·rw[ah,af b]
   ·rfl
   grind
def K9(X M:NX):Prop:=bU X->bU M/\cl M [0] 9=cl X [0] 9/\M [9,0]=X [9,0]/\∀a i,cl M [a,9,0] (i*15)=cl X [a,9,0] (i*15)
theorem K9.refl(X:NX):K9 X X:=λh=>⟨h,rfl,rfl,λ_ _=>rfl⟩
theorem K9.trans{Z:NX}(e:K9 X za0)(f:K9 za0 Z):K9 X Z:=λh=>by
 obtain⟨a,b,c,d⟩:=e h;obtain⟨g,i,j,k⟩:=f a
 grind
def lP(k:Key):Prop:=k≠[0]/\k≠[9,0]/\∀a,k≠[a,9,0]
theorem th(h:a≠9):lP [a,0]:=⟨by simp,by simp[h],by simp⟩
theorem uL(h:a≠9):lP [y,a,0]:=⟨by simp,by simp,by simp[h]⟩
theorem XqS:lP [p,y,a,0]:=⟨by simp,by simp,by simp⟩
theorem K9.of{X M:NX}(b:M [0]=X [0])(c:M [9,0]=X [9,0])(d:∀a,M [a,9,0]=X [a,9,0]):K9 X M:=λh=>⟨h.of b,gQ b 9,c,λa i=>gQ (d a) _⟩
theorem nD(X:NX){k:Key}(h:k'≠k)(y:Nat)(b:List ae):bF X k y b k'=X k':=by
 cases a:X k with
 |none=>unfold bF;rw[a]
 | some ob=>cases ob with
  |c l=>rw[fp a];exact NX.aE _ _ h
  |m d cl=>unfold bF;rw[a]
theorem rE(X:NX){k:Key}(h:k'≠k)(b:k'≠y::k)(cs:List Cl):bg X k y cs k'=X k':=by
 cases a:X k with
 |none=>unfold bg;rw[a]
 | some ob=>cases ob with
  |c l=>unfold bg;rw[a];dsimp only;rw[NX.aE _ _ h,NX.aE _ _ b]
  |m d cl=>unfold bg;rw[a]
theorem Mc(X:NX){k:Key}(h:k'≠k)(b:k'≠y::k)(vs:List ae):iz X k y vs k'=X k':=by
 cases a:X k with
 |none=>unfold iz;rw[a]
 | some ob=>cases ob with
  |c l=>rw[vY a,NX.aE _ _ h,NX.aE _ _ b]
  |m d cl=>unfold iz;rw[a]
theorem XmW{k:Key}(h:lP k)(y:Nat)(b:List ae):K9 X (bF X k y b):=.of (nD X (bq h.1) _ _) (nD X (bq h.2.1) _ _) λa=>nD X (bq (h.2.2 a)) _ _
theorem LP{k:Key}(h:lP k)(a:lP (y::k))(cs:List Cl):K9 X (bg X k y cs):=.of (rE X (bq h.1) (bq a.1) _) (rE X (bq h.2.1) (bq a.2.1) _) λb=>rE X (bq (h.2.2 b)) (bq (a.2.2 b)) _
theorem XoD{k:Key}(h:lP k)(a:lP (y::k))(vs:List ae):K9 X (iz X k y vs):=.of (Mc X (bq h.1) (bq a.1) _) (Mc X (bq h.2.1) (bq a.2.1) _) λb=>Mc X (bq (h.2.2 b)) (bq (a.2.2 b)) _
theorem Xs(h:y<18)(a:y≠9)(x:ae):K9 X (bF X [0] y [x]):=λr=>⟨(r.st y x h).1,(r.st y x h).2 9 (bq a),nD X ak _ _,λb i=>gQ (nD X ar _ _) _⟩
theorem XP(h:f<18)(a:f≠9)(cs:List Cl):K9 X (bg X [0] f cs):=λr=>⟨(r.ap f cs h).1,(r.ap f cs h).2.2 9 (bq a),rE X ak aq _,λb i=>gQ (rE X ar ar _) _⟩
theorem Ey(s:ao)(ws:List ai):K9 s.X (Xz s ws).X:=λr=>⟨(r.single ws).1,(r.single ws).2 9 aa,xU r ws ak ak,λa i=>gQ (xU r ws ar ar) _⟩
def mG(X:NX)(k:Key)(b:Nat):Prop:=(∃a,k=[a,9,0])/\(∃i,b=i*15)/\∃l,X k=some (.c l)/\b+15<=l.length
theorem W3{k:Key}(h:mG X k b){l':List Cl}(f:X k=some (.c l))(a:M k=some (.c l'))(g:l'.length=l.length)(n:∀i,l'[i*15]?=l[i*15]?)(hn:∀k',k'.length<=3->k'≠k->M k'=X k'):K9 X M/\mG M k b:=by
 obtain⟨⟨j,rfl⟩,m,l0,d,p⟩:=h;rw[f]at d;cases d;refine⟨λr=>⟨r.of (hn [0] ar ar),gQ (hn [0] ar ar) 9,hn _ ar ar,λo i=>?_⟩,⟨j,rfl⟩,m,l',a,aa⟩;by_cases e:o=j
 ·subst e;rw[cU f,cU a,n]
 ·exact gQ (hn _ ar (by simp[e])) _
theorem Xkp{k:Key}(h:mG X k b)(m:1<=y/\y<15)(x:ae):K9 X (bF X k (b+y) [x])/\mG (bF X k (b+y) [x]) k b:=by
 obtain⟨c,⟨j,d⟩,l,a,e⟩:=h;refine W3 ⟨c,⟨j,d⟩,l,a,e⟩ a (by rw[fp a,NX.aR]) aq (λi=>?_) λn _ f=>nD X f _ _;have g:=aX (l:=l) (z:=([x]).map Cl.v) (y:=b+y) cF (i*15)
 grind
theorem Xrr{k:Key}(h:mG X k b)(n:1<=y/\y<15)(cs:List Cl):K9 X (bg X k (b+y) cs)/\mG (bg X k (b+y) cs) k b:=by
 obtain⟨⟨j,rfl⟩,⟨g,c⟩,l,a,d⟩:=h;refine W3 ⟨⟨j,rfl⟩,⟨g,c⟩,l,a,d⟩ a (by unfold bg;rw[a];exact NX.aR _ _ _) ar (λi=>?_) λo m f=>rE X f (λe=>aq) _
 grind
theorem Xv2{k:Key}(h:mG X k b)(n:1<=y/\y<15)(vs:List ae):K9 X (iz X k (b+y) vs)/\mG (iz X k (b+y) vs) k b:=by
 obtain⟨⟨j,rfl⟩,⟨g,c⟩,l,a,d⟩:=h;refine W3 ⟨⟨j,rfl⟩,⟨g,c⟩,l,a,d⟩ a (by rw[vY a,NX.aR]) ar (λi=>?_) λo m f=>Mc X f (λe=>aq) _
 grind
def IK(s u:ao):Prop:=(u.rs=s.rs/\aS u.X=aS s.X\/∃ws,ws≠[]/\u.rs={ s.rs with bM:=s.rs.bM++[kd s.rs.num++Xr [32] ws] }/\aS u.X=kg (aS s.X) (Xr [32] ([cQ,s.df,[46]]++ws)))/\u.df=s.df/\u.aF=s.aF/\K9 s.X u.X
def jE(s t:ao):Prop:=aS t.X=aS s.X/\t.df=s.df/\t.aF=s.aF/\K9 s.X t.X
theorem Ew(s:ao)(ws:List ai):aS (Xz s ws).X=kg (aS s.X) (Xr [32] ws):=by exact Xpb bY
theorem IK.no(a:u.rs=s.rs)(h:jE s u):IK s u:=⟨.inl ⟨a,h.1⟩,h.2⟩
theorem IK.in{J:ao}(f:ws≠[])(b:J.rs=s.rs)(h:jE s i5):IK s (cX (Xl i5 ws) J ws):=by
 obtain⟨c,a,d,e⟩:=h;refine⟨.inr ⟨ws,f,?_,?_⟩,a,d,e.trans (Ey i5 _)⟩
 ·unfold cX;rw[b]
 ·show aS (Xz i5 _).X=_;rw[Ew,c,a]
theorem cn{b:Type}{a:b}{l:List b}:a::l≠[]:=List.cons_ne_nil _ _
theorem kc{t:Key}:y::a::t≠[2]:=λe=>by grind
theorem iv{p:Prop}[Decidable p]{A B:ao}(a:IK s A)(b:IK s B):IK s (if p then A else B):=aq
theorem qr:jE s s:=⟨rfl,rfl,rfl,.refl _⟩
theorem mX{p:Prop}[Decidable p]{A B:ao}(a:jE s A)(b:jE s B):jE s (if p then A else B):=aq
theorem cJ(cu:Cu)(h:jE s t):jE s (t.at cu):=h
theorem W4(c:Cx)(e:Int)(h:jE s t):jE s (fu c t e):=h
theorem Uz{k:Key}(c:k≠[2])(y:Nat)(a:List ae)(b:K9 t.X (bF t.X k y a))(h:jE s t):jE s (t.aC k y a):=⟨(kA _ _ c).trans h.1,h.2.1,h.2.2.1,h.2.2.2.trans b⟩
theorem mT{k:Key}(hf:lP k)(b:k≠[2])(y:Nat)(a:List ae)(h:jE s t):jE s (t.aC k y a):=Uz b y a (XmW hf y a) h
theorem Lx{k:Key}(hf:lP k)(a:lP (y::k))(c:k≠[2])(b:y::k≠[2])(cs:List Cl)(h:jE s t):jE s (t.app k y cs):=⟨(kU (po _ c b _)).trans h.1,h.2.1,h.2.2.1,h.2.2.2.trans (LP hf a cs)⟩
theorem XjW(hf:y<18)(a:y≠9)(x:ae)(h:jE s t):jE s (t.aC [0] y [x]):=Uz ak y [x] (Xs hf a x) h
theorem IK.bad(c:Cx)(s:ao)(cu:Cu)(e:Int):IK s (fu c (s.at cu) e):=.no rfl (W4 _ _ (cJ _ qr))
theorem Xy6(c:Cx)(s:ao):IK s (wg c s):=by
 have a:([3,0])≠[2]:=kc;have f:lP [3,0]:=th ak;unfold wg;dsimp only;generalize Xa c _=w;refine iv ?_ (iv ?_ (iv ?_ (iv ?_ (iv ?_ (iv ?_ (.bad _ _ _ _))))))
 ·exact .in cn rfl (mT f a _ _ (cJ _ (cJ _ qr)))
 ·refine .in cn rfl (mX ?_ ?_)
  ·exact W4 _ _ (mT f a _ _ (cJ _ (mT f a _ _ (cJ _ (cJ _ qr)))))
  ·exact mT f a _ _ (cJ _ (mT f a _ _ (cJ _ (cJ _ qr))))
 ·refine iv ?_ ?_
  ·exact .in cn rfl (mT f a _ _ (cJ _ (cJ _ qr)))
  ·exact .in cn rfl (mT f a _ _ (cJ _ (cJ _ qr)))
 ·exact .in cn rfl (mT f a _ _ (cJ _ (cJ _ qr)))
 ·refine .in cn rfl (mX ?_ (mX ?_ ?_))
  ·exact mT f a _ _ (cJ _ (cJ _ qr))
  ·exact mT f a _ _ (cJ _ (cJ _ qr))
  ·exact mT f a _ _ (cJ _ (cJ _ qr))
 ·exact .in cn rfl (mT f a _ _ (cJ _ qr))
theorem XgJ(c:Cx)(s:ao):IK s (nk c s):=.no rfl (Lx (th ak) (uL ak) kc kc _ (cJ _ qr))
theorem sL{k:Key}(h:mG t.X k b)(c:1<=y/\y<15)(x:ae)(a:k≠[2])(q:jE s t):jE s (t.aC k (b+y) [x]):=Uz a _ _ (Xkp h c x).1 q
theorem Xro(c:Cx){k:Key}{b y:Nat}(d:1<=y/\y<15):∀(f:Nat)(s:ao),mG s.X k b->K9 s.X (ir c k (b+y) f s).X
 |0,s,h=>.refl _
 |f+1,s,h=>by
  unfold ir;dsimp only;obtain⟨a,e⟩:=Xrr h d [.v (.int .u32 (Xb c s.cu 1 4294967295).1)];split
  ·exact a.trans (Xro c d f ((s.at (Xb c _ 1 _).2).app k _ _) e)
  trivial
theorem XkA(c:Cx)(s:ao){k:Key}(h:mG s.X k b)(d:k≠[2])(e:∀y,y::k≠[2]):jE s (gA c s k b).2:=by
 unfold gA;dsimp only;generalize Xa c _=w;have h:mG (s.at w.2).X k b:=h;have q:jE s (s.at w.2):=cJ _ qr;generalize s.at w.2=t at h q|-;refine mX ?_ (mX ?_ (mX ?_ (mX ?_ (mX ?_ (mX ?_ ?_)))))
 ·exact sL h aa _ d (cJ _ q)
 ·exact sL h aa _ d (cJ _ q)
 ·exact sL h aa _ d (cJ _ q)
 ·obtain⟨a,f⟩:=Xkp (y:=11) h aa (.bool (bh c t.cu zB).1);exact⟨(kU (XW _ d (e _) _)).trans ((kA _ _ d).trans q.1),q.2.1,q.2.2.1,q.2.2.2.trans (a.trans (Xv2 f aa _).1)⟩
 ·exact⟨(kU (KO c d e _ _ _).2).trans q.1,(KO c d e _ _ _).1.trans q.2.1,(VR _ _ _ _ _).trans q.2.2.1,q.2.2.2.trans (Xro c aa _ _ h)⟩
 ·exact sL h aa _ d (cJ _ q)
 assumption
theorem XlR(c:Cx)(s:ao)(h:mG s.X (mn s.X) (sY s.X)):IK s (wz c s):=by
 have a:mn s.X≠[2]:=kc;have e:∀y,y::mn s.X≠[2]:=λ_=>kc;unfold wz;dsimp only;have d:=XkA c (s.at (Xa c s.cu).2) h a e;generalize mn s.X=K at h a e d|-;generalize sY s.X=b at h d|-;generalize Xa c _=w at d|-;refine iv (.in cn rfl (mX ?_ (mX ?_ (mX ?_ (mX ?_ (mX ?_ ?_)))))) (iv (.in cn rfl d) (iv (.in cn rfl ?_) (.bad _ _ _ _)))
 ·exact sL h aa _ a (cJ _ (cJ _ (cJ _ qr)))
 ·exact sL h aa _ a (cJ _ (cJ _ (cJ _ qr)))
 ·exact sL h aa _ a (cJ _ (cJ _ (cJ _ qr)))
 ·exact sL h aa _ a (cJ _ (cJ _ (cJ _ qr)))
 ·exact sL h aa _ a (cJ _ (cJ _ (cJ _ qr)))
 ·exact W4 _ _ (cJ _ (cJ _ qr))
 ·exact sL h aa _ a (cJ _ (cJ _ qr))
theorem XiE(c:Cx)(s:ao):IK s (BC c s):=by
 unfold BC;dsimp only;refine iv ?_ (iv ?_ (.bad _ _ _ _))
 ·exact .in cn rfl (mT (th ak) kc _ _ (cJ _ (cJ _ qr)))
 ·exact .no rfl (Lx (th ak) (uL ak) kc kc _ (cJ _ (cJ _ qr)))
theorem XbU(s:ao)(b:Nat)(i:Option Nat)(y:Nat)(yl:List ae)(a:ws≠[]):IK s (mS s b i y yl ws):=by
 cases i with
 |none=>exact iv (.in a rfl (Lx (th ak) (uL ak) kc kc _ qr)) (.no rfl (XjW ak ak _ qr))
 |some c=>exact .in a rfl (mX qr (mT (uL ak) kc _ _ qr))
theorem XcD{x:Cu}(a:ws≠[]):IK s (mS ((s.at x).at g8) b i y yl ws):=XbU ((s.at x).at g8) b i y yl a
theorem Uy{x:Cu}(a:ws≠[]):IK s (mS (((s.at x).at g8).at z) b i y yl ws):=XbU (((s.at x).at g8).at z) b i y yl a
theorem XlM(c:Cx)(s:ao):IK s (qk c s):=by
 have a:∀(w:ai × Cu)(N:Cu) (k:Nat) (ws:List ai) (cs:List Cl),ws≠[]->IK s ((cX (Xl ((s.at w.2).at N) ws) _ ws).app [11,0] k cs):=λw N k ws cs g=>by obtain⟨h,b,d,f⟩:=IK.in (i5:=(s.at w.2).at N) (s:=s) (J:=s.at w.2) g rfl (cJ _ (cJ _ qr));have e:aS ((cX (Xl ((s.at w.2).at N) ws) (s.at w.2) ws).app [11,0] k cs).X=aS (cX (Xl ((s.at w.2).at N) ws) (s.at w.2) ws).X:=kU (po _ kc kc _);refine⟨?_,b,d,f.trans (LP (th ak) (uL ak) _)⟩;rw[e];exact h
 unfold qk xX tw;dsimp only;generalize Xa c _=w;refine iv ?_ (iv ?_ (iv ?_ (iv ?_ (.bad _ _ _ _))))
 ·exact .in cn rfl (mT (th ak) kc _ _ (cJ _ (cJ _ qr)))
 ·refine a _ _ _ _ _ ?_;exact cn
 ·generalize aP c _ kJ=O;refine iv ?_ (iv (iv ?_ ?_) (iv ?_ ?_))
  ·exact Uy cn
  ·exact Uy cn
  ·exact Uy cn
  ·exact XcD cn
  ·exact XcD cn
 ·exact .no rfl (Lx (th ak) (uL ak) kc kc _ (cJ _ (cJ _ qr)))
theorem Xxt(c:Cx)(s:ao)(h:s.rs.bt=dj->mG s.X (mn s.X) (sY s.X)):IK s (sM c s):=by have q:∀{p:Prop} [Decidable p] {A B:ao},(p->IK s A)->IK s B->IK s (if p then A else B):=λa b=>aq;exact iv (Xy6 c s) <| iv (XgJ c s) <| q (λe=>XlR c s (h e)) <| iv (XiE c s) <| iv (XlM c s) (.no rfl qr)
inductive jY:ai->List ai->Prop where
 |host:jY lD [lD]
 |qF (n:ai) (h:fZ n=true):jY (Gi++n) [jB,n]
 |iface (n:ai) (h:fZ n=true):jY (Gk++n) [mR,n]
 |rI (n:ai) (h:fZ n=true):jY (Gl++n) [od,n]
 |rO (n:ai) (q:Nat) (h:fZ n=true) (hq:q<=65535):jY (sj++n++[32]++decDigits q) [dj,n,bN q]
 |iY (n:ai) (h:n=[]\/fZ n=true):jY (Gm++n) [lW,oq,n]
 |iW (n:ai) (h:n=[]\/fZ n=true):jY (wU++n) [lW,iZ,n]
theorem pZ.key(h:pZ s){k:ai}(q:jY k ws):k∈s.rs.bM↔Xr [32] ws∈aS s.X:=by
 cases q with
 |host=>exact h.host
 |qF n q=>exact h.qF n q
 |iface n q=>exact h.iface n q
 |rI n q=>exact h.rI n q
 |rO n q a b=>exact h.rO n q a b
 |iY n q=>exact h.iY n q
 |iW n q=>exact h.iW n q
theorem pZ.of(h:∀k ws,jY k ws->(k∈s.rs.bM↔Xr [32] ws∈aS s.X)):pZ s:=⟨h _ _ .host,λn q=>h _ _ (.qF n q),λn q=>h _ _ (.iface n q),λn q=>h _ _ (.rI n q),λn q a b=>h _ _ (.rO n q a b),λn q=>h _ _ (.iY n q),λn q=>h _ _ (.iW n q)⟩
theorem MB(a b d:ai):Xr [32] [a,b,d]=a++[32]++b++[32]++d:=XeY
theorem ym{c:UInt8}{a b x g8:ai}(d:c∉a)(e:c∉b)(h:a++c::x=b++c::g8):a=b/\x=g8:=by have:=jQ (cut c) h;rw[vP _ d,vP _ e]at this;have:=pM this;exact⟨jQ Prod.fst this,jQ Prod.snd this⟩
theorem K3(h:decDigits a=decDigits b):a=b:=by rw[<-uy a,<-uy b,h]
theorem E8(n:Nat)(c:UInt8)(a:jK c=false):c∉decDigits n:=λh=>by have:=cL.mp (ET n) c h;rw[a]at this;cases this
theorem EL(h:fZ n=true):(32:UInt8)∉n:=λq=>by
 have d:∀a∈n,(fF a||fG a)=true:=by
  cases n with
  |nil=>intro a f;cases f
  |cons a r =>
   have h:(decide ((a::r).length<=32)&&(fF a&&r.all λc=>fF c||fG c))=true:=h;simp only[bT]at h;intro b e;rcases eF.mp e with rfl|e
   ·rw[h.2.1];rfl
   ·exact cL.mp h.2.2 b e
 exact absurd (d _ q) ak
theorem XR(n:Nat)(hn:n<=65535):bN n=[48,46,48,46]++(decDigits (n / 256)++46::decDigits (n%256)):=by have d0:decDigits 0=[48]:=xZ aa;unfold bN;rw[show n / 16777216=0 by omega,show n / 65536%256=0 by omega,show n / 256%256=n / 256 by omega,d0];simp
theorem Xy2(c:p<=65535)(d:q<=65535)(h:bN p=bN q):p=q:=by rw[XR p c,XR q d]at h;obtain⟨a,b⟩:=ym (E8 _ _ ak) (E8 _ _ ak) (Y3 h);have:=K3 a;have:=K3 b;omega
theorem XhP{k k':ai}(h:jY k ws)(g:jY k' zb5):k=k'↔Xr [32] ws=Xr [32] zb5:=by
 have j:∀(n a:ai)(q c:Nat),fZ n=true->fZ a=true->q<=65535->c<=65535->(sj++n++[32]++decDigits q=sj++a++[32]++decDigits c↔Xr [32] [dj,n,bN q]=Xr [32] [dj,a,bN c]):=λn a q c hn d i e=>by
  rw[MB,MB];have f:∀(x b z:ai),x++n++[32]++b=x++a++[32]++z↔n++32::b=a++32::z:=λx b z=>ar;rw[f];have e2:dj++[32]++n++[32]++bN q=dj++[32]++a++[32]++bN c↔n++32::bN q=a++32::bN c:=f (dj++[32]) _ _;rw[e2];constructor
  ·intro h;obtain⟨x,b⟩:=ym (EL hn) (EL d) h;rw[x,K3 b]
  ·intro h;obtain⟨x,b⟩:=ym (EL hn) (EL d) h;rw[x,Xy2 i e b]
 cases h<;>cases g<;>first
  |exact j _ _ _ _ ‹_› ‹_› ‹_› ‹_›
  |simp[nt,oF,MB]
theorem oK{l:List ai}{x:ai}:x∈kg l w↔x∈l\/x=w:=by
 unfold kg
 grind
def oD(ws:List ai):ai:=ws.flatMap (·++[32])
theorem Xog:∀{ws:List ai},ws≠[]->Xr [32] ws++[32]=oD ws
 |[],h=>absurd rfl h
 |[a],_=>by simp[Xr,oD,]
 |a::b::l,_=>by have c:=Xog (ws:=b::l) cn;have e:Xr [32] (a::b::l)=a++[32]++Xr [32] (b::l):=XeY;rw[e,lV,c];rfl
def tj(h:ai):ai:=[105,110,32]++(h++([32]++[46,32]))
theorem UD(h:ai)(b:ws≠[]):Xr [32] ([cQ,h,[46]]++ws)=tj h++Xr [32] ws:=by
 cases ws with
 |nil=>grind
 |cons a l=>simp[Xr,tj]
def UA(ws:List ai):Prop:=∀w∈ws,(32:UInt8)∉w/\w≠[46]
def Good(h:ai):Prop:=∃ws,ws≠[]/\h=Xr [32] ws/\UA ws
theorem Xsm:∀{ws zb5:List ai} {t t':ai},UA ws->UA zb5->oD ws++(46::32::t)=oD zb5++(46::32::t')->ws=zb5/\t=t'
 |[],[],t,t',_,_,h=>⟨rfl,by injection h with _ h;injection h⟩
 |[],w::l,t,t',_,d,h=>by
  have h:[46]++32::t=w++32::(oD l++(46::32::t')):=by rw[show[46]++32::t=oD []++(46::32::t) from rfl,h];simp[oD]
  exact absurd (ym ak (d w br).1 h).1.symm (d w br).2
 |w::l,[],t,t',c,_,h=>by
  have h:w++32::(oD l++(46::32::t))=[46]++32::t':=by rw[show[46]++32::t'=oD []++(46::32::t') from rfl,<-h];simp[oD]
  exact absurd (ym (c w br).1 ak h).1 (c w br).2
 |w::l,Z::f,t,t',c,d,h=>by
  have h:w++32::(oD l++(46::32::t))=Z++32::(oD f++(46::32::t')):=by simpa[oD]using h
  obtain⟨a,b⟩:=ym (c w br).1 (d Z br).1 h;obtain⟨x,g8⟩:=Xsm (λw e=>c w (gC _ e)) (λw e=>d w (gC _ e)) b
  grind
theorem XhG{h c t:ai}(g:Good h)(i:Good c)(e:tj h++t=tj c++t'):h=c/\t=t':=by
 obtain⟨ws,a,rfl,b⟩:=g;obtain⟨j,d,rfl,f⟩:=i;have x:∀(ws:List ai)(t:ai),ws≠[]->tj (Xr [32] ws)++t=[105,110,32]++(oD ws++(46::32::t)):=λws t h=>by unfold tj;rw[<-Xog h];simp
 rw[x _ _ a,x _ _ d]at e;obtain⟨p,q⟩:=Xsm b f (Y3 e);exact⟨by rw[p],q⟩
theorem XlJ{i i6:Nat}{t:ai}(h:kd i++t=kd i6++t'):i=i6/\t=t':=by
 unfold kd at h;have h:wT++(decDigits i++58::(32::t))=wT++(decDigits i6++58::(32::t')):=by simpa using h
 obtain⟨a,b⟩:=ym (E8 _ _ ak) (E8 _ _ ak) (Y3 h);exact⟨K3 a,aq⟩
theorem Xz3{k:ai}(h:jY k ws)(i:Nat)(t:ai):k≠kd i++t:=by unfold kd;cases h<;>simp
theorem Xzl{k:ai}(h:jY k ws)(x t:ai):Xr [32] ws≠tj x++t:=by unfold tj;cases h<;>simp[nt,oF,MB]
theorem XiC(q:Nat)(a:q<=65535):(32:UInt8)∉bN q/\bN q≠[46]:=by rw[XR q a];exact⟨by simp[E8 _ (32) ak],ar⟩
theorem Xo9{k:ai}(h:jY k ws):Good (Xr [32] ws):=by
 have a:∀n,fZ n=true->(32)∉n/\n≠[46]:=λn hn=>⟨EL hn,λe=>by rw[e]at hn;revert hn;decide⟩
 have c:∀n,n=[]\/fZ n=true->(32)∉n/\n≠[46]:=λn hn=>hn.elim (λe=>by rw[e];exact⟨ar,ar⟩) (a n);refine⟨ws,?_,rfl,?_⟩
 ·cases h<;>exact cn
 ·cases h with
  |host=>intro w hw;grind
  |qF n h=>intro w hw;grind
  |iface n h=>intro w hw;grind
  |rI n h=>intro w hw;grind
  |rO n q h b=>intro w hw;rcases eF.mp hw with rfl|hw;decide;rcases eF.mp hw with rfl|hw;exact a _ h;rw[va.mp hw];exact XiC q b
  |iY n h=>intro w hw;grind
  |iW n h=>intro w hw;grind
structure Inv (s:ao):Prop where
 top:pZ s
 BM:∀i t,kd i++t∈s.rs.bM->i<=s.rs.num
 BZ:∀h t,Good h->tj h++t∈aS s.X->h∈aS s.X
 aF:s.rs.bt≠[]->jT s/\Good s.df/\s.df∈aS s.X
 bt:BT s
theorem Inv.inner(h:Inv s)(j:s.rs.bt≠[])(q:IK s u):Inv u:=by
 obtain⟨q,e1,e2,_⟩:=q;obtain⟨e,l,f⟩:=h.aF j;rcases q with⟨a,r2⟩|⟨ws,d,a,r2⟩
 ·exact⟨.of λk ws q=>by rw[a,r2];exact h.top.key q,by rw[a];exact h.BM,by rw[r2];exact h.BZ,λ_=>⟨λws d=>by rw[a,r2,e1];exact e ws d,aq,aq⟩,by unfold BT;rw[e2,a];exact h.bt⟩
 ·rw[UD _ d]at r2;refine⟨.of λk c q=>?_,λi t hi=>?_,λx t g hi=>?_,λ_=>⟨λc b=>?_,aq,by rw[e1,r2];exact oK.mpr (.inl f)⟩,by unfold BT;rw[e2,a];exact h.bt⟩
  ·rw[a,r2];show k∈s.rs.bM++_↔_;rw[nH,va,oK,h.top.key q,eq_false (Xz3 q _ _),eq_false (Xzl q _ _)]
  ·rw[a]at hi|-;rcases nH.mp hi with hi|hi
   ·exact h.BM i t hi
   ·exact oT (XlJ (va.mp hi)).1
  ·rw[r2]at hi|-;rcases oK.mp hi with hi|hi
   ·exact oK.mpr (.inl (h.BZ x t g hi))
   ·rw[(XhG g l hi).1];exact oK.mpr (.inl f)
  ·rw[a,r2,e1];show _∈s.rs.bM++_↔_;rw[nH,va,oK,e c b,UD _ b];simp
inductive TK (R:Prop) (s u:ao):Prop where
 |no (h1:u.rs=s.rs) (h2:aS u.X=aS s.X) (h3:u.aF=s.aF) (h9:R->K9 s.X u.X)
 |key (k:ai) (ws:List ai) (hk:jY k ws) (h1:u.rs={ s.rs with bM:=s.rs.bM++[k] }) (h2:aS u.X=kg (aS s.X) (Xr [32] ws)) (h3:u.aF=s.aF) (h9:R->K9 s.X u.X)
 |qC (k:ai) (ws:List ai) (bt:ai) (hk:jY k ws) (h1:u.rs=⟨bt,s.rs.num+1,s.rs.bM++[k]⟩) (h2:aS u.X=kg (aS s.X) (Xr [32] ws)) (h3:u.df=Xr [32] ws) (h4:BT u) (h5:dF u.X [0] 15=false->Xr [32] ws∉aS s.X) (h9:R->K9 s.X u.X)
theorem Inv.step{R:Prop}(h:Inv s)(w:s.rs.bt=[])(q:TK R s u)(hd:dF u.X [0] 15=false):Inv u:=by
 have grow:∀{k ws},jY k ws->u.rs.bM=s.rs.bM++[k]->aS u.X=kg (aS s.X) (Xr [32] ws)->pZ u/\(∀i t,kd i++t∈u.rs.bM->i<=s.rs.num)/\(∀h t,Good h->tj h++t∈aS u.X->h∈aS s.X):=fun{k ws} e p r2=>by
  refine⟨.of λy n q=>?_,λi t hi=>?_,λx t l hi=>?_⟩
  ·rw[p,r2,nH,va,oK,h.top.key q,XhP q e]
  ·rw[p]at hi;rcases nH.mp hi with hi|hi
   ·exact h.BM i t hi
   ·exact absurd (va.mp hi).symm (Xz3 e _ _)
  ·rw[r2]at hi;rcases oK.mp hi with hi|hi
   ·exact h.BZ x t l hi
   ·exact absurd hi.symm (Xzl e _ _)
 cases q with
 |no f c g o =>exact⟨.of λk ws q=>by rw[f,c];exact h.top.key q,by rw[f];exact h.BM,by rw[c];exact h.BZ,λq=>absurd aq q,by unfold BT;rw[g,f];exact h.bt⟩
 |key k ws e f c g o =>obtain⟨a,b,d⟩:=grow e (by rw[f]) c;exact⟨a,aq,λx t l hi=>by rw[c];exact oK.mpr (.inl (d x t l hi)),λq=>absurd aq q,by unfold BT;rw[g,f];exact h.bt⟩
 |qC k ws bt e f c g r v o =>
  obtain⟨a,b,d⟩:=grow e (by rw[f]) c;have j:=v hd;refine⟨a,λi t hi=>aq,λx t l hi=>by rw[c];exact oK.mpr (.inl (d x t l hi)),λ_=>⟨λn m=>?_,by rw[g];exact Xo9 e,by rw[c,g];exact oK.mpr (.inr rfl)⟩,r⟩;rw[UD _ m,g];constructor
  ·grind
  ·intro q;exact absurd (d _ _ (Xo9 e) q) j
theorem TK.k9{R:Prop}(h:TK R s u)(r:R):K9 s.X u.X:=by
 cases h with
 |no _ _ _ a=>grind
 |key _ _ _ _ _ _ a=>grind
 |qC _ _ _ _ _ _ _ _ _ a=>grind
variable {R:Prop}
theorem XlC(h:cl M [0] y=cl X [0] y):dF M [0] y=dF X [0] y:=by unfold dF dm;rw[h]
theorem Xlm(h:bU i5.X)(ws:List ai):dF (Xz i5 ws).X [0] 15=(dF i5.X [0] 15||decide (Xr [32] ws∈aS i5.X)):=by
 have e:cl (Xz i5 ws).X [0] 15=.v (.bool (dF i5.X [0] 15||decide (Xr [32] ws∈aS i5.X))):=by unfold Xz;dsimp only;rw[BF _ _ _ ak,h.XeM 15 _ aa]
 unfold dF dm;rw[e];rfl
theorem Xw5(h:bU i5.X)(b:Nat)(bt:ai)(ws:List ai)(key:ai):bU (ig i5 b bt ws key).X:=(h.single ws).1
theorem TK.open(e:bU i5.X)(g:i5.rs=s.rs)(c:aS i5.X=aS s.X)(d:R->K9 s.X i5.X){key:ai}(f:jY key ws)(a:BT (ig i5 b bt ws key)):TK R s (ig i5 b bt ws key):=.qC key ws bt f (by rw[<-g];rfl) (by rw[<-c];exact Ew i5 ws) rfl a (λq=>by have q:dF (Xz i5 ws).X [0] 15=false:=q;rw[Xlm e,YZ,rT,c]at q;exact q.2) λr=>(d r).trans (Ey i5 ws)
theorem TK.refl:TK R s s:=.no rfl rfl rfl λ_=>.refl _
theorem TK.at(cu:Cu)(h:TK R s t):TK R s (t.at cu):=by
 cases h with
 |no a b d i=>exact .no a b d i
 |key k ws a b d e i=>exact .key k ws a b d e i
 |qC k ws bt a b d e f g i=>exact .qC k ws bt a b d e f g i
theorem TK.MK{cu:Cu}(h:TK R (s.at cu) t):TK R s t:=by
 cases h with
 |no a b d i=>exact .no a b d i
 |key k ws a b d e i=>exact .key k ws a b d e i
 |qC k ws bt a b d e f g i=>exact .qC k ws bt a b d e f g i
theorem TK.wk{j:Prop}(h:TK R s t)(i:j->R):TK j s t:=by
 cases h with
 |no a b d c=>exact .no a b d λr=>c (i r)
 |key k ws a b d e c=>exact .key k ws a b d e λr=>c (i r)
 |qC k ws bt a b d e f g c=>exact .qC k ws bt a b d e f g λr=>c (i r)
theorem TK.app(n:bU t.X){f:Nat}(cs:List Cl)(hf:f<15)(g:f≠9)(h:TK R s t):TK R s (t.app [0] f cs):=by
 have e:aS (t.app [0] f cs).X=aS t.X:=kU (po _ ak kc _);have k:K9 t.X (t.app [0] f cs).X:=XP aa g cs;cases h with
 |no a b c d=>exact .no a (e.trans b) c λr=>(d r).trans k
 |key j ws i a b c d=>exact .key j ws i a (e.trans b) c λr=>(d r).trans k
 |qC j ws bt i a b c l m d=>exact .qC j ws bt i a (e.trans b) c l (λq=>m (by rw[<-q];exact(XlC ((n.ap f cs aa).2.2 15 aa)).symm)) λr=>(d r).trans k
theorem TK.oa(c:bU i5.X)(h:i5.rs=s.rs)(d:aS i5.X=aS s.X)(e:R->K9 s.X i5.X){key:ai}(hf:f<15/\f≠9)(g:jY key ws)(a:BT (ig i5 b bt ws key)):TK R s ((ig i5 b bt ws key).app [0] f cs):=TK.app (Xw5 c _ _ _ _) cs hf.1 hf.2 (TK.open c h d e g a)
theorem TK.oa1{x:Cu}(h:bU s.X){key:ai}(hf:f<15/\f≠9)(c:jY key ws)(a:∀i5:ao,BT (ig i5 b bt ws key)):TK R s ((ig (s.at x) b bt ws key).app [0] f cs):=TK.oa (s:=s) (i5:=s.at x) h rfl rfl (λ_=>.refl _) hf c (a _)
theorem TK.oa2{x:Cu}(h:bU s.X){key:ai}(hf:f<15/\f≠9)(c:jY key ws)(a:∀i5:ao,BT (ig i5 b bt ws key)):TK R s ((ig ((s.at x).at g8) b bt ws key).app [0] f cs):=TK.oa (s:=s) (i5:=(s.at x).at g8) h rfl rfl (λ_=>.refl _) hf c (a _)
theorem TK.BJ{x:Cu}(h:bU s.X)(hf:f<15/\f≠9):TK R s (((s.at x).at g8).app [0] f cs):=TK.app (t:=(s.at x).at g8) h cs hf.1 hf.2 ((TK.refl.at _).at _)
theorem qi{p:Prop}[Decidable p]{A B:ao}(a:p->(A.cu.er.isNone=true->TK R s A))(b:¬p->(B.cu.er.isNone=true->TK R s B)):(if p then A else B).cu.er.isNone=true->TK R s (if p then A else B):=by grind
theorem XeG(s:ao)(sz:Nat)(n:ai)(cs:List Cl)(b:y<18)(a:y≠9):K9 s.X (rowOf s y sz n cs).2.X:=by
 unfold rowOf;split
 ·exact .refl _
 ·exact XP b a cs
theorem zc(s:ao)(y sz:Nat)(n:ai)(cs:List Cl):(rowOf s y sz n cs).2.rs=s.rs/\aS (rowOf s y sz n cs).2.X=aS s.X/\(rowOf s y sz n cs).2.aF=s.aF/\(rowOf s y sz n cs).2.cu=s.cu:=by
 unfold rowOf;split
 ·simp
 ·exact⟨rfl,kU (po _ ak kc _),rfl,rfl⟩
theorem XmP(h:bU s.X)(cu:Cu)(n:ai)(cs:List Cl):TK R s (mu (s.at cu) n cs):=by obtain⟨a,b,d,_⟩:=zc (s.at cu) 7 2 n [.v (sv n),.s 0 5];exact .no a ((kU (po _ kc kc _)).trans b) d λ_=>(XeG (s.at cu) 2 n _ ak ak).trans (LP (th ak) (uL ak) _)
theorem XnF(h:bU s.X)(cu:Cu)(n:ai)(p:Bool)(l:List ae):TK R s (qn (s.at cu) n p l):=by obtain⟨a,b,d,_⟩:=zc (s.at cu) 8 2 n [.v (sv n),.s 0 2];exact .no a ((kU (XW _ kc kc _)).trans ((kU (po _ kc kc _)).trans b)) d λ_=>(XeG (s.at cu) 2 n _ ak ak).trans ((LP (th ak) (uL ak) _).trans (XoD (uL ak) XqS _))
theorem XmO(h:bU s.X):(tn c s).cu.er.isNone=true->TK R s (tn c s):=by
 unfold tn;dsimp only;generalize Xa c _=w;refine qi (λ_ _=>?_) λ_=>qi (λ_ q=>?_) λ_=>qi (λ_ _=>?_) λ_=>qi (λ_ _=>?_) λ_=>qi (λ_ _=>?_) λ_ _=>?_
 ·unfold og;exact TK.BJ h ak
 ·have hn:=ur q;exact TK.oa2 h ak (.rI _ hn) λ_=>(.inr (.inr (.inl ⟨rfl,rfl⟩)))
 ·exact XmP h _ _ _
 ·exact XnF h _ _ _ _
 ·exact TK.BJ h ak
 ·exact(TK.refl.at _).at _
theorem Xw1(h:bU s.X):(vR c s).cu.er.isNone=true->TK R s (vR c s):=by
 unfold vR;dsimp only;generalize aP c _ _=y;refine qi (λ_ q=>?_) λ_ q=>?_
 ·have hn:=LJ q;exact TK.oa1 h ak (.iY _ hn) λ_=>(.inr (.inr (.inr (.inr (.inl ⟨rfl,rfl⟩)))))
 ·have hn:=LJ q;exact TK.oa1 h ak (.iW _ hn) λ_=>(.inr (.inr (.inr (.inr (.inr ⟨rfl,rfl⟩)))))
theorem Xsg(h:bU s.X)(name:ai)(N' q:Nat)(hn:fZ name=true)(c:q<=65535):TK False s (jH s name N' q):=by obtain⟨a,b,d,_⟩:=zc s 9 3 name [.v (sv name),.s 0 15,.v (.bool false)];obtain⟨e,_,_⟩:=FO s h name [.v (sv name),.s 0 15,.v (.bool false)] (y:=9) (sz:=3) aa;unfold jH;dsimp only;generalize rowOf s 9 3 _ _=R at *;obtain⟨t1,_⟩:=e.st 17 (I R.1) aa;refine TK.open (i5:=(R.2.aC [0] 17 _).app _ _ _) (bU.of t1 (L6 ak ak _ _)) a ?_ False.elim (.rO _ _ hn c) (.inr (.inr (.inr (.inl ⟨rfl,rfl⟩))));exact(kU (po _ kc kc _)).trans ((kA _ _ ak).trans b)
theorem XaM(c:Cx)(cu:Cu)(lo:Int)(hi:Nat):(Xb c cu lo hi).1.toNat<=hi:=by
 unfold Xb;split
 ·show tx _<=hi;unfold tx;cases e:num hi (Xa c cu).1 with
  |none=>simp
  |some v =>obtain⟨b,a⟩:=gj.mp e;exact a
 omega
theorem XjH(h:bU s.X):(mw c s).cu.er.isNone=true->TK ((Xa c s.cu).1≠dj) s (mw c s):=by
 unfold mw;dsimp only;generalize Xa c _=w;refine qi (λ_ _=>?_) λ_=>qi (λ_ q=>?_) λ_=>qi (λ_ q=>?_) λ_=>qi (λ_=>?_) λ_=>qi (λer q=>?_) λ_=>qi (λ_=>?_) λ_ _=>?_
 ·exact .key _ _ .host rfl ((Ew _ _).trans (by rw[show aS (((s.at w.2).at (bB c (s.at w.2).cu).2).aC [0] 0 [sv (bB c (s.at w.2).cu).1]).X=aS s.X from kA _ _ ak])) rfl λ_=>(Xs ak ak _).trans (Ey (((s.at w.2).at _).aC [0] 0 _) _)
 ·have hn:=ur q;exact .key _ _ (.qF _ hn) rfl ((kU (po _ ak kc _)).trans (Ew _ _)) rfl λ_=>(Ey _ _).trans (XP ak ak _)
 ·have hn:=ur q;exact TK.oa2 h ak (.iface _ hn) λ_=>(.inr (.inl ⟨rfl,rfl⟩))
 ·intro q;exact(XmO (s:=s.at w.2) h q).MK
 ·generalize d:bB c _=N at q|-;generalize f:aP c N.2 _=O at q|-;have q:(Xb c O.2 1 65535).2.er.isNone=true:=by
   rw[<-q];unfold jH;dsimp only;rw[show ∀(a:ao) b bt ws key,(ig a b bt ws key).cu=a.cu from λ_ _ _ _ _=>rfl];show _=(rowOf _ _ _ _ _).2.cu.er.isNone;rw[(zc _ _ _ _ _).2.2.2];rfl
  have hn:=kG (λe=>XF e _) (by rw[f];exact kG (λe=>xY (c:=c) e 1 65535) q);have hn:fZ N.1=true:=by rw[<-d];exact ur aq
  exact((Xsg (s:=(s.at w.2).at (Xb c O.2 1 _).2) h N.1 _ _ hn (XaM _ _ _ _)).MK.MK).wk λr=>r er
 ·intro q;exact(Xw1 (s:=s.at w.2) h q).MK
 ·exact .no rfl rfl rfl λ_=>.refl _
structure kO (X:NX) (K:List ai):Prop where
 nu:Nu X
 ks:∀i6 i,i6<au X [0] 9->i<au X [9,0] (i6*3+1)->∃q:Nat,q<=65535/\bI X [i6*3+1,9,0] (i*15)=(q:Int)/\Xr [32] [dj,di X [9,0] (i6*3+0),bN q]∈K
 sd:∀i6 i i',i6<au X [0] 9->i<au X [9,0] (i6*3+1)->i'<au X [9,0] (i6*3+1)->bI X [i6*3+1,9,0] (i*15)=bI X [i6*3+1,9,0] (i'*15)->i=i'
theorem uC{k:Key}(h:cl M k' o'=cl X k y):bI M k' o'=bI X k y:=by unfold bI dm;rw[h]
theorem yw{k:Key}(h:cl M k' o'=cl X k y):di M k' o'=di X k y:=by unfold di dm;rw[h]
theorem qh{k:Key}(h:cl M k' o'=cl X k y):au M k' o'=au X k y:=by unfold au;rw[h]
theorem kO.k9(h:kO X K)(r:bU X)(k:K9 X M)(t:∀x∈K,x∈K'):kO M K':=by
 obtain⟨_,a,b,d⟩:=k r;have j:=qh a;have en:=λy=>qh (gQ b y);have m:=λy=>yw (gQ b y);have l:=λf i=>uC (d f i);refine⟨λf p c e g=>?_,λf i c e=>?_,λf i o c e g n=>?_⟩
 ·rw[j]at c e;rw[m,m]at g;exact h.nu f p c e g
 ·rw[j]at c;rw[en]at e;rw[m,l];obtain⟨q,x,s,z⟩:=h.ks f i c e
  grind
 ·rw[j]at c;rw[en]at e g;rw[l,l]at n;exact h.sd f i o c e g n
theorem XJ(X:NX)(k:Key)(y:Nat):cl X k y=((bz X k)[y]?).getD (.v .nilFunc):=by
 unfold cl bz
 grind
theorem kO.cls(h:kO X K){i:Nat}(F:X [9,0]=some (.c l9))(G:l9.length=au X [0] 9*3)(hi:i<au X [0] 9)(L:(bz X [i*3+1,9,0]).length=au X [9,0] (i*3+1)*15)(C:di X [9,0] (i*3+0)=name)(S:q<=65535)(I:cl M [0] 9=cl X [0] 9)(A:M [9,0]=some (.c (l9.set (i*3+1) (.s (au X [9,0] (i*3+1)+1) 15))))(r:M [i*3+1,9,0]=some (.c (bz X [i*3+1,9,0]++gL q N')))(B:∀a,a≠i->M [a*3+1,9,0]=X [a*3+1,9,0])(R:∀x∈K,x∈K')(O:Xr [32] [dj,name,bN q]∉K)(P:Xr [32] [dj,name,bN q]∈K'):kO M K':=by
 have v:=qh I;have w:∀a,di M _ (a*3+0)=di X _ _:=λa=>yw (by rw[cU A,cU F,du,af aa]);have m:au M [9,0] (i*3+1)=au X [9,0] (i*3+1)+1:=by
  show(match cl M [9,0] (i*3+1)with|.s n _=>n|_=>0)=_
  rw[cU A,du,ah rfl,ah aa];rfl
 have o:∀a,a≠i->au M _ (a*3+1)=au X _ _:=λa b=>qh (by rw[cU A,cU F,du,af aa]);have g:∀a p,a≠i->bI M _ p=bI X _ p:=λa p b=>uC (gQ (B a b) _);generalize J:au X [9,0] _=N at *;have j:∀p,p<N->bI M _ (p*15)=bI X _ _:=λp l=>uC (by rw[cU r,XJ X,uU aa]);have H:bI M [i*3+1,9,0] (N*15)=(q):=by unfold bI dm;rw[cU r,lB aa,L,pK];rfl
 have new:∀p,p<N->bI X _ _≠(q):=λp l e=>by obtain⟨E,x,y,z⟩:=h.ks i p hi (by rw[J];exact l);rw[e]at y;have:q=E:=aa;subst this;rw[C]at z;exact O z
 refine⟨λa Q d f k=>?_,λa p d f=>?_,λa p u d f k t=>?_⟩
 ·rw[v]at d f;rw[w,w]at k;exact h.nu a Q d f k
 ·rw[v]at d;rw[w];by_cases b:a=i
  ·subst b;rw[m]at f;by_cases l:p<N
   ·rw[j p l];obtain⟨E,x,y,z⟩:=h.ks a p d aa
    grind
   grind
  ·rw[o a b]at f;rw[g a _ b];obtain⟨E,x,y,z⟩:=h.ks a p d f
   grind
 ·rw[v]at d;by_cases b:a=i
  ·subst b;rw[m]at f k;by_cases l:p<N
   ·by_cases D:u<N
    ·rw[j p l,j u D]at t;exact h.sd a p u d aa aa t
    grind
   grind
  ·rw[o a b]at f k;rw[g a _ b,g a _ b]at t;exact h.sd a p u d f k t
theorem kO.row(h:kO X K)(l:(bz X [9,0]).length=au X [0] 9*3)(u:∀d,d<au X [0] 9->di X [9,0] (d*3+0)≠name)(m:au M [0] 9=au X [0] 9+1)(r:M [9,0]=some (.c (bz X [9,0]++eT name)))(g:∀d,M [d*3+1,9,0]=X [d*3+1,9,0]):kO M K/\au M [9,0] (au X [0] 9*3+1)=0/\di M [9,0] (au X [0] 9*3+0)=name:=by
 generalize hn:au X [0] 9=n at *;have i:∀y,y<n*3->cl M _ y=cl X _ y:=λy w=>by rw[cU r,XJ X,uU aa]
 have j:∀y,cl M _ (n*3+y)=((eT _)[y]?).getD _:=λy=>by rw[cU r,lB aa,l,pQ]
 have en:au M [9,0] (n*3+1)=0:=by
  show(match cl M [9,0] (n*3+1)with|.s n _=>n|_=>0)=_
  rw[j];rfl
 have t:di M [9,0] (n*3+0)=name:=by unfold di dm;rw[j];rfl
 refine⟨⟨λd o k e f=>?_,λd p k e=>?_,λd p v k e f q=>?_⟩,en,t⟩
 ·rw[m]at k e;by_cases a:d=n
  ·subst a;by_cases b:o=d
   ·omega
   ·rw[t,yw (i _ aa)]at f
    grind
  ·rw[yw (i _ aa)]at f;by_cases b:o=n
   ·grind
   ·rw[yw (i _ aa)]at f;exact h.nu d o aa aa f
 ·rw[m]at k;by_cases a:d=n
  ·grind
  ·rw[qh (i _ aa)]at e;rw[yw (i _ aa),uC (gQ (g d) _)];exact h.ks d p aa e
 ·rw[m]at k;by_cases a:d=n
  ·grind
  ·rw[qh (i _ aa)]at e f;rw[uC (gQ (g d) _),uC (gQ (g d) _)]at q;exact h.sd d p v aa e f q
theorem Vk(p:Nat->Bool)(sz f:Nat):∀n i,gx p sz f n i=none->∀a,i<=a->a<i+n->p (a*sz+f)=false
 |0,i,h,a,b,c=>aa
 |n+1,i,h,a,b,c=>by
  unfold gx at h;split at h
  ·cases h
  ·rename_i d;by_cases e:a=i
   ·grind
   ·exact Vk p sz f n _ h a aa aa
theorem XfK{n i:Nat}(h:kO za0 K)(f:za0 [9,0]=some (.c l9))(a:l9.length=au za0 [0] 9*3)(hi:i<au za0 [0] 9)(j:(bz za0 [i*3+1,9,0]).length=au za0 [9,0] (i*3+1)*15)(d:di za0 [9,0] (i*3+0)=name)(l:q<=65535)(g:∀x∈K,x∈K')(k:Xr [32] [dj,name,bN q]∉K)(b:Xr [32] [dj,name,bN q]∈K'):kO (bg za0 [9,0] (i*3+1) (gL q N')) K':=by
 have e:bg za0 [9,0] (i*3+1) (gL q N')=(za0.set [i*3+1,9,0] (some (.c (bz za0 [i*3+1,9,0]++gL q N')))).set [9,0] (some (.c (l9.set (i*3+1) (.s (au za0 [9,0] (i*3+1)+1) 15)))):=by unfold bg;rw[f];rfl
 refine h.cls f a hi j d l (N':=N') (gQ (rE za0 ak ar _) 9) ?_ ?_ (λo m=>rE za0 ar (λe=>by injection e with e _;omega) _) g k b
 ·rw[e,NX.aR]
 ·rw[e,NX.aE _ _ ar,NX.aR]
theorem Xqc(h:PS c o m j s)(T:kO s.X (aS s.X))(name:ai)(N' q:Nat)(hq:q<=65535)(hd:dF (jH s name N' q).X [0] 15=false):kO (jH s name N' q).X (aS (jH s name N' q).X):=by
 have U:bU s.X:=h.wt.root;obtain⟨⟨l,hl,_⟩,_,_,d4,d5⟩:=h.dev (f:=9) (r':=12) (sz:=3) rfl aa rfl;have D:(bz s.X [9,0]).length=au s.X [0] 9*3:=by
  unfold bz;by_cases z:au s.X [0] 9=0
  ·grind
  ·obtain⟨l',a,b,_⟩:=d5 z;rw[a];exact b
 obtain⟨a1,H,a3,_⟩:=zc s 9 3 name [.v (sv name),.s 0 15,.v (.bool false)];obtain⟨r1,_,_⟩:=FO s U name [.v (sv name),.s 0 15,.v (.bool false)] (y:=9) (sz:=3) aa
 have G:∃(F:List Cl),kO (rowOf s 9 3 name (eT name)).2.X (aS s.X)/\(rowOf s 9 3 name (eT name)).2.X [9,0]=some (.c F)/\F.length=au (rowOf s 9 3 name (eT name)).2.X [0] 9*3/\(rowOf s 9 3 name (eT name)).1<au (rowOf s 9 3 name (eT name)).2.X [0] 9 /\
   (bz (rowOf s 9 3 name (eT name)).2.X [(rowOf s 9 3 name (eT name)).1*3+1,9,0]).length=au (rowOf s 9 3 name (eT name)).2.X [9,0] ((rowOf s 9 3 name (eT name)).1*3+1)*15/\di (rowOf s 9 3 name (eT name)).2.X [9,0] ((rowOf s 9 3 name (eT name)).1*3+0)=name:=by
  unfold rowOf;cases hf:fq s.X [0] 9 3 0 name with
  |some i =>
   obtain⟨_,b2,J⟩:=Kx _ _ _ _ _ _ hf;have J:=aT J;obtain⟨F,x1,x2,_⟩:=d5 aa;have hi:i<au s.X [0] 9:=aa;obtain⟨_,_,_,y4,y5⟩:=h.list x1 rfl (y:=i*3+1) aa (by rw[fd_row (r:=12) (sz:=3) rfl i 1 aa];rfl);refine⟨F,T,x1,x2,hi,?_,J⟩;unfold bz;by_cases z:au s.X [9,0] (i*3+1)=0
   ·rw[y4 z,z];rfl
   ·obtain⟨l',a,b,_⟩:=y5 z;rw[a];exact b
  |none =>
   have O:∀g,g<au s.X [0] 9->di s.X [9,0] (g*3+0)≠name:=λg hj e=>by have:=Vk _ _ _ _ _ hf g c7 aa;simp only[rT]at this;exact this e
   have eX:bg s.X [0] 9 (eT name)=(s.X.set [9,0] (some (.c (bz s.X [9,0]++eT name)))).set [0] (some (.c (l.set 9 (.s (au s.X [0] 9+1) 3)))):=by unfold bg;rw[hl];rfl
   have S:bg s.X [0] 9 (eT name) [9,0]=some (.c (bz s.X [9,0]++eT name)):=by rw[eX,NX.aE _ _ ak,NX.aR]
   have e0:=(U.ap 9 (eT name) aa).2.1;have ej:∀g,bg s.X [0] 9 (eT name) [g*3+1,9,0]=s.X [g*3+1,9,0]:=λg=>rE _ ar ar _;obtain⟨p1,p2,V⟩:=T.row (M:=bg s.X [0] 9 (eT name)) D O e0 S ej;refine⟨bz s.X _++eT _,p1,S,?_,?_,?_,V⟩
   ·show _=au (bg s.X [0] 9 _) [0] 9*3
    grind
   ·show au s.X [0] 9<au (bg s.X [0] 9 _) [0] 9;omega
   ·show(bz (bg s.X [0] 9 _) [au s.X [0] 9*3+1,9,0]).length=au (bg s.X [0] 9 _) _ (au s.X [0] 9*3+1)*15;rw[p2];have:s.X [au s.X [0] 9*3+1,9,0]=none:=by
     cases u:s.X [au s.X [0] 9*3+1,9,0]with
     |none=>rfl
     |some ob =>exfalso;have ht:∀k:Key,k≠[1]->k≠[0]->k≠[15,0]/\k≠[2]->aL c s k=s.X k:=λk a b d=>jI a b d;obtain⟨lp,n',a0,q1,q2,q3⟩:=h.nr.par _ 9 [0] (by rw[ht _ ar ar ⟨ar,ar⟩,u];simp);simp_all
    unfold bz
    grind
 obtain⟨F,m1,m2,m3,m4,W,m6⟩:=G;unfold jH at hd|-;dsimp only at hd|-;have B:bU (rowOf s 9 3 _ (eT _)).2.X:=r1;have H:aS (rowOf s 9 3 _ (eT _)).2.X=aS s.X:=H;generalize rowOf s 9 3 _ _=R at *;have E:=Xs (X:=R.2.X) (y:=17) ak ak (I R.1);obtain⟨rY,u1,u2,u3⟩:=E B;have L:=u2.trans m2;have N:∀g,bF _ [0] 17 [I R.1] _=R.2.X [g*3+1,9,0]:=λg=>nD _ ar _ _;have C:aS (bg (bF _ [0] 17 [I R.1]) [9,0] (R.1*3+1) (gL q N'))=aS s.X:=(kU (po _ kc kc _)).trans ((kA _ _ ak).trans H);generalize hS:(R.2.aC [0] 17 _).app _ _ _=w at hd|-;have t:w.X=bg (bF R.2.X [0] 17 [I R.1]) [9,0] (R.1*3+1) (gL q N'):=by rw[<-hS];rfl
 have K:bU w.X:=by rw[t];exact rY.of (L6 (k:=[9,0]) ak ak _ _)
 have hd:dF (Xz w _).X [0] 15=false:=hd;rw[Xlm K,YZ,rT,t,C]at hd;show kO (Xz w _).X (aS (Xz w _).X);rw[Ew,t,C];have p:=XfK (N':=N') (n:=0) (m1.k9 B E λ_ u=>u) L (by rwa[qh u1]) (by rwa[qh u1]) (by unfold bz at W|-;rw[N,qh (gQ u2 _)];exact W) ((yw (gQ u2 _)).trans m6) hq (λx u=>oK.mpr (.inl u)) hd.2 (oK.mpr (.inr rfl));refine p.k9 aq ?_ λ_ u=>u;have:=Ey w [dj,name,bN q]
 grind
def iS(b:Nat)(X M:NX):Prop:=cl M [0] 11=cl X [0] 11/\cl M [11,0] (b*6+4)=cl X [11,0] (b*6+4)/\∀a,bI M [b*6+4,11,0] (a*6+0)=bI X [b*6+4,11,0] (a*6+0)
theorem iS.trans{b:Nat}{X za0 Z:NX}(a:iS b X za0)(c:iS b za0 Z):iS b X Z:=⟨c.1.trans a.1,c.2.1.trans a.2.1,λd=>(c.2.2 d).trans (a.2.2 d)⟩
theorem iS.of(a:cl M [0] 11=cl X [0] 11)(c:cl M [11,0] (b*6+4)=cl X [11,0] (b*6+4))(d:M [b*6+4,11,0]=X [b*6+4,11,0]):iS b X M:=⟨a,c,λe=>uC (gQ d _)⟩
theorem iS.single(h:bU i5.X)(b:Nat)(ws:List ai):iS b i5.X (Xz i5 ws).X:=.of ((h.single ws).2 11 aa) (gQ (xU h ws ak ak) _) (xU h ws ar ar)
theorem Pu.k{b:Nat}{X M:NX}(h:Pu X b)(k:iS b X M):Pu M b:=λe f a c d=>by rw[qh k.2.1]at a c;rw[k.2.2 e,k.2.2 f]at d;exact h e f a c d
theorem XbY(q:bU s.X)(J:s.X [11,0]=some (.c l))(V:b*6+6<=l.length)(m:(bz s.X [b*6+4,11,0]).length=au s.X [11,0] (b*6+4)*6)(p:Pu s.X b)(hi:i=kX s.X [11,0] (b*6+4) 6 0 (a:Int))(O:i=none->y=0->yl[0]?=some (.int .u32 (a:Int))/\yl.length=6)(L:∀d,i=some d->y≠0->yl[0]?=some (dm s.X [b*6+4,11,0] (d*6+0))/\yl.length=6):cl (mS s b i y yl ws).X [0] 11=cl s.X [0] 11/\Pu (mS s b i y yl ws).X b:=by
 unfold mS;cases j:i with
 |none =>
  dsimp only;by_cases o:y=0
  ·rw[ah o];obtain⟨u,P⟩:=O j o;have K:∀d,d<au s.X [11,0] (b*6+4)->bI s.X _ _≠(a):=λd I e=>by
    rw[j]at hi;have:=Vk _ _ _ _ _ hi.symm d c7 aa;simp only[rT]at this;exact this e
   generalize H:s.app _ _ _=h;have r:h.X=(s.X.set [b*6+4,11,0] (some (.c (bz s.X [b*6+4,11,0]++yl.map .v)))).set [11,0] (some (.c (l.set (b*6+4) (.s (au s.X [11,0] (b*6+4)+1) (yl.map Cl.v).length)))):=by rw[<-H];show bg _ _ _ _=_;unfold bg;rw[J]
   have e1:h.X [11,0]=some (.c (l.set (b*6+4) (.s (au s.X [11,0] (b*6+4)+1) (yl.map Cl.v).length))):=by rw[r,NX.aR]
   have e2:h.X [b*6+4,11,0]=some (.c (bz s.X [b*6+4,11,0]++yl.map .v)):=by rw[r,NX.aE _ _ ar,NX.aR]
   have e0:h.X [0]=s.X [0]:=by rw[r,NX.aE _ _ ak,NX.aE _ _ ar]
   have t:=q.of e0;have k:=iS.single t b ([cQ,h.df,[46]]++ws);refine⟨k.1.trans (gQ e0 11),Pu.k ?_ k⟩;have en:au h.X [11,0] (b*6+4)=au s.X [11,0] (b*6+4)+1:=by
    show(match cl h.X [11,0] (b*6+4)with|.s n _=>n|_=>0)=_
    rw[cU e1,du,ah rfl,ah aa];rfl
   generalize U:au s.X _ _=N at *;have R:∀d,d<N->bI h.X _ (d*6+0)=bI s.X _ _:=λd I=>uC (by rw[cU e2,XJ s.X,uU aa]);have Q:bI h.X [b*6+4,11,0] (N*6+0)=(a):=by unfold bI dm;rw[cU e2,lB aa,m,gp,pK,gX,u];rfl
   intro d f E F T;rw[en]at E F;have G:∀d f,d<N->f<N->bI s.X _ _=bI s.X _ _->d=f:=λd f x S z=>p d f aa aa z
   grind
  ·rw[af o];have k:iS b s.X (s.aC [0] 16 [.bool true]).X:=.of ((q.st 16 _ aa).2 11 aa) (gQ (nD s.X ak _ _) _) (nD s.X ar _ _);exact⟨k.1,p.k k⟩
 |some d =>
  dsimp only;by_cases o:y=0
  ·rw[ah o];have k:=iS.single q b ([cQ,s.df,[46]]++ws);exact⟨k.1,p.k k⟩
  ·rw[af o];obtain⟨u,P⟩:=L d j o;obtain⟨_,A,_⟩:=Kx _ _ _ _ _ _ (hi.symm.trans j);have A:d<au s.X [11,0] (b*6+4):=by omega
   have w:=oN (sz:=6) A;have M:∃lp,s.X [b*6+4,11,0]=some (.c lp)/\lp.length=au s.X [11,0] (b*6+4)*6:=by
    unfold bz at m;cases W:s.X [b*6+4,11,0]with
    |none=>grind
    |some ob =>grind
   obtain⟨lp,C,Z⟩:=M;have B:iS b s.X (s.aC [b*6+4,11,0] (d*6) yl).X:=by
    refine⟨gQ (nD s.X ar _ _) _,gQ (nD s.X ar _ _) _,λf=>?_⟩;have g:=aX (l:=lp) (z:=yl.map Cl.v) (y:=d*6) aq (f*6+0);rw[gB]at g;have e:cl (bF s.X [b*6+4,11,0] (d*6) yl) [b*6+4,11,0] (f*6+0)=(if d*6<=f*6+0/\f*6+0<d*6+yl.length then(yl.map Cl.v)[f*6+0-d*6]? else lp[f*6+0]?).getD (.v .nilFunc):=by rw[fp C,lI,g]
    by_cases D:f=d
    ·subst D;rw[ah aa,show f*6+0-f*6=0 by omega,gX,u]at e;unfold bI;rw[show dm _ _ _=dm s.X _ _ from by
      show(match cl (bF s.X [b*6+4,11,0] (f*6) yl) [b*6+4,11,0] (f*6+0)with|.v x=>x|_=>.nilFunc)=_
      rw[e];rfl]
    ·rw[af aa]at e;exact uC (e.trans (cU C _).symm)
   have k:=iS.single (i5:=s.aC [b*6+4,11,0] (d*6) yl) (q.of (nD s.X ar _ _)) b ([cQ,s.df,[46]]++ws);exact⟨k.1.trans B.1,(p.k B).k k⟩
theorem XkK(a:X [11,0]=some (.c l))(d:b*6+6<=l.length)(e:y<6/\y≠4)(x:ae):iS b X (bF X [11,0] (b*6+y) [x]):=by refine .of (gQ (nD X ak _ _) _) ?_ (nD X ar _ _);have g:=aX (l:=l) (z:=([x]).map Cl.v) (y:=b*6+y) cF (b*6+4);rw[gB]at g;rw[fp a,lI,g,af aq,cU a]
theorem XaB(a:X [11,0]=some (.c l))(d:y≠4)(cs:List Cl):iS b X (bg X [11,0] (b*6+y) cs):=by refine .of (gQ (rE X ak ar _) _) ?_ (rE X ar (λe=>aq) _);unfold bg;rw[a];dsimp only;rw[lI,cU a,du,af aa]
def nJ(b:Nat)(s t:ao):Prop:=cl t.X [0] 11=cl s.X [0] 11/\Pu t.X b
theorem vQ{b:Nat}{p:Prop}[Decidable p]{A B:ao}(a:p->nJ b s A)(c:¬p->nJ b s B):nJ b s (if p then A else B):=by grind
theorem nJ.k{b:Nat}(a:Pu s.X b)(k:iS b s.X t.X):nJ b s t:=⟨k.1,a.k k⟩
theorem nJ.in{J:ao}(c:bU i5.X)(a:Pu s.X b)(k:iS b s.X i5.X):nJ b s (cX (Xl i5 ws) J ws):=.k a (k.trans (iS.single c b _))
theorem XI{x:Cu}(j:bU s.X)(h:s.X [11,0]=some (.c l))(g:b*6+6<=l.length)(d:(bz s.X [b*6+4,11,0]).length=au s.X [11,0] (b*6+4)*6)(f:Pu s.X b)(hi:i=kX s.X [11,0] (b*6+4) 6 0 (a:Int))(m:i=none->y=0->yl[0]?=some (.int .u32 (a:Int))/\yl.length=6)(k:∀e,i=some e->y≠0->yl[0]?=some (dm s.X [b*6+4,11,0] (e*6+0))/\yl.length=6):nJ b s (mS (((s.at x).at g8).at z) b i y yl ws):=XbY (s:=((s.at x).at g8).at z) j h g d f hi m k
theorem Xzf{x:Cu}(j:bU s.X)(h:s.X [11,0]=some (.c l))(g:b*6+6<=l.length)(d:(bz s.X [b*6+4,11,0]).length=au s.X [11,0] (b*6+4)*6)(f:Pu s.X b)(hi:i=kX s.X [11,0] (b*6+4) 6 0 (a:Int))(m:i=none->y=0->yl[0]?=some (.int .u32 (a:Int))/\yl.length=6)(k:∀e,i=some e->y≠0->yl[0]?=some (dm s.X [b*6+4,11,0] (e*6+0))/\yl.length=6):nJ b s (mS ((s.at x).at g8) b i y yl ws):=XbY (s:=(s.at x).at g8) j h g d f hi m k
theorem XlT(h:PS c o m j s)(hn:0<au s.X [0] 11)(d:Pu s.X (au s.X [0] 11-1)):Pu (qk c s).X (au (qk c s).X [0] 11-1):=by
 have p:bU s.X:=h.wt.root;obtain⟨_,_,_,_,d5⟩:=h.dev (f:=11) (sz:=6) rfl aa rfl;obtain⟨l,n,B,_⟩:=d5 aa;generalize G:au s.X [0] 11=N at hn d B;generalize v:N-1=b at d;have u:b*6+6<=l.length:=aa;obtain⟨_,_,_,P,K⟩:=h.list n rfl (y:=b*6+4) aa (by rw[fd_row (r:=16) (sz:=6) rfl b 4 aa];rfl);have g:(bz s.X [b*6+4,11,0]).length=au s.X [11,0] (b*6+4)*6:=by
  unfold bz;by_cases z:au s.X [11,0] (b*6+4)=0
  ·grind
  ·obtain⟨M,a,e,_⟩:=K z;rw[a];exact e
 have key:nJ b s (qk c s):=by
  have I:iS b s.X s.X:=⟨rfl,rfl,λ_=>rfl⟩
  have E:∀(w:ai × Cu)(N:Cu) (ws:List ai) (cs:List Cl),nJ b s ((cX (Xl ((s.at w.2).at N) ws) (s.at w.2) ws).app [11,0] (b*6+3) cs):=λw N ws cs=>by have H:iS b s.X (Xl ((s.at w.2).at N) ws).X:=iS.single p b _;exact .k d (H.trans (XaB (by show(Xz ((s.at w.2).at N) _).X [11,0]=_;rw[xU (s:=(s.at w.2).at N) p _ ak ak];exact n) ak cs))
  have F:∀(w:ai × Cu)(A:Cu) (x:ae) (ws:List ai),nJ b s (cX (Xl (((s.at w.2).at A).aC [11,0] (b*6+2) [x]) ws) (s.at w.2) ws):=λw A x ws =>.in (i5:=((s.at w.2).at A).aC [11,0] (b*6+2) [x]) (p.of (nD s.X ak _ _)) d (XkK n u aa x)
  have red:∀(w:ai × Cu)(A:Cu) (cs:List Cl),nJ b s (((s.at w.2).at A).app [11,0] (b*6+5) cs):=λw A cs=>.k d (XaB n ak cs);have bad:∀(w:ai × Cu),nJ b s (fu c (s.at w.2) 130):=λw=>.k d I;unfold qk xX tw;dsimp only;generalize Xa c s.cu=w;have D:au (s.at w.2).X [0] 11-1=b:=by show au s.X [0] 11-1=b;rw[G];exact v
  rw[D];refine vQ (λ_=>F _ _ _ _) λ_=>vQ (λ_=>E _ _ _ _) λ_=>vQ (λ_=>?_) λ_=>vQ (λ_=>red _ _ _) λ_=>bad _;generalize hi:kX (s.at w.2).X [11,0] (b*6+4) 6 0 ((Xy c (s.at w.2).cu).1:Int)=i;have hi:i=kX s.X [11,0] (b*6+4) 6 0 ((Xy c (s.at w.2).cu).1:Int):=hi.symm;generalize Xy c (s.at w.2).cu=A at hi|-;generalize aP c A.2 kJ=O;refine vQ (λt=>?_) λt=>vQ (λ_=>vQ (λ_=>?_) λ_=>?_) λ_=>vQ (λ_=>?_) λ_=>?_
  ·exact XI p n u g d hi (λ_ _=>⟨rfl,rfl⟩) λC _ q=>absurd t q
  ·exact XI p n u g d hi (λ_ q=>absurd q t) λC e _=>Nv
  ·exact XI p n u g d hi (λ_ q=>absurd q t) λC e _=>Nv
  ·exact Xzf p n u g d hi (λ_ q=>absurd q t) λC e _=>Nv
  ·exact Xzf p n u g d hi (λ_ q=>absurd q t) λC e _=>Nv
 rw[qh key.1,G,v];exact key.2
theorem Xuq(c:t.X=s.X)(n:ai)(a q:Nat):(jH t n a q).X=(jH s n a q).X:=by obtain⟨cu,X,b,i,r⟩:=t;dsimp only at c;subst c;unfold jH rowOf;dsimp only;cases fq s.X [0] 9 3 0 n<;>rfl
def lZ(t:ao):Prop:=t.rs.bt=iZ->Pu t.X (au t.X [0] 11-1)
theorem qd{p:Prop}[Decidable p]{A B:ao}(a:lZ A)(b:lZ B):lZ (if p then A else B):=aq
theorem lZ.no(h:t.rs.bt=[]):lZ t:=λe=>absurd (h.symm.trans e) ak
theorem lZ.ap{x:Cu}{k:Key}(h:s.rs.bt=[]):lZ (((s.at x).at g8).app k y cs):=.no h
theorem lZ.bad{x:Cu}(h:s.rs.bt=[]):lZ (fu c (s.at x) e):=.no h
theorem lZ.ne{x:ai}(h:t.rs.bt=x)(a:x≠iZ):lZ t:=λe=>absurd (h.symm.trans e) a
theorem XjC{x:Cu}(h:s.rs.bt=[]):lZ (mu ((s.at x).at g8) n cs):=.no (by unfold mu;show(rowOf _ 7 2 n _).2.rs.bt=_;rw[(zc _ _ _ _ _).1];exact h)
theorem XkR{x:Cu}{p:Bool}{l:List ae}(h:s.rs.bt=[]):lZ (qn ((s.at x).at g8) n p l):=.no (by unfold qn;show(rowOf _ 8 2 n _).2.rs.bt=_;rw[(zc _ _ _ _ _).1];exact h)
theorem XnT(a:s.rs.bt=[]):lZ (tn c s):=by
 unfold tn;dsimp only;generalize Xa c _=w;refine qd ?_ (qd ?_ (qd ?_ (qd ?_ (qd ?_ ?_))))
 ·unfold og;exact .ap a
 ·exact .ne (x:=od) rfl ak
 ·exact XjC a
 ·exact XkR a
 ·exact .ap a
 ·exact .bad a
theorem XjE(j:bU s.X)(b:(bz s.X [11,0]).length=au s.X [0] 11*6)(d:s.rs.bt=[]):lZ (mw c s):=by
 unfold mw;dsimp only;generalize Xa c _=w;refine qd ?_ (qd ?_ (qd ?_ (qd ?_ (qd ?_ (qd ?_ ?_)))))
 ·exact .no d
 ·exact .no d
 ·exact .ne (x:=mR) rfl ak
 ·exact XnT d
 ·exact .ne (x:=dj) rfl ak
 ·unfold vR;dsimp only;generalize aP c _ _=y;refine qd (.ne (x:=oq) rfl ak) λ_=>?_;generalize Xb c y.2 1 _=n;generalize dG c n.2=v;have e:bU ((s.at w.2).at v.2).X:=j;have k:=iS.single e 0 [vL,iZ,v.1];have f:bU (Xz _ [vL,iZ,v.1]).X:=(e.single _).1;have a:(Xz _ [vL,iZ,v.1]).X _=s.X [11,0]:=xU e _ ak ak;generalize g:(Xz _ _).X=Y at k f a;have i:((ig ((s.at w.2).at v.2) mo iZ [vL,iZ,v.1] (wU++v.1)).app [0] 11 [.v (sv v.1),.v (.int .u32 n.1),.v (u32 0),.s 0 2,.s 0 6,.s 0 4]).X=bg Y [0] 11 [.v (sv v.1),.v (.int .u32 n.1),.v (u32 0),.s 0 2,.s 0 6,.s 0 4]:=by rw[<-g];rfl
  rw[i,(f.ap 11 _ aa).2.1,YV];have en:au Y [0] 11=au s.X [0] 11:=qh k.1;obtain⟨r,l,_⟩:=f;have h:bg Y [0] 11 [.v (sv v.1),.v (.int .u32 n.1),.v (u32 0),.s 0 2,.s 0 6,.s 0 4] [11,0]=some (.c (bz Y [11,0]++[.v (sv v.1),.v (.int .u32 n.1),.v (u32 0),.s 0 2,.s 0 6,.s 0 4])):=by unfold bg;rw[l];dsimp only;rw[NX.aE _ _ ak,NX.aR]
  have m:(bz Y [11,0]).length=au Y [0] 11*6:=by rw[en,<-b,KQ a]
  intro p q o _ _;exfalso;have:au (bg Y [0] 11 [.v (sv v.1),.v (.int .u32 n.1),.v (u32 0),.s 0 2,.s 0 6,.s 0 4]) [11,0] (au Y [0] 11*6+4)=0:=by
   show(match cl _ [11,0] (au Y [0] 11*6+4)with|.s n _=>n|_=>0)=_
   rw[cU h,lB aa,m,pQ];rfl
  grind
 ·exact .bad d
theorem Xye(h:(jZ c t).cu.er=none):jZ c t=t/\dF t.X [0] 15=false/\t.cu.er=none:=by
 have hf:∀(cu:Cu) cW e,(cB cu cW e).er≠none:=λcu cW e q=>by
  unfold cB at q
  grind
 unfold jZ at h|-;dsimp only at h|-;by_cases b:cH c t.cu=true
 ·rw[ah b]at h;split at h
  ·exact absurd h (hf _ _ _)
  ·split at h
   ·exact absurd h (hf _ _ _)
   ·exact absurd h (hf _ _ _)
 ·rw[af b]at h|-;split at h
  ·exact absurd h (hf _ _ _)
  ·rename_i a;rw[af a];split at h
   ·exact absurd h (hf _ _ _)
   grind
structure DI (s:ao):Prop where
 inv:Inv s
 rN:kO s.X (aS s.X)
 pu:lZ s
theorem XcC(c:iG s)(h:DI s):NH s:=by
 obtain⟨p,q,r,t,u,e1,e2,d,f,e5,g,i,j,k,qq⟩:=Fh;obtain⟨f1,f2,f3,f4,f5,f6,f7,f8,f9,f10,l,g2,g3,m,o⟩:=MY;have bt:=h.inv.bt;unfold BT at bt;have pu:=h.pu;refine⟨λe=>?_,λe=>?_,λe=>?_,λe=>?_,λe=>?_⟩
 ·have:s.aF=mV:=by rcases bt with⟨a,b⟩|⟨a,b⟩|⟨a,b⟩|⟨a,b⟩|⟨a,b⟩|⟨a,b⟩<;>rw[e]at b<;>first|exact a|grind
  cases c with
  |iface h n=>exact n
  |none h=>omega
  |rP h n=>omega
  |ask h n=>omega
  |iY h n=>omega
  |iW h n=>omega
 ·have:s.aF=ni:=by rcases bt with⟨a,b⟩|⟨a,b⟩|⟨a,b⟩|⟨a,b⟩|⟨a,b⟩|⟨a,b⟩<;>rw[e]at b<;>first|exact a|grind
  cases c with
  |rP h n=>exact n
  |none h=>omega
  |iface h n=>omega
  |ask h n=>omega
  |iY h n=>omega
  |iW h n=>omega
 ·have:s.aF=kH:=by rcases bt with⟨a,b⟩|⟨a,b⟩|⟨a,b⟩|⟨a,b⟩|⟨a,b⟩|⟨a,b⟩<;>rw[e]at b<;>first|exact a|grind
  cases c with
  |ask h n=>exact n
  |none h=>omega
  |iface h n=>omega
  |rP h n=>omega
  |iY h n=>omega
  |iW h n=>omega
 ·have:s.aF=oz:=by rcases bt with⟨a,b⟩|⟨a,b⟩|⟨a,b⟩|⟨a,b⟩|⟨a,b⟩|⟨a,b⟩<;>rw[e]at b<;>first|exact a|grind
  cases c with
  |iY h n=>exact n
  |none h=>omega
  |iface h n=>omega
  |rP h n=>omega
  |ask h n=>omega
  |iW h n=>omega
 ·have:s.aF=mo:=by rcases bt with⟨a,b⟩|⟨a,b⟩|⟨a,b⟩|⟨a,b⟩|⟨a,b⟩|⟨a,b⟩<;>rw[e]at b<;>first|exact a|grind
  refine⟨?_,pu e⟩;cases c with
  |iW h n=>exact n
  |none h=>omega
  |iface h n=>omega
  |rP h n=>omega
  |ask h n=>omega
  |iY h n=>omega
theorem XmM(h:PS c o m j s)(a:Fk s.X):mG s.X (mn s.X) (sY s.X):=by obtain⟨_,_,_,_,d5⟩:=h.dev (f:=9) (sz:=3) rfl aa rfl;obtain⟨p,q,e⟩:=a;obtain⟨t,k,u,_⟩:=d5 aa;unfold mn sY;generalize hi:(bI s.X [0] 17).toNat=i at e|-;have hi:i<au s.X [0] 9:=aa;obtain⟨_,_,_,_,l⟩:=h.list k rfl (y:=i*3+1) aa (by rw[fd_row (r:=12) (sz:=3) rfl i 1 aa];rfl);obtain⟨b,n,d,_⟩:=l aa;have d:b.length=au s.X _ _*15:=d;exact⟨⟨_,rfl⟩,⟨_,rfl⟩,b,n,aa⟩
variable {zb0:Nat}{S:Mem}{H1:ay}
theorem Inv.reset(h:Inv s):Inv { s with aF:=0,rs:={ s.rs with bt:=[] } }:=⟨⟨h.top.host,h.top.qF,h.top.iface,h.top.rI,h.top.rO,h.top.iY,h.top.iW⟩,h.BM,h.BZ,λq=>absurd rfl q,.inl ⟨rfl,rfl⟩⟩
theorem WM(h:aS M=aS X\/aS M=kg (aS X) w):∀x∈aS X,x∈aS M:=λx a=>by
 rcases h with h|h
 ·grind
 ·rw[h];exact oK.mpr (.inl a)
theorem TK.sub(h:TK R s t):(∀x∈aS s.X,x∈aS t.X)/\t.rs.num<=s.rs.num+1:=by
 cases h with
 |no a b _ _=>grind
 |key k ws _ a b _ _=>exact⟨WM (.inr b),aq⟩
 |qC k ws bt _ a b _ _ _ _=>exact⟨WM (.inr b),aq⟩
theorem IK.sub(h:IK s t):(∀x∈aS s.X,x∈aS t.X)/\t.rs.num=s.rs.num/\t.rs.bt=s.rs.bt:=by
 rcases h.1 with⟨a,b⟩|⟨ws,_,a,b⟩
 ·grind
 ·exact⟨WM (.inr b),by rw[a],by rw[a]⟩
theorem XlH(P:PS c o m j t)(d:t.X=s.X)(h:DI s)(l:s.rs.bt=[])(g:(mw c s).cu.er.isNone=true)(b:dF (mw c s).X [0] 15=false):DI (mw c s)/\(mw c s).rs.num<=s.rs.num+1:=by
 have i:bU s.X:=by rw[<-d];exact P.wt.root
 have k:=XjH i g;obtain⟨sub,num⟩:=k.sub;refine⟨⟨h.inv.step l k b,?_,?_⟩,num⟩
 ·by_cases p:(Xa c s.cu).1=dj
  ·have e:∃(n:ai)(a q:Nat) (u:ao),mw c s=jH u n a q/\u.X=s.X/\q<=65535:=by
    unfold mw;dsimp only;rw[p,af ak,af ak,af ak,af ak,ah rfl];exact⟨_,_,_,_,rfl,rfl,XaM _ _ _ _⟩
   obtain⟨n,a,q,u,e1,e2,v⟩:=e;have r:=Xuq (e2.trans d.symm) n a q;rw[e1,r]at b|-;exact Xqc P (by rw[d];exact h.rN) n a q v b
  ·exact h.rN.k9 i (k.k9 p) sub
 ·refine XjE i ?_ l;obtain⟨_,_,_,d4,d5⟩:=P.dev (f:=11) (sz:=6) rfl aa rfl;rw[d]at d4 d5;unfold bz
  grind
theorem Xxg(P:PS c o m j s)(h:DI s)(d:iG s)(b:s.rs.bt≠[]):DI (sM c s)/\(sM c s).rs.num<=s.rs.num+1:=by
 have ok:=XcC d h;have a:=Xxt c s λe=>XmM P (ok.i9 e);obtain⟨sub,num,bt⟩:=a.sub;refine⟨⟨h.inv.inner b a,h.rN.k9 P.wt.root a.2.2.2 sub,λe=>?_⟩,aa⟩;rw[bt]at e;obtain⟨f,g⟩:=ok.i11 e;obtain⟨_,_,_,_,_,_,f7,f8,f9,f10,_⟩:=MY;have e1:sM c s=qk c s:=by unfold sM;rw[e,af f7,af f8,af f9,af f10,ah rfl]
 rw[e1];exact XlT P f g
theorem XhE(P:PS c o m j (s.at ⟨0,none⟩))(t:c.X0=s.X)(h:DI s)(w:iG s)(ind:Nat)(u:(ek c (s.at ⟨0,none⟩) ind).cu.er=none)(i:PS c zb0 S H1 (ek c (s.at ⟨0,none⟩) ind)) :
  DI (ek c (s.at ⟨0,none⟩) ind)/\(ek c (s.at ⟨0,none⟩) ind).rs.num<=s.rs.num+1/\iG (ek c (s.at ⟨0,none⟩) ind):=by
 obtain⟨e1,d,hn⟩:=Xye u;have e1:ek c (s.at ⟨0,none⟩) ind=pc c (s.at ⟨0,none⟩) ind:=e1;rw[e1]at i|-;have p:DI (s.at ⟨0,none⟩):=⟨⟨⟨h.inv.top.host,h.inv.top.qF,h.inv.top.iface,h.inv.top.rI,h.inv.top.rO,h.inv.top.iY,h.inv.top.iW⟩,h.inv.BM,h.inv.BZ,h.inv.aF,h.inv.bt⟩,h.rN,h.pu⟩
 have hB:iG (s.at ⟨0,none⟩):=w.congr rfl rfl;have f:bU s.X:=P.wt.root;have g:¬(1<ind\/(ind=1/\(s.at ⟨0,none⟩).rs.bt=[])):=λq=>by unfold pc at hn;rw[ah q]at hn;cases hn
 unfold pc at hn d i|-;rw[af g]at hn d i|-;by_cases v:ind=0
 ·rw[ah v]at hn d i|-;obtain⟨a,b⟩:=XlH (c:=c) (s:={ s.at ⟨0,none⟩with aF:=0,rs:={ (s.at ⟨0,none⟩).rs with bt:=[] } }) P rfl ⟨p.inv.reset,h.rN,.no rfl⟩ rfl (by rw[hn];rfl) d;refine⟨a,b,?_⟩;have ef:=XaC c { s.at ⟨0,none⟩with aF:=0,rs:={ (s.at ⟨0,none⟩).rs with bt:=[] } };have k:=jQ ao.X ef;have r:=jQ ao.aF ef;exact(Xzm (fg { s.at ⟨0,none⟩with aF:=0,rs:={ (s.at _).rs with bt:=[] } }) f rfl i k).congr k r
 ·rw[af v]at hn d i|-;have l:(s.at _).rs.bt≠[]:=λe=>g ((lT 1 ind).imp id λq=>⟨aa,e⟩);obtain⟨a,b⟩:=Xxg P p hB l;refine⟨a,b,?_⟩;have n:(s.at _).aF≠0:=λe=>l (p.inv.bt.iff.mp e);have ef:=Xox (c:=c) p.inv.bt n;have k:=jQ ao.X ef;have r:=jQ ao.aF ef;exact(Xnt (fg (s.at ⟨0,none⟩)) f (hB.congr rfl rfl) n t i k).congr k r
theorem XgP(h:BT s)(x:Ln)(b:c.ws=x.ws)(a:c.ln=x.ln):fg (ek c (s.at ⟨0,none⟩) x.ind)=sS x (fg s):=by
 rw[XhR (s:=s.at ⟨0,none⟩) h];unfold sS;rw[XaD];have:fj c=Mn x:=by unfold fj Mn;rw[b,a]
 rw[this];rfl
theorem Xge(d:Nat){B P O p2 V:Nat}(L:Lc)(l:List (Ln × Lc))(hl:l.length<=4194304)(hw:∀x∈l,x.1.ws.length<=65536/\(∀w∈x.1.ws,w.1.length<=65536/\w.2<=65536)/\∀w∈x.1.ws,w.1≠[])(H:B<=p2)(J:B<=V):∀(n i f:Nat)(o:Nat) (m:aj) (j:ay) (s:ao),i+n=l.length->n<f->B<=m.next ->
  LI true B P O o m j s->DI s->s.rs.num<=i->gv 0 m L l->jS m p2 V->o+lS ((l.drop i).map (·.1))+1<=8589934592 ->
  (∀b,(b=p2\/b=V\/(l≠[]/\b=L.b)\/∃x∈l,b=x.2.b)->∀k,bX true P O s k≠none->(j k).b≠b) ->
  (∀e,mY ((l.drop i).map (·.1)) (fg s)=.error e->∃S,qQ (d9 d) f (I i) (ax L l.length 2) (pt P 0 0) (pt p2 0 0) (pt V 0 0) m=some (.tuple ⟨[zD,aZ e.1 e.2.1,.int .i64 e.2.2]⟩,S)/\Fb B m S) /\
  (∀i5,mY ((l.drop i).map (·.1)) (fg s)=.ok i5->∃S zb0 H1 D,fg D=i5/\qQ (d9 d) f (I i) (ax L l.length 2) (pt P 0 0) (pt p2 0 0) (pt V 0 0) m=Ak (d9 d) (pt P 0 0) (pt p2 0 0) (pt V 0 0) S/\Fb B m S/\LI true B P O zb0 S H1 D/\DI D/\jS S p2 V/\zb0<=o+lS ((l.drop i).map (·.1))/\(∀k,bX true P O D k≠none->(H1 k).b≠p2/\(H1 k).b≠V))
 |0,i,f+1,o,m,j,s,e,hf,z,u,y,U,F,v,r,p=>by
  have:i=l.length:=aa;subst this;have e1:qQ (d9 d) (f+1) (I l.length) (ax L l.length 2) (pt P 0 0) (pt p2 0 0) (pt V 0 0) m=Ak (d9 d) (pt P 0 0) (pt p2 0 0) (pt V 0 0) m:=by unfold qQ;delta E B N ji;simp only[dx,Qb,X3,j1,j4,X5]
  rw[FY];refine⟨λe R=>(by cases R),λi5 Q=>?_⟩;cases Q;exact⟨m,o,j,s,rfl,e1,.refl _ _,u,y,v,Ch _ _,λk hk=>⟨p p2 (.inl rfl) k hk,p V (.inr (.inl rfl)) k hk⟩⟩
 |n+1,i,f+1,o,m,j,s,e,hf,z,u,y,U,F,v,r,p=>by
  have hi:i<l.length:=aa;have T:l≠[]:=λe=>by rw[e]at hi;exact absurd hi (vb _)
  have an:decide (((i:Nat):Int)<((l.length:Nat):Int))=true:=bj aa;have hd:l.drop i=l[i]::l.drop (i+1):=mB hi;have c:l[i]∈l:=Cf hi;generalize hx:l[i]=x at hd c;have am:l[i]?=some x:=by rw[<-hx];exact dX hi
  obtain⟨_,oL,oR,aw,oG⟩:=F.out T;obtain⟨⟨x1,_,x3,x4,a9,x5⟩,_⟩:=F.ls x c;obtain⟨Z,a8,av⟩:=hw x c;rw[hd,lx]at r;have r:o+(x.1.ws.length+3+lS ((l.drop (i+1)).map (·.1)))+1<=8589934592:=r;obtain⟨t,ht⟩:=Vy l i x am;have g0:(oo l)[i*2]?=some (I x.1.ind):=by have:=jQ (·[0]?) ht;simpa[lz]using this
  have g1:(oo l)[i*2+1]?=some (ax x.2 x.1.ws.length 3):=by have:=jQ (·[1]?) ht;simpa[lz]using this
  let Pr:Nat->Prop:=λb=>b=p2\/b=V\/b=L.b\/∃g8∈l,b=g8.2.b;have M:∀b,Pr b->b<m.next/\∀k,bX true P O s k≠none->(j k).b≠b:=λb hb=>by
   rcases hb with rfl|rfl|rfl|⟨g8,hy,rfl⟩
   ·exact⟨v.l2,p _ (.inl rfl)⟩
   ·exact⟨v.l3,p _ (.inr (.inl rfl))⟩
   ·exact⟨oL,p _ (.inr (.inr (.inl ⟨T,rfl⟩)))⟩
   ·exact⟨(F.ls g8 hy).1.2.2.1,p _ (.inr (.inr (.inr ⟨g8,hy,rfl⟩)))⟩
  obtain⟨r1,r2⟩:=Xwq d (qQ (d9 d) f) u z Pr M x.1 x.2 x1 x4 ⟨a9,x5⟩ (.inr (.inr (.inr ⟨x,c,rfl⟩))) (.inr (.inr (.inl rfl))) ⟨_,aw,oG,g0,g1⟩ oR hi hl v (.inl rfl) (.inr (.inl rfl)) H J Z a8 aa av aa ⟨y.inv.top,y.rN.nu⟩ (λq=>⟨(y.inv.aF q).1,XcC u.bk y⟩);have X:fg (ek (eH true P O m.next x.1 x.2 s) (s.at ⟨0,none⟩) x.1.ind)=sS x.1 (fg s):=XgP y.inv.bt x.1 rfl rfl;have al:(ek (eH true P O m.next x.1 x.2 s) (s.at ⟨0,none⟩) x.1.ind).cu=(sS x.1 (fg s)).cu:=by have q:=jQ ao.cu X;exact q
  have e0:qQ (d9 d) (f+1) (I i) (ax L l.length 2) (pt P 0 0) (pt p2 0 0) (pt V 0 0) m=Ag (d9 d) (qQ (d9 d) f) (ax L l.length 2) (I i) (pt P 0 0) (pt p2 0 0) (pt V 0 0) m:=by rw[qQ];delta E B N ji;simp only[dx,Qb,X3,an,X6]
  rw[hd,lx,e0];unfold mY;rw[<-al];cases A:(ek (eH true P O m.next x.1 x.2 s) (s.at ⟨0,none⟩) x.1.ind).cu.er with
  |some er =>refine⟨λe R=>?_,λi5 Q=>(by cases Q)⟩;cases R;exact(r1 er A).2
  |none =>
   obtain⟨m2,b0,aA,w1,w2,w3,w4,w5⟩:=r2 A;have aB:=W.start w3;obtain⟨i7,P1,_⟩:=VO u z JB Pr M x.1 x.2 x1 x4 ⟨a9,x5⟩ (.inr (.inr (.inr ⟨x,c,rfl⟩))) Z a8;obtain⟨dA,dB,dC⟩:=XhE P1 rfl y u.bk x.1.ind A w3;obtain⟨K,Y⟩:=Xs3 w3 dC w5.2.1;obtain⟨q6,_,C⟩:=w5;rw[<-X];generalize ek _ _ _=S2 at *;have ab:jS m2 p2 V:={
    l2:=(C p2 (.inl rfl)).2.1
    l3:=(C V (.inr (.inl rfl))).2.1
    ne:=v.ne
    g2:=by rw[(C p2 (.inl rfl)).1];exact v.g2
    g3:=by rw[(C V (.inr (.inl rfl))).1];exact v.g3 }
   have ac:gv 0 m2 L l:={
    out:=λq=>by
     obtain⟨a,b,c',ty,g⟩:=F.out q;have:=C L.b (.inr (.inr (.inl rfl)))
     grind
    ls:=λg8 hy=>by obtain⟨⟨G,a2,a3,a4,ty,a5⟩,a6⟩:=F.ls g8 hy;have:=C _ (.inr (.inr (.inr ⟨g8,hy,rfl⟩)));exact⟨⟨G,a2,this.2.1,a4,ty,aq⟩,a6⟩ }
   obtain⟨i1,i2⟩:=Xge d L l hl hw H J n (i+1) f _ m2 aA S2 aa aa (by have:=q6.next;omega) K dA aa ac ab aa (λb hb k hk=>by
    have ag:Pr b:=by
     rcases hb with rfl|rfl|⟨_,rfl⟩|h
     ·exact .inl rfl
     ·exact .inr (.inl rfl)
     ·exact .inr (.inr (.inl rfl))
     ·exact .inr (.inr (.inr h))
    exact(C b ag).2.2 k (Y k hk))
   rw[w1];refine⟨λe R=>?_,λi5 Q=>?_⟩
   ·obtain⟨S,G,a2⟩:=i1 e R;exact⟨S,G,q6.trans a2⟩
   ·obtain⟨S,zb0,H1,D,a0,G,a2,a3,a4,a5,a6,a7⟩:=i2 i5 Q;refine⟨S,zb0,H1,D,a0,G,q6.trans a2,a3,a4,a5,?_,a7⟩;show zb0<=o+(x.1.ws.length+3+lS _);omega
end Go.Ab.Sh
namespace Go.Ab
open Go Go.Sort Go.Proofs
variable {B0 b:Nat}{C C':Array Value}{bd:Code}{cs za6:List Value}{zb9:TypeId}{fn:Func}{m:Mem}{y:Option Value}{ro:Bool}{ty:Option Nat}{j:az}
variable {P:Program}{A:World}
theorem XhF{w Z:World}{pl:Pl}{ver c:Nat}(d:Rel B0 j m w)(p:j b=some pl)(n:pl.ro=false)(E:m.get b=some (.cells cs ver c ro ty)){lo hi:Nat}(z:w.heap[pl.aF]?=some (.cells C zb9 (lo,hi)))(A:Z.heap[pl.aF]?=some (.cells C' zb9 (lo,hi)))(I:C'.size=C.size)(R:za6.length=cs.length)(D:∀i v,pl.lo<=i->za6[i]?=some v->∃cv,C'[pl.cb+(i-pl.lo)]?=some cv/\aG j v cv)(o:w.heap.size<=Z.heap.size)(a:∀B,B<w.heap.size->B≠pl.aF->Z.heap[B]?=w.heap[B]?)(H:Z.os=w.os)(s:Z.tape=w.tape)(g:Z.output=w.output) :
  tQ B0 j m w (.tuple ⟨[]⟩) (m.put b (.cells za6 ver c ro ty)) (.tuple ⟨[]⟩) Z:=by
 obtain⟨G,y,e0,l⟩:=d.blocks b pl p;rw[E]at e0;cases e0;obtain⟨M,r2,T,Q,P,K,F,x,N,U,O,V⟩:=l;rw[z]at x;cases x;have e2:(m.put b (.cells za6 ver c ro ty)).next=m.next:=Mem.ij _ _ _;refine⟨j,{ blocks:=λk q hq=>?_,inj:=d.inj,base:=d.base,size:=aO d.size o,fresh:=λk f=>?_ },.tuple _ _ .nil,{
  le:=λk q hq=>⟨q,hq,.inl rfl⟩
  next:=oT e2.symm
  low:=by rw[Mem.kI];omega
  same:=λk f hn=>?_
  os:=H
  tape:=s
  output:=g
  size:=o
  frame:=λB hB h=>a B hB λe=>h b pl p n e.symm
  oE:=λk q hq hr=>.inl ⟨k,q,hq,hr,rfl⟩
  un:=λk f hn=>?_ }⟩
 ·by_cases e:k=b
  ·subst e;rw[p]at hq;cases hq;refine⟨aa,_,Cm,?_⟩;exact⟨M,r2,aa,C',zb9,lo,hi,A,I.trans N,D,O,λt s=>aq⟩
  ·obtain⟨S,L,J,u⟩:=d.blocks k q hq;refine⟨aa,L,by rwa[Mem.aX,af (bq e)],?_⟩;exact iF.of_heap (a _ u.there λr=>e (d.inj b k pl q p hq n r.symm).symm) u
 ·rw[e2]at f;rw[Mem.aX,af aa];exact d.fresh k f
 ·rw[Mem.kI]at f;have:k≠b:=by omega
  exact⟨by rw[Mem.aX,af (bq this)],rfl⟩
 ·have:k≠b:=λe=>by grind
  exact⟨hn,by rw[Mem.aX,af (bq this)]⟩
theorem Xpp(h:isInt y=true):y=some (.int .i64 (intOf y)):=by
 cases y with
 |none=>cases h
 |some v =>
  cases v with
  |int k n=>cases k<;>first|rfl|cases h
  |_=>cases h
theorem vH(x g8:Int):(pv x g8<0)↔x<g8:=by
 unfold pv
 grind
theorem Wy{α:Type}(k:α->Int):SWO (ltOf λx g8=>pv (k x) (k g8)) where
 irrefl:=λx=>bJ (by rw[vH];omega)
 trans:=λx g8 z h1 h2=>by have h1:=(vH _ _).mp (aT h1);have h2:=(vH _ _).mp (aT h2);exact bj ((vH _ _).mpr aa)
 ntrans:=λx g8 z h1 h2=>by have h1:=mt (vH _ _).mpr (aV h1);have h2:=mt (vH _ _).mpr (aV h2);exact bJ (mt (vH _ _).mp aa)
theorem LC(cs:List ae)(y n:Nat):(gK cs y n).size=n/\∀q,q<n->(gK cs y n)[q]!<n:=by have h:=(pdq_sorts _ (Wy (keyOf cs y n)) (Array.range n) 0 n (Go.Lib.bitLen n) true true c7 ar (Or.inl rfl)).1;refine⟨h.1.trans ar,λq a=>?_⟩;exact permIn_all _ _ 0 n (λx=>x<n) ar h (λi _ hi=>by simp[hi]) q c7 a
theorem Xjx{b:Type}(f:Nat->List b)(hf:∀i,(f i).length=15):∀(d:List Nat),(d.flatMap f).length=d.length*15/\∀q r,r<15->q<d.length->(d.flatMap f)[q*15+r]?=(f (d[q]?.getD 0))[r]?
 |[]=>⟨rfl,λq r _ h=>absurd h (vb _)⟩
 |a::d=>by
  obtain⟨c,e⟩:=Xjx f hf d
  grind
theorem WC{b:Type}(z:b)(cs:List b)(d:Array Nat)(y n:Nat)(o:d.size=n)(s:∀q,q<n->d[q]!<n)(h:y+n*15<=cs.length) :
  (d.toList.flatMap λi=>(cs.drop (y+i*15)).take 15).length=n*15/\∀q r,q<n->r<15->(d.toList.flatMap λi=>(cs.drop (y+i*15)).take 15)[q*15+r]?=cs[y+(d[q]!*15+r)]?:=by
 have j:d.toList.length=n:=by rwa[pL]
 have hd:∀q,q<n->d.toList[q]?.getD 0=d[q]!:=λq m=>by grind
 have c:∀i,i<n->((cs.drop (y+i*15)).take 15).length=15:=λi hi=>aq;let f:Nat->List b:=λi=>if i<n then(cs.drop (y+i*15)).take 15 else List.replicate 15 z;have hf:∀i,(f i).length=15:=λi=>by grind
 have k:∀i∈d.toList,i<n:=λi hi=>by
  obtain⟨q,m⟩:=List.getElem?_of_mem hi
  grind
 have g:∀l:List Nat,(∀i∈l,i<n)->(l.flatMap λi=>(cs.drop (y+i*15)).take 15)=l.flatMap f:=by
  intro l
  induction l with
  |nil=>simp
  |cons a l p =>grind
 obtain⟨e,g2⟩:=Xjx f hf d.toList;rw[j]at e g2;rw[g _ k]
 grind
theorem XaG(cs:List ae)(y n:Nat)(h:y+n*15<=cs.length):(oO cs y n).length=cs.length/\(∀i,i<y\/y+n*15<=i->(oO cs y n)[i]?=cs[i]?)/\∀q r,q<n->r<15->(oO cs y n)[y+(q*15+r)]?=cs[y+((gK cs y n)[q]!*15+r)]?:=by
 obtain⟨e,f⟩:=LC cs y n;obtain⟨b,g2⟩:=WC .nilFunc cs (gK cs y n) y n e f h;have a:(cs.take y).length=y:=vd;unfold oO;refine⟨aq,λi hi=>?_,λq r c d=>?_⟩
 ·rcases hi with hi|hi
  ·grind
  ·rw[lB aq,fy,a,b,lz]
   grind
 ·rw[uU aq,lB aa,a,show y+(q*15+r)-y=q*15+r by omega,g2 q r c d]
theorem Xuo{f0 g0:FuncId}(hf:P.funcs[f0]?=some fn)(hb:fn.body=some bd)(hn:(fn.name== "runtime.NumGoroutine")=false)(L:∀(p:Option Addr)(o:Nat) (fv:ae) (w:World),Calls P f0 #[.slice p 0 o,fv] w λe Z=>e=.returned (.tuple #[])/\Z=w)(a0:∀(k:Nat->List ae)(hk:∀x,(k x).length=15) (h1:∀x,∀v∈k x,v.oneCell'=true) (Q:Nat->Nat->Int) (hO:SWO (ltOf Q)) (aF N o:Nat) (d:Array Nat) (w:World) (R:CmpLays P g0 #[] k 15 Q aF N d.size w) (hH:HoldsK k 15 w aF N d) (K:aF<w.heap.size) (b8:d.size<4611686018427387904),
   Calls P f0 #[.slice (some ⟨aF,N,none⟩) d.size o,.func (.func g0) #[] #[]] w λe Z=>e=.returned (.tuple #[])/\∃(n:Nat)(os:Array Obj),Z=sortWorldK k 15 w aF N n (pdq (ltOf Q) d 0 d.size (Go.Lib.bitLen d.size) true true) os)(al:∀(a b:List ae)(x g8:Int) (w:World),a.length=15->b.length=15->a[0]?=some (.int .i64 x)->b[0]?=some (.int .i64 g8)->Calls P g0 #[.agg a.toArray,.agg b.toArray] w λe Z=>e=.returned (.int .i64 (pv x g8))/\∃q aB,Z=grow (w.drewN q) aB):ia P A (LG f0 g0):=by
 intro j m w f b1 Y v S hR hB hA D;unfold LG at D;dsimp only at D;split at D
 ·rename_i s n t g a c;split at D
  ·rename_i hc;obtain⟨rfl,rfl,ha,hc⟩:=hc;cases hA with
   |cons _ v1 _ l1 ab an =>
   cases an with
   |cons _ v2 _ l2 E av =>
   cases av;cases E with
   |func _ _ _ a' c' ra rc =>
   rw[ha]at ra;rw[hc]at rc;have ea:a'=#[]:=by cases a';cases ra;rfl
   have ec:c'=#[]:=by cases c';cases rc;rfl
   subst ea ec;cases n with
   |zero =>
    simp only[cE,kN]at D;obtain⟨rfl,rfl⟩:=D;cases ab with
    |qx=>exact xP (enters hf hb hn _ _) (L none 0 _ w) hR (.tuple _ _ .nil)
    |slice b y es _ _ B O o pl h am a5 M hp=>exact xP (enters hf hb hn _ _) (L _ o _ w) hR (.tuple _ _ .nil)
   |succ n =>
    cases ab with
    |slice b y es _ _ B O o pl a7 am a5 M hp =>
    simp only at D;split at D
    ·rename_i J;obtain⟨J,b2⟩:=J;have J:es=15:=pM J;subst J;split at D
     ·rename_i cs ver b4 ro ty a3;split at D
      ·rename_i hh;obtain⟨rfl,g1,g2,g3,g4,g5⟩:=hh;simp only[cE,kN]at D;obtain⟨rfl,rfl⟩:=D;obtain⟨b7,o2,e0,a9⟩:=hR.blocks b pl a7;rw[a3]at e0;cases e0;obtain⟨r1,r2,r3,C,ag,lo,hi,r4,r5,r6,r7,r8⟩:=a9;obtain⟨aA,_⟩:=hp (by rw[g2,r1]);have a1:o≠0:=by omega
       obtain⟨rfl,p2,V,p4⟩:=aA.resolve_left a1;have b5:O+(n+1)*15<=C.size:=by have:(n+1)*15<=o*15:=lU _ a5;omega
       have z:∀l,l<(n+1)*15->∃v cv,cs[y+l]?=some v/\C[O+l]?=some cv/\aG j v cv:=λl hj=>by have a4:y+l<cs.length:=aa;obtain⟨cv,H,I⟩:=r6 (y+l) cs[y+l] aa (dX a4);refine⟨cs[y+l],cv,dX a4,?_,I⟩;rw[<-H];congr 1;omega
       let k:Nat->List ae:=λi=>if i<n+1 then(C.toList.drop (O+i*15)).take 15 else List.replicate 15 (.int .i64 0);have el:∀i,i<n+1->k i=(C.toList.drop (O+i*15)).take 15:=λi hi=>ah hi;have er:∀i,¬i<n+1->k i=List.replicate 15 (.int .i64 0):=λi hi=>af hi;have row:∀i r,i<n+1->r<15->(k i)[r]?=C[O+(i*15+r)]?:=λi r hi M=>by rw[el i hi,jP,ah M,lz,FW,wJ]
       have hk:∀x,(k x).length=15:=λx=>by
        by_cases G:x<n+1
        ·rw[el x G,kl,tE,pL];omega
        ·rw[er x G,List.length_replicate]
       have h1:∀x,∀u∈k x,u.oneCell'=true:=λx u hu=>by
        by_cases G:x<n+1
        ·obtain⟨r,M⟩:=List.getElem?_of_mem hu;have a8:r<15:=by
          have:=(dO.mp M).1;rwa[hk x]at this
         rw[row x r G a8]at M;obtain⟨u0,cv,H,I,W⟩:=z (x*15+r) aa;rw[I]at M;cases M;exact Xu7 W (cL.mp g4 u0 (jO H))
        ·rw[er x G]at hu;rw[(List.mem_replicate.mp hu).2];rfl
       have hz:∀x,(k x)[0]?=some (.int .i64 (intOf (k x)[0]?)):=λx=>by
        by_cases G:x<n+1
        ·obtain⟨u0,cv,H,I,W⟩:=z (x*15+0) aa;have q4:=Xpp (g5 x G);rw[gp]at H;rw[q4]at H;cases H;cases W;rw[row x 0 G aa,I];rfl
        ·rw[er x G];rfl
       let Q:Nat->Nat->Int:=λx g8=>pv (intOf (k x)[0]?) (intOf (k g8)[0]?);have R:CmpLays P g #[] k 15 Q pl.aF O (Array.range (n+1)).size w:=λq os dk _ x g8=>al (k x) (k g8) _ _ _ (hk x) (hk g8) (hz x) (hz g8);have hH:HoldsK k 15 w pl.aF O (Array.range (n+1)):=λl hj=>by
        rw[size_flatK,Nc]at hj;have a2:l / 15<n+1:=aa;obtain⟨u0,cv,H,I,W⟩:=z l hj;constructor
        ·have e1:(flatK k 15 (Array.range (n+1)))[l]! = cv:=by
          rw[get_flatK _ _ _ _ (by rwa[Nc])];have e2:(Array.range (n+1))[l / 15]! = l / 15:=by simp[a2]
          rw[e2];have e3:=row (l / 15) (l%15) a2 (kM _ aa);rw[show l / 15*15+l%15=l by omega,I]at e3;rw[XeR,e3];rfl
         rw[e1];show w.cell? ⟨pl.aF,O+l,none⟩=some cv;unfold World.cell?;simp only[r4];exact I
        ·show w.frozen? ⟨pl.aF,O+l,none⟩=false;unfold World.frozen?;simp only[r4];have:=r7 rfl (y+l) aa aa aa;rw[show pl.cb+(y+l-pl.lo)=O+l by omega]at this;by_cases l1:lo<=O+l
         ·have l2:¬O+l<hi:=λq=>this ⟨l1,q⟩;simp[l2]
         ·simp[l1]
       have K:pl.aF<w.heap.size:=by
        rcases lT pl.aF w.heap.size with q|q
        ·exact q
        ·rw[Array.getElem?_eq_none q]at r4;cases r4
       have X:=a0 k hk h1 Q (Wy _) pl.aF O o (Array.range (n+1)) w R hH K (by rw[Nc];omega);rw[Nc]at X;have T:∀x,intOf (k x)[0]?=keyOf cs y (n+1) x:=λx=>by
        unfold keyOf;by_cases G:x<n+1
        ·rw[ah G];obtain⟨u0,cv,H,I,W⟩:=z (x*15+0) aa;have q4:=Xpp (g5 x G);rw[gp]at H;rw[row x 0 G aa,I,H];rw[q4]at H;cases H;cases W;rfl
        ·rw[af G,er x G];rfl
       have a6:pdq (ltOf Q) (Array.range (n+1)) 0 (n+1) (Go.Lib.bitLen (n+1)) true true=gK cs y (n+1):=by
        unfold gK;have:Q=λx g8=>pv (keyOf cs y (n+1) x) (keyOf cs y (n+1) g8):=by funext x g8;show pv (intOf (k x)[0]?) (intOf (k g8)[0]?)=_;rw[T,T]
        rw[this];rfl
       rw[a6]at X;obtain⟨o1,ac⟩:=LC cs y (n+1);obtain⟨t1,t2,t3⟩:=XaG cs y (n+1) g3;refine .inl ⟨enters hf hb hn _ _,X.mono λe Z ⟨he,q,os,hw⟩=>⟨_,he,?_⟩⟩;subst hw;have F:(sortWorldK k 15 w pl.aF O q (gK cs y (n+1)) os).heap=w.heap.modify pl.aF (onCells (putCells id O (flatK k 15 (gK cs y (n+1)))))++os:=rfl;refine XhF (za6:=oO cs y (n+1)) (C:=C) (C':=putCells id O (flatK k 15 (gK cs y (n+1))) C) (zb9:=ag) (lo:=lo) (hi:=hi) hR a7 r2 a3 r4 ?_ ?_ t1 (λi v hi hv=>?_) ?_ (λB hB aw=>?_) rfl rfl rfl
       ·rw[F,Nd (by simpa using K),F9,ah rfl,r4];rfl
       ·simp[putCells]
       ·have U:∀l cv,C[l]?=some cv->(putCells id O (flatK k 15 (gK cs y (n+1))) C)[l]?=some (if O<=l/\l<O+(n+1)*15 then(flatK k 15 (gK cs y (n+1)))[l-O]! else cv):=λl cv hj=>by
         unfold putCells;rw[Array.getElem?_mapIdx,hj,size_flatK,o1];rfl
        by_cases b6:y<=i/\i<y+(n+1)*15
        ·obtain⟨a,ha⟩:∃a,i=y+a:=⟨i-y,aa⟩
         subst ha;have e1:a=a / 15*15+a%15:=aa;have hq:a / 15<n+1:=aa;have M:a%15<15:=kM _ aa;have E:=t3 (a / 15) (a%15) hq M;rw[<-e1,hv]at E;obtain⟨u0,cv,H,I,W⟩:=z ((gK cs y (n+1))[a / 15]!*15+a%15) (by have:=ac _ hq;omega);rw[H]at E;cases E;obtain⟨u1,b3,_,b0,_⟩:=z a aa;refine⟨cv,?_,W⟩;rw[show pl.cb+(y+a-pl.lo)=O+a by omega,U _ _ b0,ah ⟨aa,aa⟩,show O+a-O=a by omega,get_flatK _ _ _ _ (by rw[o1];omega)];congr 1;have e3:=row _ (a%15) (ac _ hq) M;rw[I]at e3;rw[XeR,e3];rfl
        ·have E:=t2 i aa;rw[hv]at E;obtain⟨cv,k1,k2⟩:=r6 i v hi E.symm;refine⟨cv,?_,k2⟩;rw[U _ _ k1,af aa]
       ·rw[F];simp
       ·rw[F,Nd (by simpa using hB),F9,af (bq aw)]
      ·cases D
     ·cases D
    ·cases D
  ·cases D
 ·cases D
def oH(key:Nat->Int)(p:List Nat)(i:Nat):Nat->Nat
 |0=>0
 |k+1=>if key i<key (p[k]?.getD 0)then oH key p i k else k+1
def yQ(key:Nat->Int)(p:List Nat)(i:Nat):List Nat:=p.take (oH key p i p.length)++[i]++p.drop (oH key p i p.length)
def eW(key:Nat->Int):Nat->List Nat
 |0=>[]
 |n+1=>yQ key (eW key n) n
theorem VF(key:Nat->Int)(p:List Nat)(i:Nat):∀n,oH key p i n<=n/\(∀d,oH key p i n<=d->d<n->key i<key (p[d]?.getD 0))/\(0<oH key p i n->key (p[oH key p i n-1]?.getD 0)<=key i)
 |0=>⟨c6 _,λd _ h=>absurd h (vb _),λh=>absurd h (vb _)⟩
 |n+1=>by
  obtain⟨a,b,c⟩:=VF key p i n;unfold oH;by_cases h:key i<key (p[n]?.getD 0)
  ·rw[ah h]
   grind
  ·rw[af h]
   grind
theorem Xx7(key:Nat->Int)(p:List Nat)(i:Nat):(yQ key p i).Perm (i::p):=by unfold yQ;rw[lV];show(p.take _++i::p.drop _).Perm _;refine List.perm_middle.trans ?_;simp
theorem Ku(key:Nat->Int):∀n,(eW key n).Perm (List.range n)
 |0=>.refl _
 |n+1=>by unfold eW;rw[List.range_succ];exact(Xx7 key _ n).trans (((Ku key n).cons n).trans (List.perm_append_singleton n _).symm)
theorem Xqq(key:Nat->Int)(p:List Nat)(i:Nat)(h:p.Pairwise λa b=>key a<=key b):(yQ key p i).Pairwise λa b=>key a<=key b:=by
 obtain⟨g,f,j⟩:=VF key p i p.length;unfold yQ;generalize oH key p i _=k at g f j;have l:=List.pairwise_iff_getElem.mp h;have lo:∀a∈p.take k,key a<=key i:=λa c=>by
  obtain⟨e,d,rfl⟩:=List.getElem_of_mem c
  grind
 have hi:∀a∈p.drop k,key i<=key a:=λa c=>by
  obtain⟨e,d,rfl⟩:=List.getElem_of_mem c;rw[tE]at d;rw[List.getElem_drop];have:=f (k+e) aa aa
  grind
 grind
theorem Xe0(key:Nat->Int):∀n,(eW key n).Pairwise λa b=>key a<=key b
 |0=>.nil
 |n+1=>Xqq key _ n (Xe0 key n)
theorem Xvp(cs:List ae)(n:Nat)(q:∀a b,a<n->b<n->keyOf cs 0 n a=keyOf cs 0 n b->a=b):(gK cs 0 n).toList=eW (keyOf cs 0 n) n:=by
 obtain⟨⟨e,_,c⟩,f⟩:=pdq_sorts (ltOf λi h=>pv (keyOf cs 0 n i) (keyOf cs 0 n h)) (Wy (keyOf cs 0 n)) (Array.range n) 0 n (Go.Lib.bitLen n) true true c7 ar (Or.inl rfl);have hd:pdq (ltOf _) _ 0 n _ _ _=gK cs 0 n:=rfl;rw[hd]at e c f;generalize gK cs 0 n=d at e c f;have o:d.size=n:=e.trans ar;have l:d.toList.Perm (List.range n):=by
  have e1:d.extract 0 n=d:=by rw[<-o];simp
  have e2:((Array.range n).extract 0 n).toList=List.range n:=ar;rwa[e1,e2]at c
 refine List.Perm.eq_of_pairwise (λa b j k x p=>?_) ?_ (Xe0 _ n) (l.trans (Ku _ n).symm)
 ·have j:=zn.mp (l.mem_iff.mp j);have k:=zn.mp ((Ku _ n).mem_iff.mp k)
  grind
 ·rw[List.pairwise_iff_getElem];intro i h hi m g;rw[pL]at hi m;have:=f i h c7 g aa;have:=mt (vH _ _).mpr (aV this)
  grind
end Go.Ab
namespace Go.Ab
open Go
theorem XiO{m:aj}{e size bytes n k:Nat}{L:Lc}{c new:List ae}{ty:Option Nat}{a:Option Addr}{r0:Nat}(h:n≠0->m.get L.b=some (.cells c L.ver 0 false ty))(v:n≠0->L.r<2)(x:c.length=n*size)(p:jG size k (.slice a k r0) m=some new)(F:new.length=k*size)(u:new.all one=true)
  (E:1<=size) (j:fits (n+k) bytes=true) :
  ∃d w S,dn e size bytes (ax L n size) (.slice a k r0) m=some (ax d (n+k) size,S)/\(n+k≠0->S.get d.b=some (.cells (c++new) d.ver 0 false w)/\d.r<2)/\(∀b,b<m.next->b≠d.b->S.get b=m.get b) /\
   ((k=0/\d=L/\S=m)\/(d.b=L.b/\n≠0/\S.next=m.next/\S.low=min m.low L.b)\/(d.b=m.next/\S.next=m.next+1/\S.low=m.low)):=by
 have i:Nat.ble 1 size=true:=eE.mpr E;by_cases s:n=0
 ·subst s;have:c=[]:=oQ aa;subst this;have e0:ax L 0 size=.slice _ 0 0:=rfl;by_cases f:k=0
  ·subst f;have:new=[]:=oQ aa;subst this;refine⟨L,none,m,?_,λq=>absurd rfl q,λ_ _ _=>rfl,.inl ⟨rfl,rfl,rfl⟩⟩;rw[e0];refine uA ?_;unfold fP j5;simp only[kC,p,i,Cb,nG,iQ,dp,dV,dW]
  ·rw[aQ]at j|-;refine⟨⟨m.next,0,0⟩,some (2*e),m.push (.cells new 0 0 false (some (2*e))),?_,λ_=>⟨by show(m.push _).get m.next=_;rw[Mem.bV,ah rfl];rfl,ar⟩,λb l g=>rV,.inr (.inr ⟨rfl,rfl,rfl⟩)⟩;rw[e0];refine uA ?_;unfold fP j5;simp only[kC,p,u,i,nG,iQ,dp,dV,af f,j,dW];unfold ax;rw[af f];rfl
 ·have t:=h s;have v:=v s;have e0:ax L n size=.slice (some ⟨L.b,0,some size⟩) n (2*L.ver+L.r):=af s;have e1:(2*L.ver+L.r) / 2=L.ver:=by omega
  have e5:Nat.ble (0+n*size) c.length=true:=eE.mpr aa;have A:c.take (0+n*size)=c:=by rw[aQ,<-x,tJ]
  by_cases f:k=0
  ·subst f;have:new=[]:=oQ aa;subst this;refine⟨L,ty,m,?_,λ_=>⟨by rw[lC];exact t,v⟩,λ_ _ _=>rfl,.inl ⟨rfl,rfl,rfl⟩⟩;rw[e0,gp];refine uA ?_;unfold fP j5;simp only[kC,p,i,Cb,nG,iQ,dp,dV,t,e1,tH,e5,j,tI,dW];rw[e0]
  ·have o:n+k≠0:=by omega
   have:L.r=0\/L.r=1:=aa;rcases this with C|D
   ·have e2:(2*L.ver+L.r)%2=0:=by omega
    have y:Nat.ble 0 (0+n*size)=true:=eE.mpr c7;have B:j5 e size bytes (.slice (some ⟨L.b,0,some size⟩) n (2*L.ver+L.r)) (.slice a k r0) m=some (.slice (some ⟨L.b,0,some size⟩) (n+k) (2*(L.ver+1)),m.put L.b (.cells (c++new) (L.ver+1) 0 false (pF ty (2*e)))):=by unfold j5;simp only[kC,p,u,i,nG,iQ,dp,dV,t,e1,tH,e5,j,tI,e2,y,pJ,dW,af f,A,Nat.zero_ne_one]
    refine⟨⟨L.b,L.ver+1,0⟩,pF ty (2*e),m.put L.b _,?_,λ_=>⟨by show(m.put _ _).get L.b=_;rw[Mem.aX,ah rfl],ar⟩,λb l g=>by rw[Mem.aX,af (bq g)],.inr (.inl ⟨rfl,s,Mem.ij ..,Mem.kI ..⟩)⟩;rw[e0];unfold ax;rw[af o];exact uA B
   ·have z:(2*L.ver+L.r)%2=1:=by omega
    refine⟨⟨m.next,0,0⟩,some (2*e),m.push (.cells _ 0 0 _ _),?_,λ_=>⟨by show(m.push _).get m.next=_;rw[Mem.bV,ah rfl],ar⟩,λb l g=>rV,.inr (.inr ⟨rfl,rfl,rfl⟩)⟩;rw[e0];unfold ax;rw[af o];refine uA ?_;unfold fP j5;simp only[kC,p,u,i,nG,iQ,dp,dV,t,e1,tH,e5,j,tI,z,dW,af f,mA];rw[<-x,tJ]
end Go.Ab
namespace Go.Ab.Sh
open Go Go.Ab Go.Lib
variable {B n r0:Nat}{L:Lc}{c cs new:List Value}{m:Mem}
theorem XgA(L:Lc)(j:L.r<2)(n sz k:Nat)(d:k<=n):∃a r,qc sz (ax L n sz) none (some (I k))=some (.slice a k r)/\∀(m:aj)(cs:List ae) (ty:Option Nat),(n≠0->m.get L.b=some (.cells cs L.ver 0 false ty))->cs.length=n*sz->jG sz k (.slice a k r) m=some (cs.take (k*sz)):=by
 have e:∀N,k<=N->bound (some (I k)) N N=some k:=λN h=>by rw[V1];unfold E2;grind
 by_cases c:n=0
 ·subst c;have:k=0:=by omega
  subst this;refine⟨none,0,?_,λm cs ty _ f=>?_⟩
  ·rfl
  ·rw[Nat.zero_mul,zo];rfl
 ·refine⟨some ⟨L.b,0+0*sz,some sz⟩,if k=n then 2*L.ver+L.r else(2*L.ver+L.r) / 2*2,?_,λm cs ty h f=>?_⟩
  ·unfold ax;rw[af c];unfold qc;dsimp only;rw[e n d];show(if some sz=some sz then some _ else none)=_;simp
  ·unfold jG;dsimp only;rw[ah rfl,jF];unfold iI;dsimp only;rw[h c];have g:(if k=n then 2*L.ver+L.r else(2*L.ver+L.r) / 2*2) / 2=L.ver:=by split<;>omega
   have i:k*sz<=n*sz:=lU _ d;rw[g];simp;omega
theorem XhY(L:Lc)(l:L.r<2)(n sz k:Nat)(f:k<=n):∃a r,qc sz (ax L n sz) (some (I k)) none=some (.slice a (n-k) r)/\∀(m:aj)(cs:List ae) (ty:Option Nat),(n≠0->m.get L.b=some (.cells cs L.ver 0 false ty))->cs.length=n*sz->jG sz (n-k) (.slice a (n-k) r) m=some (cs.drop (k*sz)):=by
 have e:∀d N,k<=N->bound (some (I k)) d N=some k:=λd N h=>by rw[V1];unfold E2;grind
 by_cases c:n=0
 ·subst c;have:k=0:=by omega
  subst this;refine⟨none,0,?_,λm cs ty _ g=>?_⟩
  ·rfl
  ·have:cs=[]:=oQ aa;subst this;rw[List.drop_nil];rfl
 ·refine⟨some ⟨L.b,0+k*sz,some sz⟩,2*L.ver+L.r,?_,λm cs ty h g=>?_⟩
  ·unfold ax;rw[af c];unfold qc;dsimp only;rw[show bound _ n n=some n from rfl];dsimp only;rw[e 0 n f];simp
  ·unfold jG;dsimp only;rw[ah rfl,jF];unfold iI;dsimp only;rw[h c];have i:(2*L.ver+L.r) / 2=L.ver:=by omega
   have j:k*sz+(n-k)*sz=n*sz:=by rw[<-rU];congr 1;omega
   rw[i];simp only[aQ];rw[ah aq,zj aq]
def fT(cs:List ae)(p:List Nat):List ae:=p.flatMap λi=>(cs.drop (i*15)).take 15
theorem ED{cs:List ae}{n:Nat}(f:cs.length=n*15):∀{p:List Nat},(∀i∈p,i<n)->(fT cs p).length=p.length*15/\(∀k r,k<p.length->r<15->(fT cs p)[k*15+r]?=cs[(p[k]?.getD 0)*15+r]?)/\∀k,(fT cs p).take (k*15)=fT cs (p.take k)/\(fT cs p).drop (k*15)=fT cs (p.drop k)
 |[],h=>⟨rfl,λk r h=>absurd h (vb _),λk=>⟨by simp[fT],by simp[fT]⟩⟩
 |a::p,h=>by
  obtain⟨g,j,d⟩:=ED f (p:=p) λi hi=>h i (gC _ hi);have l:=h a br;have b:((cs.drop (a*15)).take 15).length=15:=Zl;have e:fT cs (a::p)=(cs.drop (a*15)).take 15++fT cs p:=by unfold fT;rw[Y4]
  rw[e];refine⟨aq,λk r m o=>?_,λk=>?_⟩
  ·grind
  ·cases k with
   |zero=>trivial
   |succ k =>
    obtain⟨x,g8⟩:=d k;have c:(k+1)*15=15+k*15:=aa;constructor
    ·rw[List.take_append,b,show(k+1)*15-15=k*15 by omega,x,zj aa,Y5];rfl
    ·rw[List.drop_append,b,show(k+1)*15-15=k*15 by omega,g8,wK aa,Y6,my]
def pW(B:Nat)(m:aj)(L:Lc)(n:Nat)(cs:List ae):Prop:=n≠0->L.r<2/\B<=L.b/\L.b<m.next/\∃ty,m.get L.b=some (.cells cs L.ver 0 false ty)
theorem pW.oI{S:aj}(h:pW B m L n cs)(hn:m.next<=S.next)(e:n≠0->S.get L.b=m.get L.b):pW B S L n cs:=λq=>by
 obtain⟨a,b,c,ty,d⟩:=h q
 grind
theorem Wq{k:Nat}{a:Option Addr}(h:pW B m L n c)(t:c.length=n*15)(y:jG 15 k (.slice a k r0) m=some new)(v:new.length=k*15)(p:new.all one=true)(hB:B<=m.next)(f:n+k<=8589934592)(e:Nat) :
  ∃g S,dn e 15 168 (ax L n 15) (.slice a k r0) m=some (ax g (n+k) 15,S)/\pW B S g (n+k) (c++new)/\Fb B m S/\(∀b,b<m.next->(n≠0->b≠L.b)->S.get b=m.get b/\(n+k≠0->b≠g.b)):=by
 have hf:fits (n+k) 168=true:=by have p:(n+k)*168<=8589934592*168:=lU _ f;unfold fits;rw[eE.mpr aa,eE.mpr aa];rfl
 have j:∃ty,n≠0->m.get L.b=some (.cells c L.ver 0 false ty):=by
  by_cases z:n=0
  ·simp_all
  ·obtain⟨_,_,_,ty,q⟩:=h z
   grind
 obtain⟨ty,u⟩:=j;obtain⟨g,o,S,A,r,i,l⟩:=XiO (e:=e) u (λq=>(h q).1) t y v p aa hf;refine⟨g,S,A,λq=>⟨(r q).2,?_,?_,o,(r q).1⟩,?_,λb s C=>?_⟩
 ·rcases l with⟨x,d,z⟩|⟨x,d,_⟩|⟨x,_⟩
  ·subst x;rw[d];exact(h aa).2.1
  ·rw[x];exact(h d).2.1
  ·omega
 ·rcases l with⟨x,d,z⟩|⟨x,d,z,_⟩|⟨x,d,_⟩
  ·subst x;rw[d,z];exact(h aa).2.2.1
  ·rw[x,z];exact(h d).2.2.1
  ·omega
 ·rcases l with⟨x,d,z⟩|⟨x,d,z,w⟩|⟨x,d,z⟩
  ·rw[z];exact .refl _ _
  ·obtain⟨_,D,E,_⟩:=h d;exact{ next:=aa,low:=aa,bQ:=λd a b=>aa,get:=λb f=>i b aa aa,lo:=λb f=>(Decidable.em _).elim (λe=>.inl aa) λe=>.inr (i b f e) }
  ·exact{ next:=aa,low:=aa,bQ:=λd a b=>aa,get:=λb f=>i b aa aa,lo:=λb f=>.inr (i b f aa) }
 grind
theorem Xw9(M':Gt)(k0:ae->ae->ae->aj->Option Rs){cs:List ae}{n:Nat}{key:Nat->Int}{p:List Nat}{i:Nat}{Lo Li:Lc}{m:aj}(hi:i<n)(j:∀x∈p,x<n)(o:p.length<=8589934592)(c:Lo.r<2)(a:Li.r<2)
  (e:p.length≠0->∃ty,m.get Lo.b=some (.cells (fT cs p) Lo.ver 0 false ty)) (d:∃ty,m.get Li.b=some (.cells cs Li.ver 0 false ty)) (s:cs.length=n*15) (g:∀q,q<n->cs[q*15]?=some (.int .i64 (key q))):∀(k f:Nat),k<=p.length->k<f ->
  Ah M' k0 f (I k) (ax Lo p.length 15) (ax Li n 15) (I i) m=Ig M' k0 (ax Lo p.length 15) (I (oH key p i k)) (ax Li n 15) (I i) m
 |0,f+1,_,_=>by rfl
 |k+1,f+1,u,hf=>by
  have y:=Xw9 M' k0 hi j o c a e d s g k f aa aa;obtain⟨D,r2,_⟩:=ED s j;obtain⟨C,e⟩:=e aa;obtain⟨z,d⟩:=d;have e1:bin .gtr true true .int (I (k+1:Nat)) (.int .i64 0)=some (.bool true):=by rw[iT,bj aa]
  have e2:bin .sub true true .int (I (k+1:Nat)) (.int .i64 1)=some (I k):=by rw[kP];have:((k+1:Nat):Int)-1=(k:Int):=aa;rw[this,wrap64 _ aa]
  have v:Xd 15 (ax Lo p.length 15) (I k)=some _:=eU Lo c _ 15 k _ aa;have w:Xd 15 _ (I i)=some _:=eU Li a _ 15 i _ hi;have l:p[k]?.getD 0<n:=by rw[dX aa];exact j _ (Cf _)
  have l1:=Xt e (by have:=r2 k 0 aa aa;rw[gp,gp]at this;rw[this];exact g _ l)
  have l2:=Xt d (g i hi);have t:bin .gtr false true .int (.int .i64 (key (p[k]?.getD 0))) (.int .i64 (key i))=some (.bool (decide (key i<key (p[k]?.getD 0)))):=by rw[iT]
  unfold Ah oH;simp only[e1,X3,Fj];rw[ah trivial];simp only[e2,v,w,X7,gp,l1,l2,t,X3];delta Rk L B A;by_cases h:key i<key (p[k]?.getD 0)
  ·rw[bj h,X6,ah h];simp only[e2,X3];exact y
  ·rw[bJ h,X5,af h]
theorem XnY(T:Nat)(row:List ae)(f:row.length=15)(m:aj):X8 T qW 15 1 [(0,.agg ⟨row⟩)] m=some (.slice (some ⟨m.next,0,some 15⟩) 1 1,m.push (.cells row 0 0 false (some (2*T)))):=by
 match row,f with
 |[g,h,i,j,k,l,n,o,p,q,a,b,c,d,e],_=>trivial
theorem Xoh(a:cs.all one=true)(p:List Nat):(fT cs p).all one=true:=by
 rw[cL]at a|-;intro x b;unfold fT at b
 grind
theorem Xyl{key:Nat->Int}{i:Nat}(h:i<=n):(∀x∈eW key i,x<n)/\(eW key i).length=i:=by have p:=Ku key i;exact⟨λx a=>by have:=zn.mp (p.mem_iff.mp a);omega,by rw[p.length_eq,List.length_range]⟩
theorem Xos(d:Nat){cs:List ae}{n B:Nat}{key:Nat->Int}{Li:Lc}(hn:n<=8589934592)(V:cs.length=n*15)(P:cs.all one=true)(hk:∀i6,i6<n->cs[i6*15]?=some (.int .i64 (key i6)))(G:Li.r<2)(J:Li.b<B):∀(N i f:Nat)(m:aj) (y:Lc),i+N=n->N<f->B<=m.next->pW B m y i (fT cs (eW key i))->(∃ty,m.get Li.b=some (.cells cs Li.ver 0 false ty)) ->
  ∃S L',qR (aH d) f (I i) (ax Li n 15) (ax y i 15) m=some (ax L' n 15,S)/\pW B S L' n (fT cs (eW key n))/\Fb B m S
 |0,i,f+1,m,y,e,hf,hB,D,M=>by have e:i=n:=e;subst e;refine⟨m,y,?_,D,.refl _ _⟩;unfold qR;delta E B N ji;simp only[dx,Qb,X3,j1,j4,X5];rfl
 |N+1,i,f+1,m,y,e,hf,hB,D,M=>by
  have hi:i<n:=aa;have a5:decide (((i:Nat):Int)<((n:Nat):Int))=true:=bj aa;obtain⟨hp,u⟩:=Xyl (key:=key) (Nat.le_of_lt hi);obtain⟨r1,_,r3⟩:=ED V hp;have t:i≠0->y.r<2:=λq=>(D q).1
  have a4:∃h,ax y i 15=ax h i 15/\h.r<2/\pW B m h i (fT cs (eW key i)):=by
   by_cases z:i=0
   ·exact⟨⟨0,0,0⟩,by rw[z];rfl,ar,λq=>absurd z q⟩
   ·grind
  obtain⟨h,hs,t,D⟩:=a4;rw[hs];have F:=Xw9 (aH d) (qR (aH d) f) (i:=i) (Lo:=h) (Li:=Li) (m:=m) hi hp aa t G (λq=>by obtain⟨_,_,_,ty,g⟩:=D aa;exact⟨ty,g⟩) M V hk i 18446744073709551616 aa aa
  obtain⟨W,_,_⟩:=VF key (eW key i) i (eW key i).length;rw[u]at F W;have C:eW key (i+1)=(eW key i).take (oH key (eW key i) i i)++[i]++(eW key i).drop (oH key (eW key i) i i):=by show yQ key (eW key i) i=_;unfold yQ;rw[u]
  generalize oH key (eW key i) i i=k at F W C;obtain⟨Z,M⟩:=M;have R:∃ty,i≠0->m.get h.b=some (.cells (fT cs (eW key i)) h.ver 0 false ty):=by
   by_cases z:i=0
   ·simp_all
   ·obtain⟨_,_,_,ty,q⟩:=D z;exact⟨ty,λ_=>q⟩
  obtain⟨a0,Q⟩:=R;have v:(fT cs (eW key i)).length=i*15:=by rw[r1,u]
  obtain⟨a1,c1,s1,s2⟩:=XgA h t i 15 k W;obtain⟨L1,o,x1,x2,x3,x4⟩:=Wq (B:=B) (m:=m) (n:=0) (L:=⟨0,0,0⟩) (c:=[]) (λq=>absurd rfl q) rfl (s2 m _ a0 Q v) (by rw[kl,v];have:k*15<=i*15:=lU _ W;omega) (by have:=Xoh P (eW key i);rw[cL]at this|-;exact λx j=>this x (wL j)) hB aa nL
  rw[aQ,my,(r3 k).1]at x2;rw[aQ]at x1 x4;have al:=x3.next
  have l:((cs.drop (i*15)).take 15).length=15:=Zl;have g1:o.get Li.b=some (.cells cs Li.ver 0 false Z):=by rw[x3.get _ J];exact M
  have i2:Xd 15 (ax Li n 15) (I i)=some (pt Li.b (i*15) Li.ver):=eU Li G _ 15 i .i64 hi;have l2:X9 true 15 (pt Li.b (i*15) Li.ver) o=some (.agg ⟨(cs.drop (i*15)).take 15⟩):=Xw g1 aa rfl;have b1:=XnY nL ((cs.drop (i*15)).take 15) l o;generalize s:o.push (.cells ((cs.drop (i*15)).take 15) 0 0 false (some (2*nL)))=O at b1;have am:O.next=o.next+1:=by rw[<-s];rfl
  have T:∀b,b<o.next->O.get b=o.get b:=λb hb=>by rw[<-s,Mem.bV,af aa]
  have gb:O.get o.next=some (.cells ((cs.drop (i*15)).take 15) 0 0 false (some (2*nL))):=by rw[<-s,Mem.bV,ah rfl]
  have F2:Fb B o O:=by rw[<-s];exact Fb.push _ aa
  have a9:pW B O L1 k (fT cs ((eW key i).take k)):=x2.oI aa λq=>T _ (x2 q).2.2.1;obtain⟨a7,_,_⟩:=ED V (p:=(eW key i).take k) λx j=>hp x (wL j);have U:((eW key i).take k).length=k:=by rw[kl,u];omega
  obtain⟨L2,m3,y1,y2,y3,y4⟩:=Wq (B:=B) (m:=O) (n:=k) (k:=1) (a:=some ⟨o.next,0,some 15⟩) (r0:=1) a9 (by rw[a7,U]) (KZ gb l) (by rw[l]) (by rw[cL]at P|-;exact λx j=>P x (FU (wL j))) aa aa nL
  have av:=y3.next
  have a6:∀q:i≠0,m3.get h.b=m.get h.b:=λq=>by obtain⟨_,q1,q2,_⟩:=D q;obtain⟨z1,z2⟩:=x4 h.b q2 (λw=>absurd rfl w);rw[(y4 h.b aa z2).1,T _ aa,z1]
  obtain⟨a3,c3,t1,t2⟩:=XhY h t i 15 k W;have ab:pW B m3 L2 (k+1) (fT cs ((eW key i).take k++[i])):=by
   have:fT cs ((eW key i).take k++[i])=fT cs ((eW key i).take k)++(cs.drop (i*15)).take 15:=by unfold fT;rw[List.flatMap_append];simp
   rwa[this]
  obtain⟨a8,_,_⟩:=ED V (p:=(eW key i).take k++[i]) λx j=>by
   rcases nH.mp j with j|j
   ·exact hp x (wL j)
   ·rw[va.mp j];exact hi
  obtain⟨L3,m4,z1,z2,z3,z4⟩:=Wq (B:=B) (m:=m3) (n:=k+1) ab (by rw[a8,fy,U];rfl) (t2 m3 _ a0 (λq=>by rw[a6 q];exact Q q) v) (by rw[tE,v,Nat.sub_mul]) (by have:=Xoh P (eW key i);rw[cL]at this|-;exact λx j=>this x (FU j)) aa aa nL
  have ez:k+1+(i-k)=i+1:=aa;have ac:pW B m4 L3 (i+1) (fT cs (eW key (i+1))):=by
   rw[ez,(r3 k).2]at z2;have:fT cs (eW key (i+1))=fT cs ((eW key i).take k++[i])++fT cs ((eW key i).drop k):=by rw[C];unfold fT;rw[List.flatMap_append]
   rwa[this]
  rw[ez]at z1;have F4:Fb B m m4:=x3.trans (F2.trans (y3.trans z3));obtain⟨S,L',w1,w2,w3⟩:=Xos d hn V P hk G J N (i+1) f m4 L3 aa aa (by have:=F4.next;omega) ac ⟨Z,by rw[F4.get _ J];exact M⟩;refine⟨S,L',?_,w2,F4.trans w3⟩;unfold qR;delta E B N ji;simp only[dx,Qb,X3,a5,X6];delta Rn Rm N;simp only[dx,X3];refine aU F ?_;delta Ig H jd B jb ja jm A;have x1:dn _ 15 168 (.slice _ 0 0) _ m=some _:=x1;have ei:bin .add true true .int (I i) (.int .i64 1)=some (I (i+1:Nat)):=by rw[cz];have:((i:Nat):Int)+1=((i+1:Nat):Int):=aa;rw[this,wrap64 _ aa]
  simp only[s1,X3,x1,X4,i2,l2,b1,y1,t1,z1,ei];exact w1
theorem XgO(cs:List ae)(n:Nat)(d:cs.length=n*15)(c:∀a b,a<n->b<n->keyOf cs 0 n a=keyOf cs 0 n b->a=b):fT cs (eW (keyOf cs 0 n) n)=oO cs 0 n:=by unfold oO fT;rw[Xvp cs n c,zo,my,wK aa,lC];simp
theorem XqH(d:Nat)(hn:n<=8589934592)(k:cs.length=n*15)(o:cs.all one=true)(t:∀i,i<n->∃z,cs[i*15]?=some (.int .i64 z))(hd:∀a b,a<n->b<n->keyOf cs 0 n a=keyOf cs 0 n b->a=b)(h:n≠0->L.r<2/\L.b<m.next/\∃ty,m.get L.b=some (.cells cs L.ver 0 false ty)):∃S c,TA (d+1) Pt [ax L n 15] m=some (ax c n 15,S)/\Fr [] m S/\pW m.next S c n (oO cs 0 n):=by
 rw[X8r];have e:∀f,f<n->cs[f*15]?=some (.int .i64 (keyOf cs 0 n f)):=λf j=>by obtain⟨z,x⟩:=t f j;unfold keyOf;rw[ah j,aQ,x];rfl
 by_cases z:n=0
 ·subst z;refine⟨m,⟨0,0,0⟩,?_,.refl _ _,λq=>absurd rfl q⟩;refine cD ?_ (.refl _ _) rfl;rfl
 ·obtain⟨u,p,ty,s⟩:=h z;obtain⟨y,c,F,l,G⟩:=Xos d (B:=m.next) hn k o e u p n 0 18446744073709551616 (aD m m.next) ⟨0,0,0⟩ aa aa aY (λq=>absurd rfl q) ⟨ty,s⟩;rw[XgO cs n k hd]at l;have w:Dr (aH d) (ax L n 15) (aD m m.next)=some (ax c n 15,y):=by
   delta Dr Rq Rp Ro A;exact F
  obtain⟨u1,u2,u3,g,u4⟩:=l z;have v:refs m.next 8 (ax c n 15)=false:=A5 z u2;obtain⟨C,D,E,H,I⟩:=A7 w (Fb.oP G) v;exact⟨C,c,D,E,λ_=>⟨u1,u2,aa,g,aq⟩⟩
end Go.Ab.Sh
namespace Go.Ab.Sh
open Go Go.Ab
inductive Tn where
 |v (x:Value)
 |l (sz n:Nat) (ts:List Tn)
inductive Rd (B:Nat) (m:Mem):Tn->Value->Prop where
 |v (x:Value):Rd B m (.v x) x
 |nil (sz:Nat):Rd B m (.l sz 0 []) (.slice none 0 0)
 |l (L:Lc) (n sz:Nat) (ts:List Tn) (cs:List Value) (ty:Option Nat) (hn:n≠0) (hr:L.r<2) (hlo:B<=L.b) (hb:L.b<m.next) (hg:m.get L.b=some (.cells cs L.ver 0 false ty)) (hl:cs.length=n*sz) (ht:ts.length=n*sz) (h:∀(i:Nat)(t:Tn) (c:Value),ts[i]?=some t->cs[i]?=some c->Rd B m t c):Rd B m (.l sz n ts) (ax L n sz)
def fK(B:Nat)(m:aj)(ts:List Tn)(cs:List ae):Prop:=cs.length=ts.length/\∀(i:Nat)(t:Tn) (c:ae),ts[i]?=some t->cs[i]?=some c->Rd B m t c
theorem Rd.fr{B:Nat}{m S:aj}(f:Fr [] m S):∀{t:Tn} {v:ae},Rd B m t v->Rd B S t v
 |_,_,.v x=>.v x
 |_,_,.nil b=>.nil b
 |_,_,.l L n b ts cs ty hn k a d g j o h=>.l L n b ts cs ty hn k a (dU d f.next) (by rw[f.get _ d ar];exact g) j o λi t c hi e=>(h i t c hi e).fr f
theorem fK.fr{B:Nat}{m S:aj}(f:Fr [] m S){ts:List Tn}{cs:List ae}(h:fK B m ts cs):fK B S ts cs:=⟨h.1,λi t c hi a=>(h.2 i t c hi a).fr f⟩
theorem fK.none{B:Nat}{m:aj}(S:aj){ts:List Tn}{cs:List ae}(h:fK B m ts cs)(g:∀g8∈cs,refs B 6 g8=true):fK B S ts cs:=⟨h.1,λi t c hi f=>by
 have j:=h.2 i t c hi f;have d:=g c (jO f);cases j with
 |v=>exact .v _
 |nil a=>exact .nil a
 |l L n a ts cs ty hn g k o p q r h =>exfalso;have e:ax L n a=.slice _ n _:=af hn;rw[e]at d;have:Nat.blt L.b B=true:=d;have:=qH.mp this;omega⟩
theorem Rd.same{B:Nat}{m S:aj}(hn:m.next<=S.next)(j:∀b,S.get b=m.get b):∀{t:Tn} {v:ae},Rd B m t v->Rd B S t v
 |_,_,.v x=>.v x
 |_,_,.nil d=>.nil d
 |_,_,.l L n d ts cs ty e o a f q k p h=>.l L n d ts cs ty e o a (dU f hn) aq k p λi t c hi g=>(h i t c hi g).same hn j
def rQ(a:Key->List Tn)(k:Key)(y:Nat):Cl->Tn
 |.v g8=>.v g8
 |.s n b=>.l b n (if n=0 then[]else a (y::k))
def mv(X:NX):Nat->Key->List Tn
 |0,_=>[]
 |d+1,k=>match X k with|some (.c l)=>l.mapIdx (rQ (mv X d) k)|_=>[]
def hT:Nat->Nat
 |0=>3
 |3=>1
 |7=>1
 |9=>2
 |10=>1
 |12=>2
 |13=>1
 |14=>1
 |16=>1
 |_=>0
theorem XbO{r r' y:Nat}(h:bo r y=some (.l r')):hT r'<hT r:=by
 have a:=jO h;have:∀r,r<19->∀x∈ch r,(match x with|.l r'=>decide (hT r'<hT r)|_=>true)=true:=by decide +kernel
 by_cases b:r<19
 ·grind
 ·have e:ch r=[.f]:=by
   unfold ch;split<;>first|rfl|omega
  grind
theorem Xz4{X:NX}{k:Key}{l:List Cl}(h:X k=some (.c l))(d:Nat):mv X (d+1) k=l.mapIdx (rQ (mv X d) k):=by
 show(match X k with|some (.c l)=>l.mapIdx _|_=>[])=_
 rw[h]
theorem XeC{B:Nat}{X:NX}{j:ay}{m:aj}(a:Key->Prop)(I:∀k l,a k->X k=some (.c l)->(j k).r<2/\B<=(j k).b/\(j k).b<m.next/\∃ty,m.get (j k).b=some (.cells (cells j k l) (j k).ver 0 false ty))(p:∀y k,a k->a (y::k))
  (q:∀k l y n f,X k=some (.c l)->k≠[]->l[y]?=some (.s n f)->n≠0->∃h,X (y::k)=some (.c h)/\h.length=n*f) (wt:WT X) :
  ∀(d:Nat)(k:Key) (l:List Cl) (r:Nat),X k=some (.c l)->kt k=some r->hT r<=d->∀y c,a (y::k)->l[y]?=some c->Rd B m (rQ (mv X d) k y c) (cv j k y c)
 |d,k,l,r,z,u,hd,y,.v g8,C,w=>.v g8
 |d,k,l,r,z,u,hd,y,.s n f,C,w=>by
  have E:=(dO.mp w).1;obtain⟨K,J,F⟩:=wt.get z u E;rw[w]at J;cases J;show Rd B m (.l f n _) (ax _ n f);by_cases hn:n=0
  ·subst hn;rw[ah rfl];exact .nil f
  ·rw[af hn];have D:k≠[]:=λe=>by rw[e]at u;cases u
   obtain⟨h,H,N⟩:=q k l y n f z D w hn;obtain⟨G,f1⟩:∃G,bo r y=some (.l G):=by
    cases hf:bo r y with
    |none=>rw[hf]at F;trivial
    |some g=>rw[hf]at F;cases g<;>first|exact⟨_,rfl⟩|exact False.elim F
   have O:=XbO f1;obtain⟨x,rfl⟩:∃x,d=x+1:=⟨d-1,aa⟩
   obtain⟨M,L,g2,ty,g3⟩:=I _ h C H;rw[Xz4 H];refine .l _ n f _ _ ty hn M L g2 g3 (by rw[gM];exact N) aq λi t K hi o=>?_;rw[tF]at hi;cases A:h[i]? with
   |none=>grind
   |some c =>rw[A]at hi;cases hi;rw[Xn,A]at o;cases o;exact XeC _ I p q wt x _ h G H (fB u f1) aa i c (p i _ C) A
end Go.Ab.Sh
namespace Go.Ab.Sh
open Go Go.Ab Go.Lib
variable {B:Nat}{i5:ao}{X:NX}{dv:List Value}{k:Key}{l:List Cl}{S:Mem}{r0:Bool}
variable {c:Cx}{G m:Mem}{Q j:ay}{J s u:ao}{o h:Nat}
def vU(l:List Cl):List ae:=l.map fun|.v g8=>g8|.s _ _=>.nilFunc
def Bw(d:Array Nat)(ts:List Tn):List Tn:=d.toList.flatMap λi=>(ts.drop (0+i*15)).take 15
def BU(X:NX)(k:Key)(n:Nat):List Tn:=match X k with|some (.c a)=>Bw (gK (vU a) 0 n) (a.mapIdx (rQ (mv X 1) k))|_=>[]
def YF(X:NX)(y:Nat):Cl->Tn
 |.v g8=>.v g8
 |.s n a=>.l a n (if n=0 then[]else BU X [y,9,0] n)
def B4(X:NX):List Tn:=match X [9,0]with|some (.c l)=>l.mapIdx (YF X)|_=>[]
def Yj(X:NX)(y:Nat):Cl->Tn
 |.v g8=>.v g8
 |.s n a=>.l a n (if n=0 then[]else if y=9 then B4 X else mv X 3 [y,0])
def tc(X:NX):List Tn:=match X [0]with|some (.c l)=>(l.take 12).mapIdx (Yj X)|_=>[]
def Ma(X:NX)(j:ay)(m:aj)(i6:Nat):Prop:=∀a,X [i6*3+1,9,0]=some (.c a)->∃ty,m.get (j [i6*3+1,9,0]).b=some (.cells (oO (cells j [i6*3+1,9,0] a) 0 (au X [9,0] (i6*3+1))) (j [i6*3+1,9,0]).ver 0 false ty)
def LX(k:Key):Prop:=4<=k.length\/∃t f,f≠9/\k=t++[f,0]
theorem Xr4(y:Nat)(k:Key):LX k->LX (y::k)
 |.inl h=>.inl (by rw[iq];omega)
 |.inr ⟨t,f,h,e⟩=>.inr ⟨y::t,f,h,by rw[e];rfl⟩
theorem Xop(h:LX k):(∀a,k≠[a,9,0])/\k≠[0]:=by
 rcases h with h|⟨t,f,hf,e⟩
 ·exact⟨λa e=>by rw[e]at h;simp at h,λe=>by rw[e]at h;simp at h⟩
 ·refine⟨λa e2=>?_,λe2=>?_⟩
  ·rw[e]at e2;have c:t++[f,0]=[a]++[9,0]:=e2;have b:=List.append_inj_right' c rfl;injection b with b _;exact hf b
  ·rw[e]at e2;have:=jQ List.length e2;simp at this
theorem wx{P O:Nat}(h:LI r0 B P O o m j i5)(k:Key)(l:List Cl)(y n sz:Nat)(a:i5.X k=some (.c l))(C:k≠[])(p:l[y]?=some (.s n sz))(hn:n≠0):n<=o/\∃i,i5.X (y::k)=some (.c i)/\i.length=n*sz:=by
 have w:y::k≠[0]:=λe=>by injection e with e1 e2;exact C e2
 have ⟨r,u,_⟩:=h.wt.ty _ _ a;have v:y<l.length:=(dO.mp p).1;have ⟨c,z,x⟩:=h.wt.get a u v;rw[p]at z;cases z;obtain⟨A,hf⟩:∃A,bo r y=some (.l A):=by
  cases hf:bo r y with
  |none=>rw[hf]at x;exact False.elim x
  |some g =>rw[hf]at x;cases g<;>first|exact⟨_,rfl⟩|trivial
 have D:=wi (r:=r0) (P:=P) (O:=O) h.wt w (.inl ⟨_,fB u hf⟩);have ow:n<=o/\∃i,bX r0 P O i5 (y::k)=some (.c i)/\i.length=n*sz:=by
  by_cases b:k=[0]
  ·subst b;obtain⟨E,d,f⟩:=h.wt.root;rw[a]at d;cases d;have t:y<12:=by
    rcases lT y 12 with q|q
    ·exact q
    ·cases u;have:y=12\/y=13\/y=14\/y=15\/y=16\/y=17:=by omega
     rcases this with rfl|rfl|rfl|rfl|rfl|rfl<;>cases hf
   have ow:=h.nr.ow [0] _ y n sz (Bj a) ((yi f y (.inl t)).trans p)
   grind
  ·have ow:=h.nr.ow k l y n sz (yJ h.wt b a) p
   grind
 grind
theorem Xub(a b:List ae)(n:Nat)(h:∀i,i<n->a[0+i*15]?=b[0+i*15]?):gK a 0 n=gK b 0 n:=by
 have:keyOf a 0 n=keyOf b 0 n:=by
  funext i;unfold keyOf;by_cases hi:i<n
  ·grind
  ·rw[af hi,af hi]
 unfold gK;rw[this]
theorem Xz5(wt:WT X)(x:∀k l y n h,X k=some (.c l)->k≠[]->l[y]?=some (.s n h)->n≠0->∃l',X (y::k)=some (.c l')/\l'.length=n*h)(aF:∀k l,X k=some (.c l)->k≠[0]->(∀d,k≠[d*3+1,9,0])->(j k).r<2/\B<=(j k).b/\(j k).b<S.next/\∃ty,S.get (j k).b=some (.cells (cells j k l) (j k).ver 0 false ty))(hD:∀d g,d<au X [0] 9->X [d*3+1,9,0]=some (.c g)->(j [d*3+1,9,0]).r<2/\B<=(j [d*3+1,9,0]).b/\(j [d*3+1,9,0]).b<S.next/\∃ty,S.get (j [d*3+1,9,0]).b=some (.cells (oO (cells j [d*3+1,9,0] g) 0 (au X [9,0] (d*3+1))) (j [d*3+1,9,0]).ver 0 false ty))(C:X [0]=some (.c l)):fK B S (tc X) ((cells j [0] l).take 12):=by
 have D:tc X=(l.take 12).mapIdx (Yj X):=by unfold tc;rw[C]
 have Q:=XeC (B:=B) (X:=X) (j:=j) (m:=S) LX (λk l hg hX=>aF k l hX (Xop hg).2 λd=>(Xop hg).1 _) Xr4 x wt;refine⟨by rw[D,zp,kl,kl,gM],λi t u hi f=>?_⟩;rw[D,tF,jP]at hi;rw[jP]at f;by_cases U:i<12
 ·rw[ah U]at hi f;rw[Xn]at f;cases A:l[i]? with
  |none=>grind
  |some c =>
   rw[A]at hi f;cases hi;cases f;cases c with
   |v u=>exact .v u
   |s n h =>
    show Rd B S (.l h n (if n=0 then[]else if i=9 then B4 X else mv X 3 [i,0])) (ax (j [i,0]) n h);by_cases L:n=0
    ·subst L;exact .nil h
    ·rw[af L];by_cases V:i=9
     ·subst V;rw[ah rfl];obtain⟨N,R,x2⟩:=x [0] l 9 n h C ar A L;obtain⟨b1,b0,b2,ty,b3⟩:=aF [9,0] N R ak (λd e=>jA);have a1:B4 X=N.mapIdx (YF X):=by unfold B4;rw[R]
      have a2:h=3:=by obtain⟨c,O,P⟩:=wt.get C (r:=0) rfl (y:=9) ((dO.mp A).1);rw[A]at O;cases O;exact P
      subst a2;have hN:au X [0] 9=n:=by unfold au;rw[cU C,A];rfl
      rw[a1];refine .l _ n 3 _ _ ty L b1 b0 b2 b3 (by rwa[gM]) (by rwa[zp]) λy t u ho f=>?_;rw[tF]at ho;rw[Xn]at f;cases o:N[y]? with
      |none=>grind
      |some c =>
       rw[o]at ho f;cases ho;cases f;cases c with
       |v u=>exact .v u
       |s M z =>
        show Rd B S (.l z M (if M=0 then[]else BU X [y,9,0] M)) (ax (j [y,9,0]) M z);by_cases q:M=0
        ·subst q;exact .nil z
        ·rw[af q];have K:y<N.length:=(dO.mp o).1;have F:kt [9,0]=some 12:=rfl;have ⟨c,O,P⟩:=wt.get R F K;rw[o]at O;cases O;have Y:y / 3*3+y%3=y:=by omega
         have E:=fd_row (r:=12) (sz:=3) rfl (y / 3) (y%3) (kM _ aa);rw[Y]at E;rw[E]at P;have I:y%3=1/\z=15:=by
          have:y%3=0\/y%3=1\/y%3=2:=aa;rcases this with e|e|e<;>rw[e]at P
          ·trivial
          ·trivial
          ·exact False.elim P
         obtain⟨I,rfl⟩:=I;have J:y=y / 3*3+1:=aa;generalize hj:y / 3=d at J;have Z:d<au X [0] 9:=aa;rw[J]at o|-;have ⟨g,T,y2⟩:=x [9,0] N (d*3+1) M 15 R ar o q;have hM:au X [9,0] (d*3+1)=M:=by unfold au;rw[cU R,o];rfl
         have ⟨u1,u2,u3,a3,gc⟩:=hD d g Z T;rw[hM]at gc;have G:kt [d*3+1,9,0]=some 13:=fB F (by rw[fd_row (r:=12) (sz:=3) rfl d 1 aa];rfl);have W:BU X [d*3+1,9,0] M=Bw (gK (cells j [d*3+1,9,0] g) 0 M) (g.mapIdx (rQ (mv X 1) [d*3+1,9,0])):=by
          unfold BU;rw[T];show Bw (gK (vU g) 0 M) _=_;rw[Xub (vU g) (cells j [d*3+1,9,0] g) M λi hi=>?_];obtain⟨dd,d1,d2⟩:=wt.get T G (y:=i*15+0) aa;rw[fd_row (r:=13) (sz:=15) rfl i 0 aa]at d2;rw[aQ,Xn];unfold vU;rw[gX];rw[gp]at d1;rw[d1];cases dd with
          |s _ _=>exact False.elim d2
          |v u=>rfl
         rw[W];have ⟨o1,o2⟩:=LC (cells j [d*3+1,9,0] g) 0 M;have a0:0+M*15<=(cells j [d*3+1,9,0] g).length:=by rw[gM,y2];omega
         have ⟨t1,_,t3⟩:=XaG _ 0 M a0;have ⟨p1,p2⟩:=WC (.v .nilFunc) (g.mapIdx (rQ (mv X 1) [d*3+1,9,0])) (gK (cells j [d*3+1,9,0] g) 0 M) 0 M o1 o2 (by rw[zp,y2];omega);refine .l _ M 15 _ _ a3 q u1 u2 u3 gc (by rwa[t1,gM]) p1 λa t u w f=>?_;have a4:a<M*15:=by rw[<-p1];exact(dO.mp w).1
         have ea:a=a / 15*15+a%15:=aa;have e1:=p2 (a / 15) (a%15) aa (kM _ aa);have e2:=t3 (a / 15) (a%15) aa (kM _ aa);rw[<-ea]at e1 e2;rw[aQ]at e2;unfold Bw at w;rw[e1]at w;rw[e2]at f;generalize 0+((gK _ 0 M)[a / 15]!*15+a%15)=p at w f;rw[tF]at w;rw[Xn]at f;cases H:g[p]? with
         |none=>grind
         |some c =>rw[H]at w f;cases w;cases f;exact Q 1 _ g 13 T G aY p c (.inl aY) H
     ·rw[af V];have:=Q 3 [0] l 0 C rfl aY i _ (.inr ⟨[],i,V,rfl⟩) A;have e:rQ (mv X 3) [0] i (.s n h)=.l h n (mv X 3 [i,0]):=by
       show Tn.l h n (if n=0 then[]else _)=_;rw[af L]
      rw[<-e];trivial
 grind
def BD:List Tn:=[.v (sv []),.v (.int .u8 0),.l 1 0 [],.l 11 0 [],.l 2 0 [],.l 3 0 [],.l 7 0 [],.l 2 0 [],.l 2 0 [],.l 3 0 [],.l 3 0 [],.l 6 0 []]
theorem Bh(B:Nat)(m:aj):fK B m BD Q8:=by refine⟨rfl,λi t c hi b=>?_⟩;have:i<12:=(dO.mp hi).1;have a:i=0\/i=1\/i=2\/i=3\/i=4\/i=5\/i=6\/i=7\/i=8\/i=9\/i=10\/i=11:=aa;rcases a with rfl|rfl|rfl|rfl|rfl|rfl|rfl|rfl|rfl|rfl|rfl|rfl<;>cases hi<;>cases b<;>first|exact .v _|exact .nil _
def ql:ae->Option Nat
 |.slice (some a) _ _=>some a.block
 |_=>none
theorem XB{L:Lc}{n sz b:Nat}(h:ql (ax L n sz)=some b):n≠0/\L.b=b:=by
 unfold ax at h;split at h
 ·cases h
 ·exact⟨aa,pM h⟩
structure nI (B:Nat) (m:Mem) (dv:List Value):Prop where
 lo:∀(y:Nat)(v:Value) (b:Nat),y<12->dv[y]?=some v->ql v=some b->B<=b
 top:∀(y o':Nat)(v v':Value) (b:Nat),y<12->o'<12->dv[y]?=some v->dv[o']?=some v'->ql v=some b->ql v'=some b->y=o'
 row:∀(f:Nat)(v:Value) (b:Nat) (c:List Value) (ver fro:Nat) (ro:Bool) (ty:Option Nat) (i:Nat) (v':Value),f<12->dv[f]?=some v->ql v=some b->m.get b=some (.cells c ver fro ro ty)->c[i]?=some v'->∀b',ql v'=some b'->∀(f':Nat)(w:Value),f'<12->dv[f']?=some w->ql w≠some b'
theorem Xph{m:aj}(h:∀(y:Nat)(v:ae),y<12->dv[y]?=some v->ql v=none):nI B m dv:=⟨λy v b g d a=>aq,λy k v j b g _ d _ a _=>aq,λf v b c ver e ro ty i j hf d a=>aq⟩
theorem nI.none{B:Nat}{m:aj}{dv:List ae}(h:nI B m dv){y d:Nat}{v:ae}(f:refs B (d+1) v=true)(c:y<12)(g:dv[y]?=some v):ql v=none:=by
 cases e:ql v with
 |none=>rfl
 |some b =>
  have:=h.lo y v b c g e;cases v with
  |slice a n r =>
   cases a with
   |none=>cases e
   |some a =>have e:=pM e;have:=qH.mp f;omega
  |_=>cases e
theorem nI.same{m:aj}(h:nI B m dv)(g:∀b,S.get b=m.get b):nI B S dv:=⟨h.lo,h.top,λf v b c ver a ro ty i k hf j e d=>h.row f v b c ver a ro ty i k hf j e (by rwa[<-g])⟩
theorem VQ(B:Nat)(m:aj):nI B m Q8:=Xph λy v b a=>by have:y=0\/y=1\/y=2\/y=3\/y=4\/y=5\/y=6\/y=7\/y=8\/y=9\/y=10\/y=11:=aa;rcases this with rfl|rfl|rfl|rfl|rfl|rfl|rfl|rfl|rfl|rfl|rfl|rfl<;>cases a<;>rfl
theorem XjO{j:ay}{m:aj}(wt:WT X)(J:∀k l y n q,X k=some (.c l)->k≠[]->l[y]?=some (.s n q)->n≠0->∃u,X (y::k)=some (.c u)/\u.length=n*q)(hB:∀k,k≠[0]->X k≠none->B<=(j k).b)(inj:∀k k',X k≠none->X k'≠none->k≠[0]->k'≠[0]->(j k).b=(j k').b->k=k')(aF:∀f l,X [f,0]=some (.c l)->∃ty,m.get (j [f,0]).b=some (.cells (cells j [f,0] l) (j [f,0]).ver 0 false ty))(T:X [0]=some (.c l)):nI B m ((cells j [0] l).take 12):=by
  have at':∀(y:Nat)(v:ae) (b:Nat),y<12->((cells j [0] l).take 12)[y]?=some v->ql v=some b->∃u,X [y,0]=some (.c u)/\(j [y,0]).b=b:=λy v b x a o=>by
    rw[jP,ah x,Xn]at a;cases p:l[y]? with
    |none=>rw[p]at a;cases a
    |some c =>
      rw[p]at a;cases c with
      |v E =>
        have a:E=v:=pM a;subst a;obtain⟨c',N,d⟩:=wt.get T (r:=0) rfl (y:=y) ((dO.mp p).1);rw[p]at N;cases N;exfalso;cases hf:bo 0 y with
        |none=>rwa[hf]at d
        |some g =>
          rw[hf]at d;cases g with
          |i k=>obtain⟨n,rfl⟩:=d;cases o
          |s=>obtain⟨t,rfl,_⟩:=d;cases o
          |b=>obtain⟨t,rfl⟩:=d;cases o
          |l r=>exact d
          |f =>have:y=0\/y=1\/y=2\/y=3\/y=4\/y=5\/y=6\/y=7\/y=8\/y=9\/y=10\/y=11:=aa;rcases this with rfl|rfl|rfl|rfl|rfl|rfl|rfl|rfl|rfl|rfl|rfl|rfl<;>cases hf
      |s n q =>
        have a:ax _ n q=v:=pM a;subst a;obtain⟨hn,e⟩:=XB o
        grind
  refine⟨λy v b x a o=>?_,λy o' v z b x I a K o h=>?_,λf v b c ver R ro ty i z hf a o U hi P h Q w G W F=>?_⟩
  . grind
  . obtain⟨_,O,A⟩:=at' y v b x a o;obtain⟨_,C,D⟩:=at' o' z b I K h;have:=inj _ _ (by rw[O];simp) (by rw[C];simp) ar ar (A.trans D.symm)
    grind
  . obtain⟨M,L,A⟩:=at' f v b hf a o;obtain⟨_,C,D⟩:=at' Q w P G W F;obtain⟨a0,g⟩:=aF f M L;rw[A,U]at g;cases g;rw[Xn]at hi;cases p:M[i]? with
    |none=>grind
    |some cl =>
      rw[p]at hi;cases cl with
      |v E =>
        have hi:E=z:=pM hi;subst hi;obtain⟨r,Y,Z⟩:=wt.ty _ _ L;have d:=Z i _ p;cases hf:bo r i with
        |none=>rwa[hf]at d
        |some S =>
          have H:=hf;rw[hf]at d;cases S with
          |i k=>obtain⟨n,rfl⟩:=d;cases h
          |s=>obtain⟨t,rfl,_⟩:=d;cases h
          |b=>obtain⟨t,rfl⟩:=d;cases h
          |l r=>exact d
          |f =>have:f=0\/f=1\/f=2\/f=3\/f=4\/f=5\/f=6\/f=7\/f=8\/f=9\/f=10\/f=11:=aa;have V:=jO H;rcases this with rfl|rfl|rfl|rfl|rfl|rfl|rfl|rfl|rfl|rfl|rfl|rfl<;>cases Y<;>exact absurd V ve
      |s n q =>
        have hi:ax _ n q=z:=pM hi;subst hi;obtain⟨hn,e⟩:=XB h;obtain⟨u,x1,_⟩:=J _ M i n q L ar p hn;have:=inj _ _ (by rw[x1];simp) (by rw[C];simp) ar ar (e.trans D.symm)
        grind
end Go.Ab.Sh
end
