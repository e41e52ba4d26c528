/-
  What the functions of the program answer, at every text and every question. No conditions.
-/
import Derived.Test.YtodhdplpcelokaaGreatDoorA1
import Derived.Test.YtodhdplpcelokaaGreatDoorA0
set_option linter.all false
set_option maxRecDepth 100000
noncomputable section
namespace Go.Ab.Sh
open Go Go.Ab Go.Lib
variable {X:NX}{a k:Key}{b t T':Bool}{b2 bytes e fr hi n y r r':Nat}{l l' z:List Cl}{lo p:Int}{H':ai}{ty:Option Nat}{w ws:List ai}{za9 xs:List Value}{g8:Option Rs}
variable {c:Cx}{o:Nat}{m G:Mem}{j:ay}{s:ao}{v:Value}{cu:Cu}
def XfS{cu}(h:cu.er.isNone=false)(cW e):cB cu cW e=cu:=by unfold cB;grind
def sI{c cu}(h:cu.er.isNone=false):(Xa c cu).2=cu:=by
 have:cH c cu=false:=by unfold cH;rw[h];rfl
 unfold Xa;rw[this];exact XfS h _ _
def xY{c cu}(h:cu.er.isNone=false)(lo hi):(Xb c cu lo hi).2=cu:=by
 unfold Xb;split
 ·dsimp only;rw[sI h,jW h];simp
 ·show cA c _ 130=cu;rw[sI h,jW h]
def rA{c cu}(h:cu.er.isNone=false)(w):bh c cu w=(false,cu):=by
 have:cH c cu=false:=by unfold cH;rw[h];rfl
 unfold bh;grind
def j7{c cu}(h:(Xb c cu lo hi).2.er.isNone=true):eQ c cu lo hi=(Xb c cu lo hi).1:=by unfold eQ;grind
def VC{c cu}(h:(Xb c cu lo hi).2.er.isNone=true):cu.er.isNone=true:=by
 cases q:cu.er.isNone with
 |true=>rfl
 |false=>rw[xY q]at h;grind
def VG(c cu lo hi):0<=eQ c cu lo hi/\eQ c cu lo hi<=hi:=by
 have:=Er c cu lo hi;unfold eQ
 grind
def EE(c cu lo hi)(h:hi<4294967296)(m:aj):conv (.int .u32) (.int .i64 (eQ c cu lo hi)) m=some (.int .u32 (eQ c cu lo hi),m):=by have:=VG c cu lo hi;rw[dS,IntWalk.u32_in _ aa]
def kV(c:Cx)(cu:Cu)(gk:Int):(Int × Int) × Cu:=
 let x:=bh c cu [101,113];let n:=eQ c x.2 0 65535;let g8:=bh c x.2 Gc;let a:=eQ c g8.2 0 65535;let b:=(Xb c g8.2 0 65535).2
 if gk≠6/\gk≠17 then((0,65535),cu)else if x.1=true then((n,n),(Xb c x.2 0 65535).2)else if g8.1=true then((a,eQ c b a 65535),(Xb c b a 65535).2)else((0,65535),g8.2)
def Xon(c cu p):(kV c cu p).2=(fR c cu p).2:=by
 unfold kV fR;dsimp only;split
 ·rfl
 ·split
  ·rfl
  ·split
   ·dsimp only;cases q:(Xb c (bh c (bh c cu [101,113]).2 Gc).2 0 65535).2.er.isNone with
    |true=>rw[j7 q]
    |false=>rw[xY q,xY q]
   ·rfl
def Xrk{c cu}(h:(kV c cu p).2.er.isNone=true):(kV c cu p).1=(fR c cu p).1:=by
 unfold kV fR at *;dsimp only at *;split
 ·rfl
 ·rename_i b;rw[af b]at h;split
  ·rename_i a;rw[ah a]at h;rw[j7 h]
  ·rename_i a;rw[af a]at h;split
   ·rename_i d;rw[ah d]at h;rw[j7 h,j7 (VC h)]
   ·rfl
def Xl9(h:PS c o m j s)(n:∀w∈c.ws,w.1≠[])(gk d):cd c o m j s (TA (d+3) GP [pt c.C 0 0,.int .i64 gk] m) (nB (kV c s.cu gk).1.1 (kV c s.cu gk).1.2) (kV c s.cu gk).2:=by
 refine h.pw (X62 _ _ _ _) λG k=>?_;delta CM U;refine k.new λr M F=>?_;have fin:∀f cu a b,W c G j s o f j { s with cu:=cu } [(r,0,mJ)] ->
   aK c G j s (bp (bP (Xe 2 _ _ f)) λ_ m=>ob (ob (X9 true 2 (pt r 0 0) m) λv=>ob (some []) λl=>some (v::l)) λl=>some (bZ l,m)) _:=λf cu a b g=>by
  refine g.aC (l1:=[]) (y:=0) (g8:=nB a b) (za6:=[.int .u32 a,.int .u32 b]) rfl rfl aW rfl λp e=>?_;rw[show X9 true 2 (pt r 0 0) p=some (nB a b) from e.fi (y:=0) br aW rfl,vT];exact e.ki
 have I:∀x t,Xc mJ [(0,1),(1,1)] [(0,.int _ x),(1,.int _ t)]=some (nB x t):=λx t=>aU rfl rfl;have F:W c G j s o M j _ _:=F;delta Qk0 E B jk A jh;simp only[dI,X3];have out:∀f cu,W c G j s o f j _ _->aK c G j s (Hp (aH (d+2)) _ f) _:=λf cu g=>by delta Hp B jl;rw[I,X3];exact fin f cu 0 65535 g
 have go:(¬(gk≠6/\gk≠17))->aK c G j s (CZ (aH (d+2)) (.bool true) (pt c.C 0 0) (pt r 0 0) M) (jU o j s (nB (kV c s.cu gk).1.1 (kV c s.cu gk).1.2) (kV c s.cu gk).2):=λN=>by
  delta CZ H C L B jl A D;rw[X6];dsimp only[kV];rw[af N];refine F.call (kT F.ps _ d) λf g=>?_;refine Xh (λi=>?_) (λi=>?_)
  ·rw[i,ah rfl];refine g.call (ky g.ps n 0 _ 65535 rfl aa d) λp e=>?_;dsimp only at e|-;simp only[EE c _ 0 65535 aa,X4,I,X3];exact fin p _ _ _ e
  ·rw[i,af ak];refine g.call (kT g.ps _ d) λp e=>?_;refine Xh (λi=>?_) (λi=>?_)
   ·rw[i,ah rfl];refine e.call (ky e.ps n 0 _ 65535 rfl aa d) λQ J=>?_;dsimp only at J|-;refine J.call (ky J.ps n _ _ 65535 rfl aa d) λO K=>?_;dsimp only at K|-;simp only[EE c _ _ 65535 aa,X4,I,X3];exact fin O _ _ _ K
   ·rw[i,af ak];exact out p _ e
 by_cases u:gk=6
 ·rw[bj u,X6];exact go λq=>q.1 u
 ·rw[bJ u,X5];by_cases z:gk=17
  ·rw[bj z];exact go λq=>q.2 z
  ·rw[bJ z];delta CZ L;rw[X5];dsimp only[kV];rw[ah ⟨u,z⟩];simp_all
variable {Q:ay}{J:ao}{ts:List Tmp}{i8:Value->Nat->ay->ao->Prop}
abbrev gV(a:Nat)(b t:Int)(n:ai):List ae:=[.int .u8 (a:Int),.int .i64 b,.int .u8 t,sv n]
abbrev oM(a:Nat)(b t:Int)(n:ai):ae:=.agg ⟨gV a b t n⟩
def EI(c cu l)(h:l≠[]):(aP c cu l).1<l.length:=by
 have key:∀w l i a,de w l i=some a->a<i+l.length:=by
  intro w l
  induction l with
  |nil=>intro i a h;cases h
  |cons x l b =>
   intro i a h;unfold de at h
   grind
 unfold aP;cases hi:de (Xa c cu).1 l 0 with
 |none=>grind
 |some a=>grind
def XC(d)(H':ai)(b0 f z)(l:z.length=4)(e:aj)(cu a b t n)(g:W c G j s o e j { s with cu:=cu } [(f,0,gV a b t n),(b0,0,z)]) :
  aK c G j s (H3 (aH d) (pt f 0 0) (pt b0 0 0) e) (jU o j s (oM a b t n) cu):=by
 delta H3 jd jl;rw[show X9 _ 4 _ e=some (oM a b t n) from g.fi br aW rfl,X3];refine g.aC (l1:=[_]) (za6:=gV a b t n) rfl rfl (by show 0+4<=z.length;omega) (by show[]++gV a b t n++z.drop (0+4)=_;rw[rS aa];rfl) λi h=>?_;rw[show X9 _ 4 _ i=some (oM a b t n) from h.fi (gC _ br) ar rfl,vT];exact h.ki
def WZ(d b0 e z)(h:z.length=4)(l:aj)(cu a b t)(i:W c G j s o l j { s with cu:=cu } [(e,0,gV a b t []),(b0,0,z)]) :
  aK c G j s (DA (aH (d+5)) (pt c.C 0 0) (pt e 0 0) (pt b0 0 0) l) (jU o j s (oM a b t (iN c cu).1) (iN c cu).2):=by
 delta DA C L jf D;unfold iN;refine i.call (kF i.ps _ (d+3)) λn f=>?_;refine Xh (λg=>?_) (λg=>?_)
 ·rw[ah g];refine f.call (nY f.ps d) λr k=>?_;dsimp only at k|-;simp only[X7,X3];refine k.aC (l1:=[]) (za6:=gV a b t _) rfl rfl aW rfl λp m=>?_;exact XC _ [] b0 e z h p _ a b t _ m
 ·rw[af aq];exact XC _ [] b0 e z h n _ a b t [] f
def XlG(c cu lo hi)(h:hi<256)(m:aj):conv (.int .u8) (.int .i64 (Xb c cu lo hi).1) m=some (.int .u8 (Xb c cu lo hi).1,m):=by
 have:=Er c cu lo hi;rw[dS];have e:IntKind.u8.wrap (Xb c cu lo hi).1=(Xb c cu lo hi).1:=by show(Xb c cu lo hi).1%256=_;omega
 rw[e]
def Xur(d T' b0 e z)(g:z.length=4)(i:aj)(cu a b)(m:W c G j s o i j { s with cu:=cu } [(e,0,gV a b 0 []),(b0,0,z)]) :
  aK c G j s (H4 (aH (d+6)) (.bool T') (pt e 0 0) (pt c.C 0 0) (pt b0 0 0) i) (jU o j s (oM a b (kL c cu T').1 (iN c (kL c cu T').2).1) (iN c (kL c cu T').2).2):=by
 delta H4 H C L jf A D;unfold kL;cases T' with
 |false =>rw[X5,af ak];exact WZ _ b0 e z g i cu a b 0 m
 |true =>
  rw[X6,ah rfl];simp only[X7,X3];refine m.aC (l1:=[]) (za6:=gV a b 2 []) rfl rfl aW rfl λq f=>?_;have f:W c G j s o q j _ [(e,0,gV a b 2 []),(b0,0,z)]:=f;refine f.call (kF f.ps _ _) λr h=>?_;refine Xh (λl=>?_) (λl=>?_)
  ·rw[ah l];refine h.call (kz h.ps 1 2 2 rfl aa d) λu n=>?_;dsimp only at n|-;simp only[XlG c _ 1 2 aa,X4,];refine n.aC (l1:=[]) (za6:=gV a b _ []) rfl rfl aW rfl λt p=>?_;exact WZ _ b0 e z g t _ a b _ p
  ·rw[af aq];exact WZ _ b0 e z g r _ a b 2 h
def XkX(d T' b0 b z)(g:z.length=4)(k:aj)(cu a)(h:W c G j s o k j { s with cu:=cu } [(b,0,gV a (-1) 0 []),(b0,0,z)]) :
  aK c G j s (QW (aH (d+6)) (pt c.C 0 0) (pt b 0 0) (.bool T') (pt b0 0 0) k) (jU o j s (oM a (mr c cu).1 (kL c (mr c cu).2 T').1 (iN c (kL c (mr c cu).2 T').2).1) (iN c (kL c (mr c cu).2 T').2).2):=by
 delta QW C L jf A D;unfold mr;refine h.call (kF h.ps _ (d+4)) λm e=>?_;refine Xh (λf=>?_) (λf=>?_)
 ·rw[ah f];refine e.call (kz e.ps 0 _ 16777216 rfl aa d) λq i=>?_;dsimp only at i|-;simp only[X7,X3];refine i.aC (l1:=[]) (za6:=gV a _ 0 []) rfl rfl aW rfl λn l=>?_;exact Xur d _ b0 b z g n _ a _ l
 ·rw[af aq];exact Xur d _ b0 b z g m _ a _ e
def Xti(h:PS c o m j s)(H')(fr:Nat)(T' d):cd c o m j s (TA (d+7) Dl [pt c.C 0 0,sv H',.int .u8 (fr:Int),.bool T'] m)
  (oM (ib c s.cu H' fr T').1.1 (ib c s.cu H' fr T').1.2.1 (ib c s.cu H' fr T').1.2.2.1 (ib c s.cu H' fr T').1.2.2.2) (ib c s.cu H' fr T').2:=by
 refine h.pw (X8z _ _ _ _ _ _) λG k=>?_;delta Dm U;refine k.new λi z r=>?_;delta Qoz H C B Y U jt ju A D;refine r.bO (cs:=[.int .u8 1,.int .u8 2,.int .u8 (fr)]) rfl ak λb E t=>?_;refine t.bO (cs:=[qJ,qK,H'].map sv) rfl ak λy v a=>?_;have a:W c G j s o v j _ _:=a;have lt:=EI c s.cu [qJ,qK,H'] ar;refine a.call (qj a.ps (a.iE br) ar (d+3)) λw f=>?_;generalize q:aP c _ [qJ,qK,H']=O at f lt;have lt:O.1<3:=lt;have ix:Xd 1 (.slice (some ⟨b,0,some 1⟩) 3 1) (I O.1)=some (pt b _ 0):=eU ⟨b,0,1⟩ ar 3 1 O.1 _ lt;have ld:X9 _ 1 (pt b (O.1*1) 0) w=some (.int .u8 (BX O.1 fr)):=f.ld (gC _ br) (by have:O.1=0\/O.1=1\/O.1=2:=aa;rcases this with e|e|e<;>rw[e]<;>rfl)
 have p:Xc ku [(0,1),(1,1),(2,1),(3,1)] [(0,.int .u8 _),(1,.int _ _)]=some (oM (BX O.1 fr) (-1) 0 []):=aU rfl rfl;simp only[ix,X3,ld,p];refine f.new λl F u=>?_;refine u.aC (l1:=[]) (za6:=gV _ _ 0 []) rfl rfl aW rfl λn g=>?_;have g:W c G j s o n j _ [(l,0,gV (BX O.1 fr) (-1) 0 []),(i,0,ku)]:=W.sub g (by simp)
 dsimp only[ib];rw[q];exact XkX d _ i l _ rfl n O.2 _ g
def XaY{c cu}(h:cu.er.isNone=false):(mr c cu).2=cu:=by unfold mr;rw[rA h];rfl
def XbS{c cu}(h:cu.er.isNone=false)(t):(kL c cu t).2=cu:=by unfold kL;rw[rA h];grind
def XbP{c cu}(h:cu.er.isNone=false):(iN c cu).2=cu:=by unfold iN;rw[rA h];rfl
def kG{cu iB:Cu}(f:cu.er.isNone=false->iB=cu)(h:iB.er.isNone=true):cu.er.isNone=true:=by grind
def FK(c:Cx)(cu:Cu):Int:=if(bh c cu oV).1=true then eQ c (bh c cu oV).2 0 16777216 else -1
def B8(c:Cx)(cu:Cu)(T':Bool):Int:=if T'=true then(if(bh c cu zy).1=true then eQ c (bh c cu zy).2 1 2 else 2)else 0
def Mq(w:ai)(a:Nat):Nat:=if w=qJ then 1 else if w=qK then 2 else a
def XrH{c cu}(h:(mr c cu).2.er.isNone=true):FK c cu=(mr c cu).1:=by
 unfold mr FK at *;split
 ·rename_i q;rw[ah q]at h;exact j7 h
 ·rfl
def XsD{c cu}(h:(kL c cu t).2.er.isNone=true):B8 c cu t=(kL c cu t).1:=by
 unfold kL B8 at *;split
 ·rename_i q;rw[ah q]at h;split
  ·rename_i q;rw[ah q]at h;exact j7 h
  ·rfl
 ·rfl
def XqU{c cu}(h:(aP c cu [qJ,qK,H']).2.er.isNone=true):Mq (Xa c cu).1 fr=BX (aP c cu [qJ,qK,H']).1 fr:=by
 unfold aP de de de de at *;unfold Mq BX;split
 ·rfl
 ·rename_i q;rw[af q]at h;split
  ·rfl
  ·rename_i b;rw[af b]at h;by_cases a:(Xa c cu).1=H'
   ·rw[ah a];rfl
   ·rw[af a]at h;have h:(cA c _ 130).er.isNone=true:=h;rw[fY]at h;cases h
def uw(c:Cx)(cu:Cu)(H':ai)(fr:Nat)(T':Bool):Nat × Int × Int × ai:=
 let y:=(aP c cu [qJ,qK,H']).2;let a:=(mr c y).2;let b:=(kL c a T').2
 (Mq (Xa c cu).1 fr,FK c y,B8 c a T',(iN c b).1)
def Xyk{c cu}(h:(ib c cu H' fr T').2.er.isNone=true):uw c cu H' fr T'=(ib c cu H' fr T').1:=by unfold ib uw at *;dsimp only at h|-;have a:=kG XbP h;have b:=kG (λq=>XbS q _) a;rw[XqU (kG XaY b),XrH b,XsD a]
def XgV(c cu lo hi)(h:hi<256)(m:aj):conv (.int .u8) (.int .i64 (eQ c cu lo hi)) m=some (.int .u8 (eQ c cu lo hi),m):=by
 have:=VG c cu lo hi;rw[dS];have e:IntKind.u8.wrap (eQ c cu lo hi)=eQ c cu lo hi:=by show eQ c cu lo hi%256=_;omega
 rw[e]
def Xve(d b0 e)(f:aj)(cu a b t n)(g:W c G j s o f j { s with cu:=cu } [(e,0,gV a b t n),(b0,0,ku)]) :
  aK c G j s (OG (aH d) (pt e 0 0) (pt b0 0 0) f) (jU o j s (oM a b t n) cu):=
 XC d [] b0 e ku rfl f cu a b t n g
def WI(d b0 e)(k:aj)(cu a b t)(h:W c G j s o k j { s with cu:=cu } [(e,0,gV a b t []),(b0,0,ku)]) :
  aK c G j s (CV (aH (d+2)) (pt c.C 0 0) (pt e 0 0) (pt b0 0 0) k) (jU o j s (oM a b t (iN c cu).1) (iN c cu).2):=by
 delta CV C L jf D;unfold iN;refine h.call (kT h.ps _ d) λm f=>?_;refine Xh (λg=>?_) (λg=>?_)
 ·rw[ah g];refine f.call (nU f.ps d) λq i=>?_;dsimp only at i|-;simp only[X7,X3];refine i.aC (l1:=[]) (za6:=gV a b t _) rfl rfl aW rfl λn l=>?_;exact Xve _ b0 e n _ a b t _ l
 ·rw[af aq];exact Xve _ b0 e m _ a b t [] f
def Xor(g:∀w∈c.ws,w.1≠[])(d H' b0 f)(i:aj)(cu a b)(l:W c G j s o i j { s with cu:=cu } [(f,0,gV a b 0 []),(b0,0,ku)]) :
  aK c G j s (He (aH (d+2)) (sv H') (pt f 0 0) (pt c.C 0 0) (pt b0 0 0) i) (jU o j s (oM a b (B8 c cu (decide (H'=dZ))) (iN c (kL c cu (decide (H'=dZ))).2).1) (iN c (kL c cu (decide (H'=dZ))).2).2):=by
 delta He H C L E jf A P D;unfold kL B8;have p:bin _ _ _ _ _ (.string ⟨#[98,103,112]⟩)=some _:=Qh true true H' _;rw[p,X3];refine Xh (λe=>?_) (λe=>?_)
 ·rw[e,ah rfl,ah rfl];simp only[X7,X3];refine l.aC (l1:=[]) (za6:=gV a b 2 []) rfl rfl aW rfl λu m=>?_;refine m.call (kT m.ps _ d) λr h=>?_;refine Xh (λe=>?_) (λe=>?_)
  ·rw[e,ah rfl,ah rfl];refine h.call (ky h.ps g 1 2 2 rfl aa d) λv n=>?_;dsimp only at n|-;simp only[XgV c _ 1 2 aa,X4];refine n.aC (za6:=gV a b _ []) rfl rfl aW rfl λt q=>?_;exact WI d b0 f t _ a b _ q
  ·rw[e,af ak,af ak];exact WI d b0 f r _ a b 2 h
 ·rw[e,af ak,af ak];exact WI d b0 f i cu a b 0 l
def Vg(b:∀w∈c.ws,w.1≠[])(d H' b0 e)(k:aj)(cu a)(h:W c G j s o k j { s with cu:=cu } [(e,0,gV a (-1) 0 []),(b0,0,ku)]) :
  aK c G j s (CW (aH (d+2)) (pt c.C 0 0) (pt e 0 0) (sv H') (pt b0 0 0) k) (jU o j s (oM a (FK c cu) (B8 c (mr c cu).2 (decide (H'=dZ))) (iN c (kL c (mr c cu).2 (decide (H'=dZ))).2).1) (iN c (kL c (mr c cu).2 (decide (H'=dZ))).2).2):=by
 delta CW C L jf A D;unfold mr FK;refine h.call (kT h.ps _ d) λm g=>?_;refine Xh (λf=>?_) (λf=>?_)
 ·rw[f,ah rfl,ah rfl];refine g.call (ky g.ps b 0 _ 16777216 rfl aa d) λq i=>?_;dsimp only at i|-;simp only[X7,X3];refine i.aC (l1:=[]) (za6:=gV a _ 0 []) rfl rfl aW rfl λn l=>?_;exact Xor b d _ b0 e n _ a _ l
 ·rw[f,af ak,af ak];exact Xor b d _ b0 e m _ a _ g
def Xqt(h:PS c o m j s)(b:∀w∈c.ws,w.1≠[])(H':ai)(t:H'≠[])(fr:Nat)(d):cd c o m j s (TA (d+3) CG [pt c.C 0 0,sv H',.int .u8 (fr:Int)] m)
  (oM (uw c s.cu H' fr (decide (H'=dZ))).1 (uw c s.cu H' fr (decide (H'=dZ))).2.1 (uw c s.cu H' fr (decide (H'=dZ))).2.2.1 (uw c s.cu H' fr (decide (H'=dZ))).2.2.2) (ib c s.cu H' fr (decide (H'=dZ))).2:=by
 refine h.pw (X5e _ _ _ _ _) λG k=>?_;delta CH U;refine k.new λf y u=>?_;delta Z8 B Y U A;rw[show Xc _ _ _=some (oM fr _ 0 []) from aU rfl rfl,X3];refine u.new λg z v=>?_;refine v.aC (l1:=[]) (za6:=gV fr _ 0 []) rfl rfl aW rfl λF r=>?_;delta Z9 C E jf P D;refine r.call (mM r.ps _ _ _ ak ak t d) λn i=>?_;have q:=λw x=>Qh true true w x;dsimp only[ib,uw];unfold Mq;refine Eq.mpr (jQ (λx=>aK c G j s (bp (aI x n) _) _) (q (Xa c s.cu).1 qJ)) ?_;rw[X3];refine Xh (λa=>?_) (λa=>?_)
 ·have a:=aT a;rw[ah a];simp only[X7,X3];refine i.aC (za6:=gV 1 _ 0 []) rfl rfl aW rfl λp l=>?_;exact Vg b d _ f g p _ 1 l
 ·have a:=aV a;rw[af a];refine Eq.mpr (jQ (λx=>aK c G j s (bp (aI x n) _) _) (q (Xa c s.cu).1 qK)) ?_;rw[X3];refine Xh (λa=>?_) (λa=>?_)
  ·have a:=aT a;rw[ah a];simp only[X7,X3];refine i.aC (za6:=gV 2 _ 0 []) rfl rfl aW rfl λp l=>?_;exact Vg b d _ f g p _ 2 l
  ·rw[af (aV a)];exact Vg b d _ f g n _ fr i
variable {x:Option Rs}
def jI(d:k≠[1])(b:k≠[0])(a:k≠[15,0]/\k≠[2]):aL c s k=s.X k:=by unfold aL;rw[af d,af b,af λq=>a.1 q.2,af λq=>a.2 q.2]
def gT(h:kt k=some r):k≠[15,0]/\k≠[2]:=⟨(λe=>by subst e;cases h),(λe=>by subst e;cases h)⟩
def lF(h:s.X [0]=some (.c l)):aL c s [0]=some (.c (dt c s l)):=by unfold aL;rw[af ak,ah rfl,h]
def Ww(c s l):(c.rf=false/\(gy c s l).length=3)\/(c.rf=true/\(gy c s l).length=6):=by
 unfold gy;cases c.rf
 ·exact .inl ⟨rfl,rfl⟩
 simp
def vJ(a:l.length=18):(dt c s l).length=18:=by
 have:=Ww c s l;unfold dt
 grind
def vM(a:l.length=18)(i):(dt c s l)[i]?=if 12<=i/\i<12+(gy c s l).length then(gy c s l)[i-12]? else l[i]?:=by
 unfold dt
 grind
def yi(a:l.length=18)(y)(h:y<12\/(15<=y/\c.rf=false)):(dt c s l)[y]?=l[y]?:=by
 rw[vM a,af];rcases Ww c s l with⟨q,r⟩|⟨q,r⟩
 ·omega
 grind
def XiI(a:y+z.length<=l.length)(h:y+z.length<=12\/(15<=y/\c.rf=false)):gy c s (l.take y++z++l.drop (y+z.length))=gy c s l:=by
 unfold gy;cases q:c.rf with
 |false=>rfl
 |true =>
  have h:y+z.length<=12:=by
   rcases h with h|⟨_,h⟩
   ·exact h
   ·grind
  rw[ah rfl,ah rfl,aX a,aX a,aX a,af aa,af aa,af aa]
def Xpn(a:l.length=18)(y)(b:y+z.length<=18)(h:y+z.length<=12\/(15<=y/\c.rf=false)) :
  (dt c s l).take y++z++(dt c s l).drop (y+z.length)=dt c s (l.take y++z++l.drop (y+z.length)):=by
 have l2:(l.take y++z++l.drop (y+z.length)).length=18:=by rw[EU aa,a]
 have d:y+z.length<=12\/12+(gy c s l).length<=y:=by
  rcases Ww c s l with⟨q,r⟩|⟨q,r⟩
  ·omega
  ·grind
 apply fk;intro i;rw[aX (by rw[vJ a];exact b),vM a,vM l2,XiI aa h,aX aa];by_cases p:y<=i/\i<y+z.length
 ·grind
 ·rw[af p,af p]
def Xp2(a:l.length=18)(y x)(b:y<18)(h:y<12\/(15<=y/\c.rf=false)):(dt c s l).set y x=dt c s (l.set y x):=by
 have e:∀l:List Cl,l.length=18->l.set y x=l.take y++[x]++l.drop _:=λl a=>by
  apply fk;intro i;rw[aX (show y+[x].length<=l.length by rw[a];exact b),du];by_cases q:y=i
  ·subst q;rw[ah rfl,ah aa,ah ⟨c6 _,FZ _⟩,pK];rfl
  ·rw[af q,af (λp=>q (by have:=p.2;simp at this;omega))]
 rw[e _ (vJ a),e _ a];exact Xpn a y b (h.imp (λh=>h) (λh=>h))
def VP{y}(e:some (.c (dt c s l'))=y):(aL c s).set [0] y=aL c { s with X:=s.X.set [0] (some (.c l')) }:=by
 subst e;funext k;unfold aL NX.set;by_cases a:k=[0]
 ·subst a;rfl
 ·simp only[af a]
def um(y)(e:a≠[1])(d:a≠[0])(b:a≠[15,0]/\a≠[2]):(aL c s).set a y=aL c { s with X:=s.X.set a y }:=by
 funext k;unfold aL NX.set;by_cases h:k=a
 ·subst h;simp only[af e,af d,af (λq:c.rf=true/\k=[15,0]=>b.1 q.2),af (λq:c.rf=true/\k=[2]=>b.2 q.2)]
 ·simp only[af h,af (bq d)];rfl
def Ba(w:WT s.X)(f:k≠[1])(d:s.X k=some (.c l)):∃l',aL c s k=some (.c l')/\l'.length=l.length/\∀y,(k=[0]->y<12\/(15<=y/\c.rf=false))->l'[y]?=l[y]?:=by
 by_cases e:k=[0]
 ·subst e;obtain⟨l2,a,b⟩:=w.root;rw[d]at a;cases a;exact⟨_,lF d,by rw[vJ b,b],λy h=>yi b y (h rfl)⟩
 ·obtain⟨r,g,_⟩:=w.ty _ _ d;exact⟨l,by rwa[jI f e (gT g)],rfl,λ_ _=>rfl⟩
def set_comm(X:NX){c}(a b)(h:k≠c):(X.set k a).set c b=(X.set c b).set k a:=by
 unfold NX.set
 grind
def XkM(w:WT s.X)(g:k≠[1])(a:s.X k=some (.c l))(h:y+xs.length<=l.length)(e:k=[0]->y+xs.length<=12\/(15<=y/\c.rf=false)) :
  bF (aL c s) k y xs=aL c { s with X:=bF s.X k y xs }:=by
 obtain⟨i,b,f⟩:=w.root;rw[fp a];by_cases d:k=[0]
 ·subst d;rw[a]at b;cases b;rw[fp (lF a)];refine VP ?_;have:=Xpn (s:=s) (z:=xs.map Cl.v) f y (by rw[gB];omega) (by rw[gB];exact e rfl)
  grind
 ·obtain⟨r,b,_⟩:=w.ty _ _ a;rw[fp (show aL c s k=some _ by rw[jI g d (gT b)];exact a)];exact um _ g d (gT b)
def PS.MF(h:PS c o m j s){g8:ae}(d:k≠[1])(f:s.X k=some (.c l))(e:k=[0]->y<12\/(15<=y/\c.rf=false))(g:l[y]?=some (.v g8)):X9 false 1 (pt (j k).b y (j k).ver) m=some g8:=by obtain⟨i,a,_,b⟩:=Ba (c:=c) h.wt d f;exact h.nr.load (c:=.v g8) a aq
def PS.uM(h:PS c o m j s){sz}(d:k≠[1])(f:s.X k=some (.c l))(e:k=[0]->y<12\/(15<=y/\c.rf=false))(g:l[y]?=some (.s n sz)):X9 false 1 (pt (j k).b y (j k).ver) m=some (ax (j (y::k)) n sz):=by obtain⟨i,a,_,b⟩:=Ba (c:=c) h.wt d f;exact h.nr.load (c:=.s n sz) a aq
def W.YN(h:W c G Q J o m j s ts){x}(p:s.X k=some (.c l))(u:kt k=some r)(hn:x.cells.size=n)(D:x.cells.toList.all one=true)(F:y+n<=l.length)(E:k=[0]->y+n<=12\/(15<=y/\c.rf=false))(f:∀i g8,x.cells.toList[i]?=some g8->dz (bo r (y+i)) (.v g8)){K:aj->Option Rs}(g:∀m1,W c G Q J o m1 j { s with X:=bF s.X k y x.cells.toList } ts->aK c G Q J (K m1) i8) :
  aK c G Q J (bp (bP (Xe n (pt (j k).b y (j k).ver) x m)) λ_ m=>K m) i8:=by
 have q:=(iK u).1;have t:x.cells.toList.length=n:=aa;have ⟨B,a,M,b⟩:=Ba (c:=c) h.ps.wt q p;obtain⟨m1,C,A,w⟩:=h.ps.nr.wF y n x _ a hn D aa (λi hi=>by
  obtain⟨d,d1,d2⟩:=h.ps.wt.get p u (y:=y+i) aa;obtain⟨g8,H⟩:∃g8,x.cells.toList[i]?=some g8:=⟨_,dX aa⟩
  obtain⟨z,rfl⟩:=XcA (f i g8 H) d2;refine⟨z,?_⟩;rw[b (y+i) (λe=>aq)];exact d1) rfl
 have e:(aL c s).set k (some (.c (B.take y++x.cells.toList.map .v++B.drop (y+n))))=aL c { s with X:=bF s.X k y x.cells.toList }:=by rw[<-XkM h.ps.wt q p aa aq,fp a,t]
 rw[e]at A w;rw[C,Xj];exact g m1 (h.go (h.ps.step A w ⟨rfl,rfl,rfl⟩ ⟨h.ps.ok.le,h.ps.ok.ee,h.ps.wt.st p u aa f,h.ps.ok.il,h.ps.ok.ge.to λI L _=>oT (yo h.ps.wt p u (by rw[t];exact F) f I L).symm⟩) w)
def Md(w:WT s.X)(d:s.X k=some (.c l))(g:y<l.length)(f:kt k=some r)(hf:bo r y=some (.l r'))(e:k=[0]):y<12\/(15<=y/\c.rf=false):=by subst e;cases f;obtain⟨l2,a,b⟩:=w.root;rw[d]at a;cases a;refine .inl (Nat.lt_of_not_le λq=>?_);have:y=12\/y=13\/y=14\/y=15\/y=16\/y=17:=aa;rcases this with rfl|rfl|rfl|rfl|rfl|rfl<;>cases hf
def K6(h:PS c o m j s)(t:s.X k=some (.c l))(i:kt k=some r)(hf:bo r y=some (.l r'))(u:l[y]?=some (.s n (aN r'))) :
  n<=o/\(bz s.X (y::k)).length=n*aN r'/\bz (aL c s) (y::k)=bz s.X (y::k):=by
 have d:=fB i hf;have g:=(iK d).1;have f:y::k≠[0]:=λe=>by injection e with e1 e2;exact kB i e2
 have ⟨v,a,x,b⟩:=Ba (c:=c) h.wt ((iK i).1) t;have p:k=[0]->y<12\/(15<=y/\c.rf=false):=Md h.wt t (dO.mp u).1 i hf;have:=h.nr.ow k v y n _ a (by rwa[b y p]);have e:bz (aL c s) (y::k)=bz s.X (y::k):=by unfold bz;rw[jI g f (gT d)]
 refine⟨this.1,?_,e⟩;have w:=this.2.2;rw[jI g f (gT d)]at w;unfold bz
 grind
def XkL{cs}(w:WT s.X)(d:s.X k=some (.c l))(b:kt k=some r)(hf:bo r y=some (.l r'))(o:l[y]?=some (.s n (aN r')))(q:cs.length=aN r')(a:aL c s k=some (.c l')) :
  ((aL c s).set (y::k) (some (.c (bz s.X (y::k)++cs)))).set k (some (.c (l'.set y (.s (n+1) (aN r')))))=aL c { s with X:=bg s.X k y cs }:=by
 obtain⟨t,h,p⟩:=w.root;have f:=(iK b).1;have m:y::k≠[1]:=λe=>by injection e with e1 e2;exact kB b e2
 have j:y::k≠[0]:=λe=>by injection e with e1 e2;exact kB b e2
 rw[pa d o cs q,um _ m j (gT (fB b hf))];by_cases i:k=[0]
 ·subst i;rw[d]at h;cases h;rw[lF d]at a;cases a;refine VP ?_;rw[Xp2 p y _ (by have:=(dO.mp o).1;omega) (Md w d (dO.mp o).1 b hf rfl)];rfl
 ·rw[jI f i (gT b),d]at a;cases a;exact um _ f i (gT b)
def W.XcE{cs}(h:W c G Q J o m j s ((b2,0,cs.map Cl.raw)::ts))(p:s.X k=some (.c l))(f:kt k=some r)(hf:bo r y=some (.l r'))(q:l[y]?=some (.s n (aN r')))(v:cs.length=aN r')(t:cs.all Cl.new=true)(A:∀(i:Nat)(d),cs[i]?=some d->dz ((ch r')[i]?) d)(T:fits (n+1) bytes=true){K:aj->Option Rs}{N:ae->aj->Option Rs}(S:∀M m1,(∀a,aL c s a≠none->a≠y::k->m1.get (j a).b=m.get (j a).b)->N M m1=bp (bP (Xe 1 (pt (j k).b y (j k).ver) M m1)) λ_ m=>K m)(g:∀A' m1 i7,A'<=o+1->(∀u,u≠y::k->i7 u=j u)->W c G Q J A' m1 i7 { s with X:=bg s.X k y cs } ts->aK c G Q J (K m1) i8) :
  aK c G Q J (bp (dn e (aN r') bytes (ax (j (y::k)) n (aN r')) (.slice (some ⟨b2,0,some (aN r')⟩) 1 1) m) N) i8:=by
 have ⟨O,H,F⟩:=K6 h.ps p f hf q;have ⟨l',a,al,b⟩:=Ba (c:=c) h.ps.wt ((iK f).1) p;have x:k=[0]->y<12\/(15<=y/\c.rf=false):=Md h.ps.wt p (dO.mp q).1 f hf;have ⟨a0,z⟩:=h.at' _ br;obtain⟨M,m1,U,R,I,Y,P,L,w,_,_,Z⟩:=h.ps.nr.app (e:=e) (bytes:=bytes) (cs:=cs) a (by rwa[b y x]) z v t T;rw[F,XkL h.ps.wt p f hf q v a]at P L;have I:dn e _ _ (ax _ n _) (.slice (some ⟨b2,0,some _⟩) 1 1) m=some _:=I;rw[I,X4,S _ _ Z,Y,Xj];have B:([0])≠y::k:=λe=>by injection e with e1 e2;exact kB f e2.symm
 have D:([1])≠y::k:=λe=>by injection e with e1 e2;exact kB f e2.symm
 have E:([2])≠y::k:=λe=>by injection e with e1 e2;exact kB f e2.symm
 refine g _ U R aa w ((h.go (h.ps.step P L ⟨w _ B,w _ D,w _ E⟩ ⟨h.ps.ok.le,h.ps.ok.ee,h.ps.wt.ap p f hf q H v A,h.ps.ok.il,h.ps.ok.ge.to λu V _=>Ll p q cs v u V⟩) L).tl)
def W.apv{cs}(h:W c G Q J o m j s ((b2,0,cs.map Cl.raw)::ts))(u:s.X k=some (.c l))(w:kt k=some r)(hf:bo r y=some (.l r'))(v:l[y]?=some (.s n (aN r')))(t:cs.length=aN r')(a:cs.all Cl.new=true)(f:∀(i:Nat)(d),cs[i]?=some d->dz ((ch r')[i]?) d)(q:fits (n+1) bytes=true){K:aj->Option Rs}(g:∀A' m1 i7,A'<=o+1->(∀p,p≠y::k->i7 p=j p)->W c G Q J A' m1 i7 { s with X:=bg s.X k y cs } ts->aK c G Q J (K m1) i8) :
  aK c G Q J (bp (dn e (aN r') bytes (ax (j (y::k)) n (aN r')) (.slice (some ⟨b2,0,some (aN r')⟩) 1 1) m) λx m=>bp (bP (Xe 1 (pt (j k).b y (j k).ver) x m)) λ_ m=>K m) i8:=
 h.XcE u w hf v t a f q (λ_ _ _=>rfl) g
def dF(X:NX)(k:Key)(y:Nat):Bool:=match dm X k y with|.bool b=>b|_=>false
def strOf:ae->ai|.string b=>b.data.toList|_=>[]
def aS(X:NX):List ai:=match X [2]with|some (.m a _)=>a.map λe=>strOf e.1|_=>[]
def Xz(s:ao)(ws:List ai):ao:={ s with X:=(bF s.X [0] 15 [.bool (dF s.X [0] 15||decide (Xr [32] ws∈aS s.X))]).set [2] (some (lv (kg (aS s.X) (Xr [32] ws)))) }
def Xl(s:ao)(ws:List ai):ao:=Xz s ([cQ,s.df,[46]]++ws)
def mj(s:ao)(b:Nat)(ws:List ai):ao:={ Xz s ws with aF:=b,df:=Xr [32] ws }
variable {u:ao}
def nN(c:Cx)(o:Nat)(m:aj)(j:ay)(s:ao)(x:Option Rs)(v:ae)(u:ao):Prop:=
 ∃S,x=some (v,S)/\PS c o S j u/\Wk m j (aL c s) S j (aL c u)
abbrev sw(o:Nat)(j:ay)(v:ae)(u:ao):ae->Nat->ay->ao->Prop:=λv' A' i7 s1=>v'=v/\A'=o/\i7=j/\s1=u
def nN.yY(h:aK c m j s x (sw o j v u)):nN c o m j s x v u:=by obtain⟨k,e,f,g,i,a,b,d,rfl,rfl,rfl,rfl⟩:=h;exact⟨e,a,b,d⟩
def W.cs(h:W c G Q J o m j s ts){w}(a:nN c o m j s g8 w u){k}(g:∀m1,W c G Q J o m1 j u ts->aK c G Q J (k w m1) i8):aK c G Q J (bp g8 k) i8:=by obtain⟨m1,b,d,e⟩:=a;rw[b,X4];exact g m1 (h.go d e)
def W.B5(h:W c G j J o m j u ts):aK c G j J (some (v,m)) (sw o j v u):=h.ret ⟨rfl,rfl,rfl,rfl⟩
def W.str(h:W c G Q J o m j s ts){x}(k:s.X [0]=some (.c l))(hn:x.cells.size=n)(p:x.cells.toList.all one=true)(q:y+n<=18)(d:y+n<=12\/(15<=y/\c.rf=false))(f:∀i g8,x.cells.toList[i]?=some g8->dz (bo 0 (y+i)) (.v g8)){K:aj->Option Rs}(g:∀m1,W c G Q J o m1 j { s with X:=bF s.X [0] y x.cells.toList } ts->aK c G Q J (K m1) i8) :
  aK c G Q J (bp (bP (Xe n (pt c.P y 0) x m)) λ_ m=>K m) i8:=by
 have e:pt c.P y 0=pt (j [0]).b y (j [0]).ver:=by rw[h.ps.pP]
 have ⟨l2,a,b⟩:=h.ps.wt.root;rw[k]at a;cases a;rw[e];exact h.YN k rfl hn p aa (λ_=>d) f g
def PS.root(h:PS c o m j s):∃l,s.X [0]=some (.c l)/\l.length=18/\∀y g8,(y<12\/(15<=y/\c.rf=false))->l[y]?=some (.v g8)->X9 false 1 (pt c.P y 0) m=some g8:=by obtain⟨l,a,b⟩:=h.wt.root;refine⟨l,a,b,λy g8 d e=>?_⟩;have:=h.MF ak a (λ_=>d) e;rwa[h.pP]at this
def L7[f:gF c](l):gy c s l=(tu c s).map .v:=by unfold gy;rw[f.rf];rfl
def PS.yU[f:gF c](h:PS c o m j s)(i g8)(hi:(tu c s)[i]?=some g8):X9 false 1 (pt c.P (12+i) 0) m=some g8:=by
 obtain⟨l,a,b⟩:=h.wt.root;have d:i<3:=(dO.mp hi).1;have:=h.nr.load (y:=12+i) (lF a) (by rw[vM b,L7,ah ⟨aa,by show 12+i<12+3;omega⟩,pQ,gX,hi];rfl)
 rwa[h.pP]at this
def Xoc:∀w i,(lO w i).map (λe=>strOf e.1)=w
 |[],_=>rfl
 |a::l,i=>by show strOf (sv a)::(lO l _).map _=_;rw[Xoc l _];rfl
def Xpb(h:X [2]=some (lv w)):aS X=w:=by unfold aS;rw[h];exact Xoc w 0
def XbT[f:gF c]{k:Key}(b:k≠[1])(a:k≠[0]):aL c s k=s.X k:=by unfold aL;rw[af b,af a,af (λq=>by rw[f.rf]at q;cases q.1),af (λq=>by rw[f.rf]at q;cases q.1)]
def Xwc[f:gF c](y)(w:WT s.X):(aL c s).set [2] y=aL c { s with X:=s.X.set [2] y }:=by
 funext k;by_cases h:k=[2]
 ·subst h;rw[NX.aR,XbT ak ak];rfl
 ·rw[NX.aE _ _ h];unfold aL;simp only[NX.aE _ _ h,NX.aE _ _ (show([0])≠[2] by decide)];rfl
def XbC[gF c]{w}(h:s.X [2]=some (lv w)):aL c s [2]=some (lv w):=by rw[XbT ak ak,h]
def WT.XeI(h:WT X)(w):WT (X.set [2] (some (lv w))) where
 root:=by simp[NX.aE,h.root]
 set:=⟨w,NX.aR _ _ _⟩
 qy:=by simp[NX.aE,h.qy]
 ty:=λk l hk=>by
  by_cases e:k=[2]
  ·rw[e,NX.aR]at hk;cases hk
  ·rw[NX.aE _ _ e]at hk;exact h.ty k l hk
def LL(h:X k=some (.c l))(a:l[y]?=some (.v (.bool b))):dF X k y=b:=by unfold dF dm;rw[Uv h a]
def KD[f:gF c](h:PS c o m j s){v ws}(Q:mK c m j s v ws)(hn:ws.length<=140737488355328)(O:(Xr [32] ws).length<=140737488355328)(d):nN c o m j s (TA (d+1) zW [pt c.P 0 0,v] m) (.tuple ⟨[]⟩) (Xz s ws):=by
 rw[X8x];refine nN.yY (h.Fx ?_);have k:=W.start (h.qG m.next);have E:mK c (aD m m.next) j s v ws:=Q;generalize aD m _=G at k E;delta Dn C D;have r:TA d _ [v,.string ⟨#[32]⟩] G=some _:=Yd v ws _ G E.sl hn O d;simp only[r,X4];delta Qp0 L jc N Z jj jh;have ⟨l,t,B,ld⟩:=k.ps.root;have ⟨w,u⟩:=k.ps.wt.set;obtain⟨d15,H,I⟩:=k.ps.wt.get t rfl (y:=15) aa;obtain⟨b,rfl⟩:∃b,d15=.v (.bool b):=by
  cases d15 with
  |v z=>obtain⟨b,rfl⟩:=I;simp
  |s n U=>cases I
 have q:X9 _ 1 (pt c.P 14 0) G=some _:=k.ps.yU 2 _ rfl;have F:=k.ps.nr.look (XbC u) (Xr [32] ws);rw[k.ps.pO]at F;simp only[Xg,X7,X3,aQ,ld 15 _ (.inr ⟨aa,f.rf⟩) H,q,F];have fin:∀g,W c G j s o g j { s with X:=bF s.X [0] 15 [.bool (b||decide (Xr [32] ws∈w))] } []->aK c G j s (H5 (aH d) (pt c.P 0 0) (sv (Xr [32] ws)) g) (sw o j (.tuple ⟨[]⟩) (Xz s ws)):=λg a=>by
  delta H5 jc jl jh jq;have q:X9 _ 1 (pt c.P 14 0) g=some _:=a.ps.yU 2 _ rfl;have x:(bF s.X [0] 15 [.bool (b||decide (Xr [32] ws∈w))]) [2]=some (lv w):=by simp[fp,t,NX.aE,u]
  have ⟨S,u1,u2,u3⟩:=a.ps.nr.insert (XbC x) (Xr [32] ws);rw[a.ps.pO]at u1;rw[Xwc _ a.ps.wt]at u2 u3;simp only[Xg,X7,X3,q,u1,Xj];have e:Xz s ws={ s with X:=(bF s.X [0] 15 [.bool (b||decide (Xr [32] ws∈w))]).set [2] (some (lv (kg w (Xr [32] ws)))) }:=by unfold Xz;rw[Xpb u,LL t H]
  rw[e];exact(a.go (a.ps.step u2 u3 ⟨rfl,rfl,rfl⟩ ⟨a.ps.ok.le,a.ps.ok.ee,a.ps.wt.XeI _,a.ps.ok.il,a.ps.ok.ge.to λR T M=>oT (sK _ _ aq).symm⟩) u3).B5
 cases b with
 |true =>
  refine k.str (n:=1) t rfl rfl aa (.inr ⟨aa,f.rf⟩) (λi J p=>?_) λg a=>fin g a
  match i,p with
  |0,p=>cases p;grind
 |false =>
  refine k.str (n:=1) t rfl rfl aa (.inr ⟨aa,f.rf⟩) (λi J p=>?_) λg a=>fin g (by exact a)
  match i,p with
  |0,p=>cases p;exact⟨_,rfl⟩
def XkT{m v}(h:SL m v ws):jG 1 ws.length v m=some (ws.map sv):=by
 obtain⟨b,y,r,cs,a,ro,ty,rfl,f,c,d,g⟩:=h;have e:(cs.drop y).take ws.length=ws.map sv:=by
  apply fk;intro i;by_cases hi:i<ws.length
  ·grind
  ·grind
 simp[jG,jF,iI,c,d,e]
def Xk4{m b v}(d:m.get b=some (.cells za9 0 0 false ty))(n:za9.all one=true)(h:SL m v ws)(hn:ws≠[])(t:za9.length+ws.length<=65536) :
  dn e 1 16 (.slice (some ⟨b,0,some 1⟩) za9.length 1) v m=some (.slice (some ⟨m.next,0,some 1⟩) (za9.length+ws.length) 0,m.push (.cells (za9++ws.map sv) 0 0 false (some (2*e)))):=by
 have f:=XkT h;obtain⟨k,y,r,cs,c,ro,j,rfl,o,p,q,s⟩:=h;refine uA ?_;have g:(ws.map sv).all one=true:=by rw[cL];intro l i;obtain⟨w,_,rfl⟩:=mz.mp i;rfl
 have a:ws.length≠0:=λe=>hn (oQ e);have hf:fits (za9.length+ws.length) 16=true:=by grind[fits,Nat.ble_eq.mpr]
 unfold fP;have e1:(Nat.beq ws.length 0||Nat.beq (1%2) 1)=true:=ar;unfold j5;have e5:Nat.ble (0+za9.length*1) za9.length=true:=eE.mpr aa;simp only[kC,f,g,gY,dV,d,e5,hf,tI,fO,a,dW];simp
def W.XeJ(h:W c G Q J o m j s ts){b}(a:(b,0,ws.map sv)∈ts)(hn:n=ws.length)(d:r<2):mK c m j s (.slice (some ⟨b,0,some 1⟩) n r) ws:=by
 subst hn;obtain⟨ty,q⟩:=h.at' _ a;refine⟨b,0,r,ws.map sv,0,false,ty,rfl,(h.lt _ a).2,h.nx _ a,aq,ar,λi w e=>?_⟩
 grind
def Vd(c a l):Xr c (a::l)=if l=[]then a else a++c++Xr c l:=by
 cases l with
 |nil=>simp[Xr]
 |cons b l=>simp[Xr]
def A9(B):∀ws,(∀w∈ws,w.length<=B)->(Xr [32] ws).length<=ws.length*(B+1)
 |[],_=>kn _
 |a::l,h=>by
  rw[Vd];have:=A9 B l λw b=>h w (gC _ b);have e:(a::l).length*(B+1)=l.length*(B+1)+(B+1):=aq
  grind
def AY[f:gF c](h:PS c o m j s){v ws}(t:mK c m j s v ws)(q:ws≠[])(hn:ws.length<=16)(z:∀w∈ws,w.length<=65536)(d):nN c o m j s (TA (d+2) Qg [pt c.P 0 0,v] m) (.tuple ⟨[]⟩) (Xl s ws):=by
 rw[X97];refine nN.yY (h.Fx ?_);have k:=W.start (h.qG m.next);have p:mK c (aD m m.next) j s v ws:=t;generalize aD m _=G at k p;delta HH H jc ju D jp;have n:X9 _ 1 (pt c.P 13 0) G=some _:=k.ps.yU 1 _ rfl;simp only[Xg,X7,X3,n];refine k.bO (cs:=[sv _,sv _,sv _]) rfl ak λb x g=>?_;have ⟨ty,r⟩:=g.at' _ br;have e:=Xk4 (e:=Qc) (za9:=[sv _,sv _,sv _]) r rfl (p.wk g.wk).sl q cF;have e:dn _ 1 16 (.slice (some ⟨b,0,some 1⟩) 3 1) v x=_:=e;rw[e,X4];have i:=g.push ([sv cQ,sv s.df,sv [46]]++ws.map sv) (some (2*Qc))
 refine i.cs (KD i.ps (i.XeJ br cF aa) cF (aO (A9 SB ([cQ,s.df,[46]]++ws) (λw A=>by
  have:=g.ps.ok.il
  grind)) (by grind)) d) λB u=>?_
 exact u.B5
def W.XdU[f:gF c](h:W c G Q J o m j s ts)(i)(g8:ae)(hi:i<3)(A:g8.cells.toList=[g8])(C:one g8=true){u}(E:tu c u=(tu c s).set i g8)(t:u.X=s.X)(g:u.cu=s.cu)(x:u.df.length<=SB):∃m1,Xe 1 (pt c.P (12+i) 0) g8 m=some m1/\W c G Q J o m1 j u ts:=by
 obtain⟨l,a,b⟩:=h.ps.wt.root;have F:g8.cells.size=1:=by rw[<-pL,A];rfl
 have D:(dt c s l).take (12+i)++g8.cells.toList.map Cl.v++(dt c s l).drop (12+i+1)=dt c u l:=by
  rw[A];apply fk;intro d;refine aU (aX (l:=dt c s l) (z:=[Cl.v g8]) (y:=12+i) (by rw[vJ b];grind) d) ?_;rw[vM b,vM b,L7,L7,E,gB,gB,uV];show(if 12+i<=d/\d<12+i+1 then[Cl.v g8][d-(12+i)]? else if 12<=d/\d<12+3 then _ else _)=if 12<=d/\d<12+3 then _ else _;by_cases p:12+i<=d/\d<12+i+1
  ·have:d=12+i:=by omega
   subst this;rw[ah p,ah aa,gX,pQ,du,ah rfl,ah (show i<(tu c s).length from hi),pK];rfl
  ·rw[af p];by_cases q:12<=d/\d<12+3
   ·grind
   grind
 obtain⟨m1,u1,u2,u3⟩:=h.ps.nr.wF _ 1 g8 _ (lF (c:=c) a) F (by rw[A];simp[C]) (by rw[vJ b];omega) (λd H=>by have:d=0:=aa;subst this;have w:i<(tu c s).length:=hi;refine⟨(tu c s)[i],?_⟩;rw[gp,vM b,L7,ah ⟨aa,by show 12+i<12+3;omega⟩,gX,pQ,dX w];rfl) D
 rw[h.ps.pP]at u1;have e:(aL c s).set [0] (some (.c (dt c u l)))=aL c u:=by
  funext k;by_cases r:k=[0]
  ·subst r;rw[NX.aR,lF (by rw[t];exact a)]
  ·rw[NX.aE _ _ r];unfold aL;rw[af r,af r,t,g,f.rf];rfl
 rw[e]at u2 u3;exact⟨m1,u1,h.go (h.ps.step u2 u3 ⟨rfl,rfl,rfl⟩ ⟨by rw[g];exact h.ps.ok.le,by rw[g];exact h.ps.ok.ee,by rw[t];exact h.ps.ok.wt,x,by rw[t];exact h.ps.ok.ge⟩) u3⟩
def W.yU[gF c](h:W c G Q J o m j s ts)(i)(g8:ae)(hi:i<3)(k:g8.cells.toList=[g8])(d:one g8=true){u}(f:tu c u=(tu c s).set i g8)(e:u.X=s.X)(a:u.cu=s.cu)(b:u.df.length<=SB){K:aj->Option Rs}
  (g:∀m1,W c G Q J o m1 j u ts->aK c G Q J (K m1) i8):aK c G Q J (bp (bP (Xe 1 (pt c.P (12+i) 0) g8 m)) λ_ m=>K m) i8:=by
 obtain⟨m1,u1,l⟩:=h.XdU i g8 hi k d f e a b;rw[u1,Xj]
 grind
def EH[f:gF c](h:PS c o m j s){v ws}(t:mK c m j s v ws)(hn:ws.length<=3)(q:∀w∈ws,w.length<=65536)(b:Nat)(p:b≠0)(d):nN c o m j s (TA (d+2) vo [pt c.P 0 0,.func (.func b) ⟨[pt c.P 0 0]⟩ ⟨[]⟩,v] m) (.tuple ⟨[]⟩) (mj s b ws):=by have a:(Xr _ ws).length<=SB:=aO (A9 _ ws q) (aO (lU _ hn) ak);rw[Xas];refine nN.yY (h.Fx ?_);have k:=W.start (h.qG m.next);have l:mK c (aD m m.next) j s v ws:=t;delta DF C Z D jq;refine k.cs (KD k.ps l aa (aO a ak) d) λn g=>?_;have r:TA _ _ [v,.string ⟨#[32]⟩] n=some _:=Yd v ws _ n (l.wk g.wk).sl aa (aO a ak) (d+1);simp only[r,X4];simp only[Xg,X7,X3,aQ];refine g.yU 0 _ ak rfl rfl (u:={ Xz s ws with aF:=b }) (by show[qm c b,_,_]=[_,_,_];unfold qm;rw[af p]) rfl rfl g.ps.ok.il λz x=>?_;refine x.yU 1 _ ak rfl rfl (u:={ Xz s ws with aF:=b,df:=Xr _ ws }) rfl rfl rfl a λA y=>?_;exact y.B5
def ao.at(s:ao)(cu:Cu):ao:={ s with cu:=cu }
def fu(c:Cx)(s:ao)(e:Int):ao:=s.at (cA c s.cu e)
abbrev u32(n:Nat):ae:=.int .u32 (n:Int)
def gx(p:Nat->Bool)(sz f:Nat):Nat->Nat->Option Nat
 |0,_=>none
 |n+1,i=>if p (i*sz+f)=true then some i else gx p sz f n (i+1)
def fq(X:NX)(k:Key)(y sz f:Nat)(v:ai):Option Nat:=gx (λa=>decide (di X (y::k) a=v)) sz f (au X k y) 0
def kX(X:NX)(k:Key)(y sz f:Nat)(v:Int):Option Nat:=gx (λa=>decide (bI X (y::k) a=v)) sz f (au X k y) 0
def rowOf(s:ao)(y sz:Nat)(n:ai)(cs:List Cl):Nat × ao:=match fq s.X [0] y sz 0 n with|some i=>(i,s)|none=>(au s.X [0] y,{ s with X:=bg s.X [0] y cs })
abbrev mV:Nat:=HP
abbrev ni:Nat:=Ij
abbrev kH:Nat:=DR
abbrev oz:Nat:=Ik
abbrev mo:Nat:=I2
def gJ(s:ai):Option Nat:=match parseUintB 16 (eZ 58 s).1,parseUintB 16 (eZ 58 s).2.1 with
 |.ok a,.ok b=>if decDigits a++[58]++decDigits b=s then some (a*65536+b)else none
 |_,_=>none
def ao.app(s:ao)(k:Key)(y:Nat)(cs:List Cl):ao:={ s with X:=bg s.X k y cs }
def ao.aC(s:ao)(k:Key)(y:Nat)(xs:List ae):ao:={ s with X:=bF s.X k y xs }
def ao.iV(s:ao)(k:Key)(y:Nat)(vs:List ae):ao:={ s with X:=iz s.X k y vs }
def ao.nl(s:ao)(k:Key)(y:Nat)(cs:List Cl)(vs:List ae):ao:=(s.app k y (cs++[.s 0 1])).iV (y::k) (au s.X k y*(cs.length+1)+cs.length) vs
def vO(s:ao)(a:ai)(N':Nat)(b:Int):ao:=
 let r:=rowOf s 9 3 a [.v (sv a),.s 0 15,.v (.bool false)];let s1:=r.2.aC [0] 17 [I r.1];let c:=s1.app [9,0] (r.1*3+1) [.v (.int .i64 b),.v (.int .u8 (N':Int)),.v (sv []),.v (sv []),.v (.int .i64 (-1)),.v (.int .i64 (-1)),.v (.int .i64 (-1)),.v (.int .i64 (-1)),.v (.int .i64 (-1)),.v (.int .i64 (-1)),.s 0 1,.v (.bool false),.s 0 1,.v (u32 0),.v (.int .i64 0)]
 mj c kH [dH,a,bN b.toNat]
def vK(c:Cx)(s:ao):ao:=
 let y:=aP c s.cu [gZ,dZ]
 if y.1=0 then
  let v:=dG c y.2
  (mj (s.at v.2) oz [lW,gZ,v.1]).app [0] 10 [.v (sv v.1),.v (u32 0),.s 0 4]
 else
  let n:=Xb c y.2 1 4294967295;let v:=dG c n.2
  (mj (s.at v.2) mo [lW,dZ,v.1]).app [0] 11 [.v (sv v.1),.v (.int .u32 n.1),.v (u32 0),.s 0 2,.s 0 6,.s 0 4]
def og(c:Cx)(s:ao):ao:=
 let v:=dG c s.cu;let a:=Xy c v.2;let k:=c8 c a.2 false;let d:=bh c (iX c k.2 a.1 k.1) Gd;let h:Nat × Cu:=if d.1=true then(0,d.2)else ll c d.2;let x:=bh c h.2 se;let n:=Xb c x.2 1 255;let e:Int × Cu:=if x.1=true then n else(1,x.2)
 let g8:=bh c e.2 lX;let g:=Xb c g8.2 0 16777216;let t:Int × Cu:=if g8.1=true then g else(0,g8.2)
 (s.at t.2).app [0] 6 [.v (sv v.1),.v (u32 a.1),.v (I k.1),.v (u32 h.1),.v (.bool d.1),.v (.int .i64 e.1),.v (.int .i64 t.1)]
def cM(c:Cx):Nat->Cu->List Nat × Cu
 |0,cu=>([],cu)
 |f+1,cu =>
  let w:=Xa c cu;let n:=gJ w.1;let a:=if n.isSome=true then w.2 else cA c w.2 130;let r:=cM c f a
  if cH c a=true then(n.getD 0::r.1,r.2)else([n.getD 0],a)
def rK(c:Cx)(J:ao):ao:=
 let w:=Xa c J.cu;let s:=J.at w.2
 if w.1=NA then og c s
 else if w.1=jC then
  let n:=bB c s.cu
  (mj (s.at n.2) ni [jC,n.1]).app [0] 4 [.v (sv n.1),.s 0 10]
 else if w.1=wQ then
  let n:=bB c s.cu;let e:=j9 c n.2;let r:=rowOf (s.at e.2) 7 2 n.1 [.v (sv n.1),.s 0 5]
  r.2.app [7,0] (r.1*2+1) [.v (.bool e.1.1),.v (u32 e.1.2.1),.v (I e.1.2.2.1),.v (.int .i64 e.1.2.2.2.1),.v (.int .i64 e.1.2.2.2.2)]
 else if w.1=wR then
  let n:=bB c s.cu;let y:=aP c n.2 [dq,dP];let l:=cM c (c.ws.length+1) y.2;let r:=rowOf (s.at l.2) 8 2 n.1 [.v (sv n.1),.s 0 2]
  r.2.nl [8,0] (r.1*2+1) [.v (.bool (decide (y.1=0)))] (l.1.map u32)
 else if w.1=wS then
  let y:=aP c s.cu [zz,tP];let x:=lN c y.2 jC;let n:=bB c x;let g8:=lN c n.2 zA;let a:=Xy c g8
  (s.at a.2).app [0] 5 [.v (.bool (decide (y.1=1))),.v (sv n.1),.v (u32 a.1)]
 else fu c s 130
def qE(c:Cx)(J:ao):ao:=
 let w:=Xa c J.cu;let s:=J.at w.2
 if w.1=lD then
  let n:=bB c s.cu
  Xz ((s.at n.2).aC [0] 0 [sv n.1]) [lD]
 else if w.1=jB then
  let n:=bB c s.cu
  (Xz (s.at n.2) [jB,n.1]).app [0] 2 [.v (sv n.1)]
 else if w.1=sf then
  let n:=bB c s.cu
  (mj (s.at n.2) mV [sf,n.1]).app [0] 3 [.v (sv n.1),.v (sv []),.v (u32 0),.v (I 0),.v (.bool false),.v (sv []),.v (sv []),.v (.int .u8 0),.v (.int .i64 (-1)),.v (I 10),.v (.bool false)]
 else if w.1=[105,112]then rK c s
 else if w.1=dH then
  let n:=bB c s.cu;let y:=aP c n.2 [dq,dP,lE];let q:=Xb c y.2 1 65535
  vO (s.at q.2) n.1 (if y.1=0 then 1 else if y.1=1 then 0 else 2) q.1
 else if w.1=lW then vK c s
 else fu c s 130
def rh(c:Cx)(J:ao):ao:=
 let w:=Xa c J.cu;let s:=J.at w.2;let b:=(au s.X [0] 3-1)*11;let k:Key:=[3,0]
 if w.1=jB then
  let n:=bB c s.cu
  Xl ((s.at n.2).aC k (b+1) [sv n.1]) [w.1]
 else if w.1=NB then
  let a:=Xy c s.cu;let m:=c8 c a.2 false;let s1:=(((s.at a.2).aC k (b+2) [u32 a.1]).at m.2).aC k (b+3) [I m.1]
  Xl (if m.1=0 then fu c s1 10 else s1) [w.1]
 else if w.1=jC then
  let n:=bB c s.cu;let y:=aP c n.2 [cQ,ed]
  if y.1=0 then Xl ((s.at y.2).aC k (b+5) [sv n.1]) [w.1,cQ]else Xl ((s.at y.2).aC k (b+6) [sv n.1]) [w.1,ed]
 else if w.1=wS then
  let y:=aP c s.cu [pS,pT]
  Xl ((s.at y.2).aC k (b+7) [.int .u8 (y.1+1:Nat)]) [w.1]
 else if w.1=gZ then
  let y:=aP c s.cu [mC,mD,mF];let n:=Xb c y.2 0 16777216;let q:=Xb c y.2 1 65535;let s1:=if y.1=0 then(s.at n.2).aC k (b+8) [.int .i64 n.1]else if y.1=1 then(s.at q.2).aC k (b+9) [.int .i64 q.1]else(s.at y.2).aC k (b+10) [.bool true]
  Xl s1 [w.1,(bG c (1%c.ws.length)).1]
 else if w.1=NC then Xl (s.aC k (b+4) [.bool true]) [w.1]
 else fu c s 130
def nk(c:Cx)(J:ao):ao:=
 let y:=aP c J.cu [dq,dP];let f:=bh c y.2 sc;let g:=bh c f.2 Gf;let h:=bh c g.2 Gg;let i:=bh c h.2 Gh;let n:=Xb c i.2 0 255;let p:Int × Cu:=if f.1=true then(-1,f.2)else if g.1=true then(6,g.2)else if h.1=true then(17,h.2)else if i.1=true then(1,i.2)else n;let a:=iy c p.2;let b:=fR c a.2 p.1;let d:=iy c b.2;let e:=fR c d.2 p.1
 (J.at e.2).app [4,0] ((au J.X [0] 4-1)*2+1) [.v (.bool (decide (y.1=0))),.v (.int .i64 p.1),.v (u32 a.1.1),.v (I a.1.2),.v (u32 d.1.1),.v (I d.1.2),.v (.int .u32 b.1.1),.v (.int .u32 b.1.2),.v (.int .u32 e.1.1),.v (.int .u32 e.1.2)]
def ir(c:Cx)(k:Key)(y:Nat):Nat->ao->ao
 |0,s=>s
 |f+1,s =>
  let n:=Xb c s.cu 1 4294967295;let s1:=(s.at n.2).app k y [.v (.int .u32 n.1)]
  if cH c s1.cu=true then ir c k y f s1 else s1
def mn(X:NX):Key:=[(bI X [0] 17).toNat*3+1,9,0]
def sY(X:NX):Nat:=(au X [9,0] ((bI X [0] 17).toNat*3+1)-1)*15
def gA(c:Cx)(J:ao)(k:Key)(b:Nat):ai × ao:=
 let w:=Xa c J.cu;let s:=J.at w.2;let n:=Xb c s.cu 0 16777216
 (w.1,if w.1=oV then(s.at n.2).aC k (b+7) [.int .i64 n.1]
 else if w.1=Zp then(s.at n.2).aC k (b+8) [.int .i64 n.1]
 else if w.1=lX then(s.at n.2).aC k (b+9) [.int .i64 n.1]
 else if w.1=Zq then
  let x:=bh c s.cu zB;let l:=cM c (c.ws.length+1) x.2
  (((s.at x.2).aC k (b+11) [.bool x.1]).at l.2).iV k (b+10) (l.1.map u32)
 else if w.1=Zr then ir c k (b+12) (c.ws.length+1) s
 else if w.1=Zs then
  let a:=ll c s.cu
  (s.at a.2).aC k (b+13) [u32 a.1]
 else fu c s 130)
def oB(c:Cx)(J:ao):ao:=
 let k:=mn J.X;let b:=sY J.X;let w:=Xa c J.cu;let s:=J.at w.2
 if w.1=zC then
  let q:=Xa c s.cu;let t:=s.at q.2;let n:=bB c t.cu;let g:=Xb c t.cu 0 16777216;let h:=Xb c t.cu 1 4294967295;let r:=if q.1=wQ then(t.at n.2).aC k (b+2) [sv n.1]else if q.1=wR then(t.at n.2).aC k (b+3) [sv n.1]else if q.1=lX then(t.at g.2).aC k (b+4) [.int .i64 g.1]else if q.1=oV then(t.at g.2).aC k (b+5) [.int .i64 g.1]else if q.1=jD then(t.at h.2).aC k (b+6) [.int .i64 h.1]else fu c t 130
  Xl r [w.1,q.1]
 else if w.1=zE then
  let r:=gA c s k b
  Xl r.2 [w.1,r.1]
 else if w.1=zF then
  let n:=Xb c s.cu (IntKind.i64.wrap (bI s.X k b+1)) 65535
  Xl ((s.at n.2).aC k (b+14) [.int .i64 n.1]) [w.1]
 else fu c s 130
def wG(x:Nat × Int × Int × ai):List Cl:=[.v (.int .u8 (x.1:Int)),.v (.int .i64 x.2.1),.v (.int .u8 x.2.2.1),.v (sv x.2.2.2)]
def ry(c:Cx)(J:ao):ao:=
 let w:=Xa c J.cu;let s:=J.at w.2;let b:=(au s.X [0] 10-1)*3
 if w.1=pU then
  let a:=Xy c s.cu
  Xl ((s.at a.2).aC [10,0] (b+1) [u32 a.1]) [w.1]
 else if w.1=qL then
  let r:=ib c s.cu dZ 8 true
  (s.at r.2).app [10,0] (b+2) (wG r.1)
 else fu c s 130
def ui(c:Cx)(J:ao):ao:=
 let b:=(au J.X [0] 11-1)*6;let a:=Xy c J.cu;let i:=kX J.X [11,0] (b+4) 6 0 (a.1:Int);let y:=aP c a.2 [jD,dH,sg,si];let k:Key:=[b+4,11,0]
 let g8:List ae:=match i with|some d=>(List.range 6).map λq=>dm J.X k (d*6+q)|none=>[u32 0,u32 0,sv [],sv [],.bool false,.bool false]
 let ws:List ai:=[zG,bN a.1]
 let n:=Xb c y.2 1 4294967295;let g:=bB c y.2;let p:=aP c g.2 [cQ,ed];let r:(List ae × List ai) × Cu:=
  if y.1=0 then(([u32 a.1,.int .u32 n.1,sv [],sv [],.bool false,.bool false],ws++[jD]),n.2)
  else if y.1=1 then(if p.1=0 then((g8.set 2 (sv g.1),ws++[dH,cQ]),p.2)else((g8.set 3 (sv g.1),ws++[dH,ed]),p.2))
  else if y.1=2 then((g8.set 4 (.bool true),ws++[sg]),y.2)else((g8.set 5 (.bool true),ws++[si]),y.2)
 let s:=J.at r.2
 match i with
 |none=>if y.1=0 then Xl (s.app [11,0] (b+4) (r.1.1.map .v)) r.1.2 else s.aC [0] 16 [.bool true]
 |some d=>Xl (if y.1=0 then s else s.aC k (d*6) r.1.1) r.1.2
def rG(c:Cx)(J:ao):ao:=
 let w:=Xa c J.cu;let s:=J.at w.2;let b:=(au s.X [0] 11-1)*6
 if w.1=pU then
  let a:=Xy c s.cu
  Xl ((s.at a.2).aC [11,0] (b+2) [u32 a.1]) [w.1]
 else if w.1=ND then
  let a:=Xy c s.cu;let m:=c8 c a.2 false;let s1:=Xl (s.at (iX c m.2 a.1 m.1)) [w.1,kb a.1 (m.1:Int)]
  s1.app [11,0] (b+3) [.v (u32 a.1),.v (I m.1)]
 else if w.1=zG then ui c s
 else if w.1=qL then
  let r:=ib c s.cu gZ 4 false
  (s.at r.2).app [11,0] (b+5) (wG r.1)
 else fu c s 130
end Go.Ab.Sh
namespace Go.Ab
open Go
variable {L:Lc}{X X0:NX}{o lo n y sz:Nat}{k q:Key}{l:List Cl}{m G:Mem}{ty:Option Nat}{vs:List Value}{j Q:ay}
def U6(j k vs):cells j k (vs.map .v)=vs:=by apply fk;intro i;rw[Xn,gX];cases vs[i]?<;>rfl
def NR.own(h:NR o m j X)(F:X k=some (.c l))(R:l[y]?=some (.v (ax L n sz)))(hn:n≠0)(hz:0<sz)(W:X (y::k)=none)(Z:∀T,X T≠none->(j T).b≠L.b)(J:L.b<m.next)(hr:L.r<2)(hg:m.get L.b=some (.cells vs L.ver 0 false ty))(hl:vs.length=n*sz)(D:vs.all one=true) :
  NR (max o n) m (j.set (y::k) L) ((X.set (y::k) (some (.c (vs.map .v)))).set k (some (.c (l.set y (.s n sz))))):=by
 have K:y<l.length:=(dO.mp R).1;let M:NX:=(X.set (y::k) (some (.c (vs.map .v)))).set k (some (.c (l.set y (.s n sz))));have X'k:M k=some _:=NX.aR _ _ _;have z:M (y::k)=some (.c (vs.map .v)):=by grind[NX.set,NX.aE,fQ,NX.aR]
 have g:∀a,a≠k->a≠y::k->M a=X a:=λa D V=>by show(NX.set _ _ _) _=_;rw[NX.aE _ _ D,NX.aE _ _ V]
 have p:∀a,M a≠none->a≠y::k->X a≠none:=λa d A=>by grind
 have f:∀a,a≠y::k->(j.set _ L) a=j a:=λa d=>ay.aE _ _ d;have S:=f k (λe=>fQ y k e.symm);have Y:∀a l2,a≠k->cells (j.set (y::k) L) a l2=cells j a l2:=λa l2 A=>U7 λi C u _ _=>ay.aE _ _ (λe=>A aq);have Q:cells (j.set (y::k) L) k (l.set y (.s n sz))=cells j k l:=by
  apply fk;intro i;rw[Xn,du,Xn];by_cases e:y=i
  ·subst e;rw[ah rfl,ah K,R];show some (ax _ n sz)=some (ax L n sz);rw[ay.aR]
  ·rw[af e];cases E:l[i]? with
   |none=>rfl
   |some c =>
    cases c with
    |v x=>rfl
    |s C u =>show some (ax _ C u)=some (ax _ C u);rw[ay.aE _ _ (λe2=>e aq)]
 show NR _ _ _ M;exact{
  inj:=λa b d H e=>by
   by_cases e1:a=y::k
   ·by_cases e2:b=y::k
    ·grind
    ·rw[e1,ay.aR,f b e2]at e
     grind
   ·by_cases e2:b=y::k
    ·rw[e2,ay.aR,f a e1]at e
     grind
    ·rw[f a e1,f b e2]at e;exact h.inj a b (p a d e1) (p b H e2) e
  hi:=λa d=>by
   by_cases e1:a=y::k
   ·rwa[e1,ay.aR]
   ·rw[f a e1];exact h.hi a (p a d e1)
  r2:=λa d=>by
   by_cases e1:a=y::k
   ·rwa[e1,ay.aR]
   ·rw[f a e1];exact h.r2 a (p a d e1)
  at':=λa ob d=>by
   by_cases e1:a=k
   ·subst e1;rw[X'k]at d;cases d;obtain⟨O,q⟩:=h.at' _ _ F;refine⟨O,?_⟩
    grind
   ·by_cases e2:a=y::k
    ·subst e2;rw[z]at d;cases d;refine⟨ty,?_⟩;rwa[ay.aR,U6]
    ·rw[g a e1 e2]at d;have:=h.at' a ob d;cases ob with
     |c l2 =>
      obtain⟨P,t⟩:=this;refine⟨P,?_⟩
      grind
     |m es cl =>show m.get _=_;rw[f a e2];trivial
  ok:=λa l2 d=>by
   by_cases e1:a=k
   ·subst e1;rw[X'k]at d;cases d;have:=h.ok _ _ F;rw[cL]at this|-;intro c E;rcases M4 E with q|q
    ·grind
    ·rw[q];rfl
   ·by_cases e2:a=y::k
    ·subst e2;rw[z]at d;cases d;rw[cL]at D|-;intro c E;obtain⟨U,hy,rfl⟩:=mz.mp E;exact D U hy
    ·rw[g a e1 e2]at d;exact h.ok a l2 d
  ow:=λa l2 i C u d hi=>by
   by_cases e1:a=k
   ·rw[e1]at d|-;rw[X'k]at d;cases d;rw[du]at hi;by_cases e2:y=i
    ·grind
    ·rw[af e2]at hi;obtain⟨N,q2,t⟩:=h.ow _ _ _ _ _ F hi;refine⟨aO N (B9 _ _),q2,?_⟩;rw[g _ (fQ i k) (λe=>e2 (by injection e with w;exact w.symm))];exact t
   ·by_cases e2:a=y::k
    ·grind
    ·rw[g a e1 e2]at d;obtain⟨N,q2,t⟩:=h.ow _ _ _ _ _ d hi;refine⟨aO N (B9 _ _),q2,?_⟩;have I:i::a≠y::k:=λe=>by grind
     by_cases w:i::a=k
     ·rw[w]at t|-;rw[F]at t;by_cases B:C=0
      ·rw[ah B]at t;cases t
      ·rw[af B]at t|-;obtain⟨l',q4,q5⟩:=t;cases q4;exact⟨_,X'k,by rwa[uV]⟩
     ·rw[g _ w I];exact t
  par:=λi G a d=>by
   by_cases e1:i::G::a=y::k
   ·grind
   ·obtain⟨l5,n5,sz5,z1,z2,z3⟩:=h.par i G a (p _ d e1);by_cases e2:G::a=k
    ·grind
    ·by_cases w:G::a=y::k
     ·rw[w,W]at z1;cases z1
     ·exact⟨l5,n5,sz5,by rwa[g _ e2 w],z2,z3⟩ }
def NR.disown(h:NR o m j X)(w:X k=some (.c l))(D:l[y]?=some (.s n sz))(P:∀i,X (i::y::k)=none) :
  NR o m j ((X.set (y::k) none).set k (some (.c (l.set y (.v (ax (j (y::k)) n sz)))))):=by
 let M:NX:=(X.set (y::k) none).set k (some (.c (l.set y (.v (ax (j (y::k)) n sz)))));have X'k:M k=some _:=NX.aR _ _ _;have G:M (y::k)=none:=by show(NX.set _ _ _) _=_;rw[NX.aE _ _ (fQ y k),NX.aR]
 have r:∀a,a≠k->a≠y::k->M a=X a:=λa H I=>by show(NX.set _ _ _) _=_;rw[NX.aE _ _ H,NX.aE _ _ I]
 have g:∀a,M a≠none->X a≠none:=λa d=>by
  by_cases e:a=k
  ·grind
  grind
 have f:∀a,M a≠none->a≠y::k:=λa d e=>aq;have C:cells j k (l.set y (.v (ax (j (y::k)) n sz)))=cells j k l:=by
  apply fk;intro i;rw[Xn,du,Xn];by_cases e:y=i
  ·subst e;rw[ah rfl,ah ((dO.mp D).1),D];rfl
  ·grind
 show NR _ _ _ M;exact{
  inj:=λa b d J e=>h.inj a b (g a d) (g b J) e
  hi:=λa d=>h.hi a (g a d)
  r2:=λa d=>h.r2 a (g a d)
  at':=λa ob d=>by
   have p:=f a aq;by_cases e1:a=k
   ·subst e1;rw[X'k]at d;cases d;obtain⟨A,q⟩:=h.at' _ _ w;refine⟨A,?_⟩
    grind
   ·rw[r a e1 p]at d;exact h.at' a ob d
  ok:=λa l2 d=>by
   have p:=f a aq;by_cases e1:a=k
   ·subst e1;rw[X'k]at d;cases d;have:=h.ok _ _ w;rw[cL]at this|-;intro c K;rcases M4 K with q|q
    ·grind
    ·rw[q];exact nX _ _ _
   ·rw[r a e1 p]at d;exact h.ok a l2 d
  ow:=λa l2 i F z d hi=>by
   have p:=f a aq;have key:∃l3,X a=some (.c l3)/\l3[i]?=some (Cl.s F z)/\i::a≠y::k:=by
    by_cases e1:a=k
    ·grind
    ·grind
   obtain⟨l3,w1,w2,O⟩:=key;obtain⟨L,q2,t⟩:=h.ow _ _ _ _ _ w1 w2;refine⟨L,q2,?_⟩;by_cases B:i::a=k
   ·rw[B]at t|-;rw[w]at t;by_cases u:F=0
    ·rw[ah u]at t;cases t
    ·rw[af u]at t|-;obtain⟨Q,q4,N⟩:=t;cases q4;exact⟨_,X'k,by rw[uV];exact N⟩
   ·rw[r _ B O];exact t
  par:=λi E a d=>by
   have p:=f _ d;obtain⟨R,n5,sz5,z1,z2,S⟩:=h.par i E a (g _ d);by_cases e2:E::a=k
   ·grind
   grind }
def Wk.sub{S H1 X1 X2}(w:Wk m j X1 S H1 X2)(hs:∀k,X1 k≠none->X k≠none):Wk m j X S H1 X2 where
 next:=w.next
 low:=w.low
 bQ:=λx a b c=>w.bQ x a b λk hk=>c k (hs k hk)
 get:=λb a c=>w.get b a λk hk=>c k (hs k hk)
 lo:=w.lo
 nw:=λk hk=>by
  rcases w.nw k hk with q|⟨k0,q1,q2⟩
  ·omega
  ·grind
 kp:=by
  rcases w.kp with⟨k,a,b⟩|⟨a,b⟩
  ·grind
  ·grind
def Wk.Ys(w:Wk G Q X0 m j X)(f:X k≠none)(d:lo<=(j k).b)(e:lo<=m.low):∃c,X0 c≠none/\lo<=(Q c).b:=by
 rcases w.kp with⟨q,a,b⟩|⟨e1,e2⟩
 ·grind
 ·grind
def Wk.own{M}(w:Wk G Q X0 m j X)(hL:G.next<=L.b)(hkp:∃k0,X0 k0≠none/\m.low<=(Q k0).b)(hX:∀k,M k≠none->k=q\/X k≠none):Wk G Q X0 m (j.set q L) M where
 next:=w.next
 low:=w.low
 bQ:=w.bQ
 get:=w.get
 lo:=w.lo
 nw:=λk hk=>by
  by_cases e:k=q
  ·simp_all[ay.aR]
  ·rw[ay.aE _ _ e];rcases hX k hk with h|h
   ·grind
   ·exact w.nw k h
 kp:=.inl hkp
end Go.Ab
namespace Go.Ab.Sh
open Go Go.Ab Go.Lib
variable {c:Cx}{G m:Mem}{Q j:ay}{J s:ao}{o:Nat}{ts:List Tmp}{i8:Value->Nat->ay->ao->Prop}
abbrev dT(p:Bool)(a b:Nat)(g l:Int):List ae:=[.bool p,.int .u32 (a:Int),.int .i64 (b:Int),.int .i64 g,.int .i64 l]
abbrev uK(p:Bool)(a b:Nat)(g l:Int):ae:=.agg ⟨dT p a b g l⟩
def XaQ(d b0 f z)(n:z.length=5)(e:aj)(cu p a b g l){ts:List Tmp}(h:W c G j s o e j { s with cu:=cu } [(f,0,dT p a b g l),(b0,0,z)]) :
  aK c G j s (IM (aH d) (pt f 0 0) (pt b0 0 0) e) (jU o j s (uK p a b g l) cu):=by
 delta IM jd jl;rw[show X9 _ 5 _ e=some (uK p a b g l) from h.fi br ar rfl,X3];refine h.aC (l1:=[_]) (za6:=dT p a b g l) rfl rfl (by show 0+5<=z.length;omega) (by show[]++dT p a b g l++z.drop (0+5)=_;rw[rS aa];rfl) λk i=>?_;rw[show X9 _ 5 _ k=some (uK p a b g l) from i.fi (gC _ br) ar rfl,vT];exact i.ki
def XbA(d b0 e z)(i:z.length=5)(n:aj)(cu p a b g l)(k:W c G j s o n j { s with cu:=cu } [(e,0,dT p a b g l),(b0,0,z)]) :
  aK c G j s (IN (aH (d+6)) (pt c.C 0 0) (pt e 0 0) (pt b0 0 0) n) (jU o j s (uK p a b g (lQ c cu g l).1) (lQ c cu g l).2):=by
 delta IN C F L jf A D;unfold lQ;refine k.call (kF k.ps _ (d+4)) λq f=>?_;refine Xh (λh=>?_) (λh=>?_)
 ·rw[ah h];have ld:X9 _ 1 (pt e 3 0) q=some _:=f.ld br rfl;simp only[X7,X3,aQ,ld];refine f.call (kz f.ps g 32 32 rfl aa d) λv m=>?_;dsimp only at m|-;refine m.aC (l1:=[]) (za6:=dT p a b g _) rfl rfl aW rfl λt r=>?_;exact XaQ _ b0 e z i t _ p a b g _ (ts:=[]) r
 ·rw[af aq];exact XaQ _ b0 e z i q _ p a b g l (ts:=[]) f
def XmT(d b0 e b2 z)(k:z.length=5)(n:aj)(cu p)(a b:Nat)(l:W c G j s o n j { s with cu:=cu } [(b2,0,[.int .u32 (a:Int),.int .i64 (b:Int)]),(e,0,dT p a b b b),(b0,0,z)]) :
  aK c G j s (Rw (aH (d+6)) (pt c.C 0 0) (pt b2 0 0) (pt e 0 0) (pt b0 0 0) n) (jU o j s (uK p a b (eA c cu b).1.1 (lQ c (eA c cu b).2 (eA c cu b).1.1 (eA c cu b).1.2).1) (lQ c (eA c cu b).2 (eA c cu b).1.1 (eA c cu b).1.2).2):=by
 delta Rw C F L jf A D;unfold eA;refine l.call (kF l.ps _ (d+4)) λq f=>?_;refine Xh (λi=>?_) (λi=>?_)
 ·rw[ah i];have ld:X9 _ 1 (pt b2 1 0) q=some _:=f.ld br rfl;simp only[X7,X3,aQ,ld];refine f.call (kz f.ps b 32 32 rfl aa d) λu m=>?_;dsimp only at m|-;refine m.aC (l1:=[_]) (za6:=dT p a b _ b) rfl rfl aW rfl λv t=>?_;refine t.aC (za6:=dT p a b _ 32) rfl rfl aW rfl λr g=>?_;have g:W c G j s o r j _ ((b2,0,[.int _ (a),.int _ _])::[(e,0,dT p a b _ 32),(b0,0,z)]):=g;exact XbA d b0 e z k r _ p a b _ 32 g.tl
 ·rw[af aq];exact XbA d b0 e z k q _ p a b b b f.tl
def UB(d b0 g b2 z)(m:z.length=5)(f:aj)(cu p)(a b:Nat)(h:W c G j s o f j { s with cu:=cu } [(b2,0,[.int .u32 (a:Int),.int .i64 (b:Int)]),(g,0,dT p 0 0 0 0),(b0,0,z)]) :
  aK c G j s (DM (aH (d+6)) (pt b2 0 0) (pt g 0 0) (pt c.C 0 0) (pt b0 0 0) f) (jU o j s (uK p a b (eA c cu b).1.1 (lQ c (eA c cu b).2 (eA c cu b).1.1 (eA c cu b).1.2).1) (lQ c (eA c cu b).2 (eA c cu b).1.1 (eA c cu b).1.2).2):=by
 delta DM O jo T jn jd X Y jf;have i:∀S e,W c G j s o S j { s with cu:=cu } ((b2,0,[.int .u32 (a),.int .i64 (b)])::e)->X9 _ 1 (pt b2 1 0) S=some _:=λS e w=>w.ld br rfl;have lp:X9 _ 2 _ f=some (dL (a) _):=h.fi (y:=0) br ar rfl;simp only[lp,X3,X7,aQ,i f _ h];refine h.aC (l1:=[_]) (za6:=dT p a b 0 0) rfl rfl aW rfl λq k=>?_;simp only[i q _ k,kQ,fO,Xv];refine k.aC (za6:=dT p a b b 0) rfl rfl aW rfl λr l=>?_;simp only[i r _ l,kQ,Xv];refine l.aC (za6:=dT p a b b b) rfl rfl aW rfl λt n=>?_;exact XmT d b0 g b2 z m t cu p a b n
def Xxm(h:PS c o m j s)(d):cd c o m j s (TA (d+7) PW [pt c.C 0 0] m)
  (uK (j9 c s.cu).1.1 (j9 c s.cu).1.2.1 (j9 c s.cu).1.2.2.1 (j9 c s.cu).1.2.2.2.1 (j9 c s.cu).1.2.2.2.2) (j9 c s.cu).2:=by
 refine h.pw (X9z _ _ _) λG k=>?_;delta HQ U;refine k.new λg S K=>?_;delta Qpe H C B Y U jr jk A D;refine K.bO (cs:=[dq,dP].map sv) rfl ak λR N l=>?_;have l:W c G j s o N j _ _:=l;refine l.call (qj l.ps (l.iE br) ar (d+3)) λT w=>?_;generalize F:aP c _ [dq,dP]=O at w;have z:∀p,Xc mI [(0,1),(1,2),(3,1),(4,1)] [(0,.bool p)]=some (uK p 0 0 0 0):=λp=>aU rfl rfl;have t:bin .eql true true .int (I O.1) (.int .i64 0)=some (.bool (decide (O.1=0))):=by simp[dI,gW]
 simp only[t,X3,z];refine w.new λi V L=>?_;refine L.aC (l1:=[]) (za6:=dT _ 0 0 0 0) rfl rfl aW rfl λP n=>?_;have n:W c G j s o P j _ [(i,0,dT (decide (O.1=0)) 0 0 0 0),(g,0,mI)]:=W.sub n (by simp)
 delta Qpf C Y U jg;have v:=fL n.ps;refine n.call (mO n.ps (d+4)) λQ x=>?_;dsimp only at x v|-;simp only[XoW _ (aO v ak) _ Q,X4,Bv,dy,dK,X3];refine x.new λr X M=>?_;generalize J:pj _=q;refine M.aC (l1:=[]) (za6:=[.int _ (q.1),.int _ (q.2.1)]) rfl rfl aW rfl λy k9=>?_;have k9:W c G j s o y j _ [(r,0,[.int _ _,.int _ (q.2.1)]),(i,0,dT _ 0 0 0 0),(g,0,mI)]:=k9;delta Qpg C E jk A;dsimp only[j9];rw[F];have e0:∀e:Nat,bin _ true true _ (I q.2.2) (.int _ (e))=some (.bool (decide (q.2.2=e))):=λe=>by rw[dI];congr 2;simp only[gW];omega
 have e1:bin _ _ _ _ _ (.int _ 0)=some _:=e0 0;have e2:bin _ _ _ _ _ (.int _ 10)=some _:=e0 10;simp only[e1,e2,X3];unfold YC;rw[J];refine Xh (λa=>?_) (λa=>?_)
 ·rw[ah (aT a)];exact UB d g i r _ rfl y _ _ q.1 _ k9
 ·rw[af (aV a)];refine Xh (λa=>?_) (λa=>?_)
  ·rw[ah (aT a)];exact k9.call (lJ k9.ps 10 ak _) λf b=>UB d g i r _ rfl f _ _ q.1 _ b
  ·rw[af (aV a)];exact k9.call (lJ k9.ps 130 ak _) λf b=>UB d g i r _ rfl f _ _ q.1 _ b
end Go.Ab.Sh
namespace Go.Ab
open Go
def uv{n b}(h:n<=8589934592)(a:b<=256):fits (n+1) b=true:=by have c:(n+1)*b<=8589934593*256:=Nat.mul_le_mul aa a;unfold fits;rw[eE.mpr aa,eE.mpr aa];rfl
end Go.Ab
namespace Go.Ab.Sh
open Go Go.Ab Go.Lib
variable {a k:Key}{b2 bytes A' e f n y r r' sz:Nat}{cs l:List Cl}{s1:ao}{t:ai}{w:Value}{xs:List Value}{g8:Option Rs}{i7:ay}
variable {c:Cx}{G m:Mem}{Q j:ay}{J s u:ao}{o h:Nat}{ts:List Tmp}{x:Option Rs}{i8:Value->Nat->ay->ao->Prop}{v:Value}{cu:Cu}
def bL(s:ao)(cu):(s.at cu).cu=cu:=rfl
def Yb(s:ao)(cu):(s.at cu).X=s.X:=rfl
abbrev gG(o h:Nat)(v:ae)(u:ao):ae->Nat->ay->ao->Prop:=λv' A' _ s1=>v'=v/\A'<=o+h/\s1=u
def eM(c:Cx)(o h:Nat)(m:aj)(j:ay)(s:ao)(x:Option Rs)(v:ae)(u:ao):Prop:=aK c m j s x (gG o h v u)
def PS.pad(a:PS c o m j s){b:aj->Option Rs}(d:x=cK m (b (aD m m.next)))(go:∀G,W c G j s o G j s []->aK c G j s (b G) (gG o h v u)):eM c o h m j s x v u:=by subst d;exact a.call _ λG k=>go G (W.start k)
def PS.stR(h:PS c o m j s){b:aj->Option Rs}(a:x=cK m (b (aD m m.next)))(go:∀G,W c G j s o G j s []->aK c G j s (b G) (sw o j v u)):nN c o m j s x v u:=by subst a;exact nN.yY (h.call _ λG k=>go G (W.start k))
def W.pd(b:W c G Q J o m j s ts)(a:eM c o h m j s g8 w s1){k}(g:∀A' m1 i7,A'<=o+h->W c G Q J A' m1 i7 s1 ts->aK c G Q J (k w m1) i8):aK c G Q J (bp g8 k) i8:=by obtain⟨n,m1,A',i7,l,d,e,f,rfl,i,rfl⟩:=a;rw[d,X4];exact g _ m1 i7 i (b.go e f)
def W.iM(a:W c G j s A' m i7 u ts)(b:A'<=o+h):aK c G j s (some (v,m)) (gG o h v u):=a.ret ⟨rfl,b,rfl⟩
def nN.pad(a:nN c o m j s x v u):eM c o h m j s x v u:=by obtain⟨S,b,d,e⟩:=a;exact⟨v,S,o,j,u,b,d,e,rfl,Ch _ _,rfl⟩
theorem W.cl(h:W c G Q J o m j s ts)(a:cd c o m j s g8 w cu){k}(g:∀m1,W c G Q J o m1 j (s.at cu) ts->aK c G Q J (k w m1) i8):aK c G Q J (bp g8 k) i8:=by obtain⟨m1,b,d,e⟩:=a;rw[b,X4];exact g m1 (h.go d e)
def vS(y)(f:s.X [0]=some (.c l))(e:a≠[1])(d:a≠[0])(b:a≠[15,0]/\a≠[2]):(aL c s).set a y=aL c { s with X:=s.X.set a y }:=um y e d b
def fd_row(a:aN r=sz)(i f)(h:f<sz):bo r (i*sz+f)=(ch r)[f]?:=by subst a;exact fdAt_row r i f h
def eJ(h:t.length<=SB):dz (some .s) (.v (sv t)):=⟨t,rfl,h⟩
def bR(k z):dz (some (.i k)) (.v (.int k z)):=⟨z,rfl⟩
def fV(b):dz (some .b) (.v (.bool b)):=⟨b,rfl⟩
def jM(r n):dz (some (.l r)) (.s n (aN r)):=rfl
def PS.list(h:PS c o m j s)(g:s.X k=some (.c l))(t:kt k=some r)(B:y<l.length)(hf:bo r y=some (.l r')) :
  l[y]?=some (.s (au s.X k y) (aN r'))/\au s.X k y<=o/\X9 false 1 (pt (j k).b y (j k).ver) m=some (ax (j (y::k)) (au s.X k y) (aN r'))/\(au s.X k y=0->s.X (y::k)=none) /\
   (au s.X k y≠0->∃l',s.X (y::k)=some (.c l')/\l'.length=au s.X k y*aN r'/\(j (y::k)).r<2):=by
 obtain⟨E,u,z⟩:=h.wt.get g t B;rw[hf]at z;cases E with
 |v x=>exact False.elim z
 |s n G =>
  subst z;have e:au s.X k y=n:=by unfold au;rw[cU g,u];rfl
  rw[e];have p:=(iK t).1;have d:=fB t hf;have q:=(iK d).1;have i:y::k≠[0]:=λe=>by injection e with e1 e2;exact kB t e2
  have f:=Md (c:=c) h.wt g B t hf;have ⟨l',a,F,b⟩:=Ba (c:=c) h.wt p g;have w:=h.nr.ow k l' y n _ a (by rwa[b y f]);rw[jI q i (gT d)]at w;refine⟨u,w.1,h.uM p g f u,λC=>?_,λC=>?_⟩
  ·grind
  ·have:=w.2.2;rw[af C]at this;obtain⟨l2,A,D⟩:=this;exact⟨l2,A,D,h.nr.r2 _ (by rw[jI q i (gT d),A];simp)⟩
def PS.dev(h:PS c o m j s)(hf:bo 0 f=some (.l r'))(e:f<18)(g:aN r'=sz) :
  (∃l,s.X [0]=some (.c l)/\f<l.length)/\au s.X [0] f<=o/\X9 false 1 (pt c.P f 0) m=some (ax (j [f,0]) (au s.X [0] f) sz)/\(au s.X [0] f=0->s.X [f,0]=none) /\
   (au s.X [0] f≠0->∃l',s.X [f,0]=some (.c l')/\l'.length=au s.X [0] f*sz/\(j [f,0]).r<2):=by
 subst g;obtain⟨l,a,b⟩:=h.wt.root;obtain⟨_,i,d,k,n⟩:=h.list a rfl aa hf;rw[h.pP]at d;exact⟨⟨l,a,aa⟩,i,d,k,n⟩
def XsC(h:0<n)(a:n<=4611686018427387904):bin .sub true true .int (I n) (.int .i64 1)=some (I (n-1:Nat)):=by rw[kP];have:((n):Int)-1=((n-1:Nat)):=aa;rw[this,wrap64 _ aa]
def PS.Yt(h:PS c o m j s)(f:o<=8589934592)(g:s.X k=some (.c l))(p:kt k=some r)(i:y<l.length)(hf:bo r y=some (.l r'))(q:aN r'=sz)(hn:0<au s.X k y) :
  ∃l',s.X (y::k)=some (.c l')/\l'.length=au s.X k y*sz/\(au s.X k y-1)*sz+sz<=l'.length/\X9 false 1 (pt (j k).b y (j k).ver) m=some (ax (j (y::k)) (au s.X k y) sz) /\
   bin .sub true true .int (I (au s.X k y)) (.int .i64 1)=some (I (au s.X k y-1:Nat))/\Xd sz (ax (j (y::k)) (au s.X k y) sz) (I (au s.X k y-1:Nat))=some (pt (j (y::k)).b ((au s.X k y-1)*sz) (j (y::k)).ver):=by
 subst q;obtain⟨_,u,v,_,w⟩:=h.list g p i hf;obtain⟨l',d,a,e⟩:=w aa;refine⟨l',d,a,?_,v,XsC hn (aO u (aO f ak)),eU _ e _ _ _ _ aa⟩;rw[a];generalize au s.X k y=n at hn;obtain⟨n,rfl⟩:∃t,n=t+1:=⟨n-1,aa⟩
 grind
def PS.last(h:PS c o m j s)(e:o<=8589934592)(hf:bo 0 f=some (.l r'))(d:f<18)(g:aN r'=sz)(hn:0<au s.X [0] f) :
  ∃l',s.X [f,0]=some (.c l')/\l'.length=au s.X [0] f*sz/\(au s.X [0] f-1)*sz+sz<=l'.length/\X9 false 1 (pt c.P f 0) m=some (ax (j [f,0]) (au s.X [0] f) sz) /\
   bin .sub true true .int (I (au s.X [0] f)) (.int .i64 1)=some (I (au s.X [0] f-1:Nat))/\Xd sz (ax (j [f,0]) (au s.X [0] f) sz) (I (au s.X [0] f-1:Nat))=some (pt (j [f,0]).b ((au s.X [0] f-1)*sz) (j [f,0]).ver):=by
 obtain⟨l,a,b⟩:=h.wt.root;have:=h.Yt e a rfl aa hf g hn;rw[h.pP]at this;trivial
def W.st1(h:W c G Q J o m j s ts){x:ae}(a:s.X k=some (.c l))(n:kt k=some r)(z:y<l.length)(t:x.cells=#[x])(w:one x=true)(f:k≠[0])(p:dz (bo r y) (.v x)){K:aj->Option Rs}(g:∀m1 l',bF s.X k y [x] k=some (.c l')->l'.length=l.length->W c G Q J o m1 j (s.aC k y [x]) ts->aK c G Q J (K m1) i8) :
  aK c G Q J (bp (bP (Xe 1 (pt (j k).b y (j k).ver) x m)) λ_ m=>K m) i8:=by
 have e:x.cells.toList=[x]:=by rw[t]
 refine h.YN a n aq aq aa (λq=>absurd q f) (λi u A=>?_) λm1 d=>?_
 ·grind
 ·rw[e]at d;refine g m1 _ (by rw[fp a,NX.aR]) ?_ d
  grind
def W.stn(h:W c G Q J o m j s ts)(f:s.X k=some (.c l))(t:kt k=some r)(hn:xs.length=n)(p:y+n<=l.length)(e:xs.all one=true)(d:k≠[0])(a:∀i g8,xs[i]?=some g8->dz (bo r (y+i)) (.v g8)){K:aj->Option Rs}(g:∀m1,W c G Q J o m1 j (s.aC k y xs) ts->aK c G Q J (K m1) i8) :
  aK c G Q J (bp (bP (Xe n (pt (j k).b y (j k).ver) (.agg ⟨xs⟩) m)) λ_ m=>K m) i8:=
 h.YN (x:=.agg ⟨xs⟩) f t hn e p (λq=>absurd q d) a g
def W.MW(h:W c G Q J o m j s ts){x:ae}(n:x.cells=#[x])(q:one x=true)(r:y<18)(d:y<12\/(15<=y/\c.rf=false))(k:dz (bo 0 y) (.v x)){K:aj->Option Rs}(g:∀m1,W c G Q J o m1 j (s.aC [0] y [x]) ts->aK c G Q J (K m1) i8) :
  aK c G Q J (bp (bP (Xe 1 (pt c.P y 0) x m)) λ_ m=>K m) i8:=by
 have e:x.cells.toList=[x]:=by rw[n]
 have ⟨l,a,b⟩:=h.ps.wt.root;refine h.str a aq aq aa (d.imp (λh=>aa) id) (λi p t=>?_) λm1 f=>?_
 ·grind
 ·rw[e]at f;exact g m1 f
def W.rF(h:W c G Q J o m j s ((b2,0,cs.map Cl.raw)::ts))(f:o<=8589934592)(q:s.X k=some (.c l))(t:kt k=some r)(w:y<l.length)(hf:bo r y=some (.l r'))(z:aN r'=sz)(v:cs.length=sz)(a:cs.all Cl.new=true)(n:∀(i:Nat)(d),cs[i]?=some d->dz ((ch r')[i]?) d)(u:bytes<=256){K:aj->Option Rs}(g:∀A' m1 i7,A'<=o+1->(∀p,p≠y::k->i7 p=j p)->W c G Q J A' m1 i7 (s.app k y cs) ts->aK c G Q J (K m1) i8) :
  aK c G Q J (bp (dn e sz bytes (ax (j (y::k)) (au s.X k y) sz) (.slice (some ⟨b2,0,some sz⟩) 1 1) m) λx m=>bp (bP (Xe 1 (pt (j k).b y (j k).ver) x m)) λ_ m=>K m) i8:=by
 subst z;obtain⟨A,B,_⟩:=h.ps.list q t w hf;exact h.apv q t hf A v a n (uv (aO B f) u) g
def W.Fs(h:W c G Q J o m j s ((b2,0,cs.map Cl.raw)::ts))(n:o<=8589934592)(u:s.X k=some (.c l))(v:kt k=some r)(B:y<l.length)(hf:bo r y=some (.l r'))(C:aN r'=sz)(A:cs.length=sz)(f:cs.all Cl.new=true)(p:∀(i:Nat)(d),cs[i]?=some d->dz ((ch r')[i]?) d)(z:bytes<=256){K:aj->Option Rs}{t:ae->aj->Option Rs}(x:∀w m1,(∀a,aL c s a≠none->a≠y::k->m1.get (j a).b=m.get (j a).b)->t w m1=bp (bP (Xe 1 (pt (j k).b y (j k).ver) w m1)) λ_ m=>K m)(g:∀A' m1 i7,A'<=o+1->(∀q,q≠y::k->i7 q=j q)->W c G Q J A' m1 i7 (s.app k y cs) ts->aK c G Q J (K m1) i8) :
  aK c G Q J (bp (dn e sz bytes (ax (j (y::k)) (au s.X k y) sz) (.slice (some ⟨b2,0,some sz⟩) 1 1) m) t) i8:=by
 subst C;obtain⟨D,E,_⟩:=h.ps.list u v B hf;exact h.XcE u v hf D A f p (uv (aO E n) z) x g
def Xoj{m m1:aj}{b}(h:m1.get b=m.get b):X9 false 1 (pt b y r) m1=X9 false 1 (pt b y r) m:=by rw[EB,EB];simp only[Bn,jF,iI,h]
def W.ml(h:W c G Q J o m j s ((b2,0,cs.map Cl.raw)::ts))(k:o<=8589934592)(q:y<18)(hf:bo 0 y=some (.l r'))(u:aN r'=sz)(t:cs.length=sz)(f:cs.all Cl.new=true)(n:∀(i:Nat)(d),cs[i]?=some d->dz ((ch r')[i]?) d)(r:bytes<=256){K:aj->Option Rs}(g:∀A' m1 i7,A'<=o+1->(∀p,p≠[y,0]->i7 p=j p)->W c G Q J A' m1 i7 (s.app [0] y cs) ts->aK c G Q J (K m1) i8) :
  aK c G Q J (bp (dn e sz bytes (ax (j [y,0]) (au s.X [0] y) sz) (.slice (some ⟨b2,0,some sz⟩) 1 1) m) λx m=>bp (bP (Xe 1 (pt c.P y 0) x m)) λ_ m=>K m) i8:=by
 have e:pt c.P y 0=pt (j [0]).b y (j [0]).ver:=by rw[h.ps.pP]
 have ⟨l,a,b⟩:=h.ps.wt.root;rw[e];exact h.rF k a rfl aa hf u t f n r g
def B3:List Fd->List Cl->Prop
 |[],[]=>True
 |e::b,d::a=>dz (some e) d/\B3 b a
 |_,_=>False
def dJ:∀{t:List Fd} {l:List Cl},B3 t l->∀(i:Nat)(d),l[i]?=some d->dz (t[i]?) d
 |[],[],_,i,d,hd=>aq
 |g::b,e::a,h,0,d,hd=>by cases hd;exact h.1
 |g::b,e::a,h,i+1,d,hd=>dJ h.2 i d hd
 |[],_::_,h,_,_,_=>False.elim h
 |_::_,[],h,_,_,_=>False.elim h
def j6(h:PS c o m j s):(bB c s.cu).1.length<=65536:=fL h
def Bp(h:PS c o m j s):(dG c s.cu).1.length<=65536:=by
 unfold dG;split
 ·obtain⟨e,b,a,d⟩:=kF h jB 0;exact j6 a
 ·simp
end Go.Ab.Sh
namespace Go.Ab
open Go Go.Lib
def XmF(c g)(a n:Nat)(d:a<65536)(hn:n<65536):bin .or c g .int (.int .u32 ((a*65536:Nat):Int)) (.int .u32 (n:Int))=some (.int .u32 ((a*65536+n:Nat):Int)):=by
 rw[lH];simp only[mq,qI,uX,dV];have e1:(BitVec.ofInt 32 ((a*65536:Nat)) ||| BitVec.ofInt 32 (n)).toNat=a*65536+n:=by rw[zh,zh,BitVec.toNat_or,zi,zi,tK aa,tK aa];have h:=XeQ (i:=16) (b:=n) aa a;rw[Nat.shiftLeft_eq]at h;exact h.symm
 have e2:(BitVec.ofInt _ _ ||| BitVec.ofInt IntKind.u32.bits _).toNat=a*65536+n:=e1;rw[e2,IntWalk.u32_in _ aa]
def XkH(c g)(a:Nat)(b:a<65536):bin .shl c g .int (.int .u32 (a:Int)) (.int .u64 16)=some (.int .u32 ((a*65536:Nat):Int)):=by
 show(if(16:Int)<0 then none else some (Value.int _ (IntKind.u32.wrap ((a)*2^(min _ 32)))))=_;have e:((a:Int)*2^(min (16:Int).toNat 32))=((a*65536:Nat)):=by rfl
 rw[af aa,e,IntWalk.u32_in _ aa]
def Xv0(x g8):∃z,(∃w,bin .shl true true .int (.int .u32 x) (.int .u64 16)=some (.int .u32 w)/\bin .or false true .int (.int .u32 w) (.int .u32 g8)=some (.int .u32 z)):=by
 obtain⟨w,a⟩:∃w,bin .shl true true .int (.int .u32 x) (.int .u64 16)=some _:=⟨IntKind.u32.wrap _,by rfl⟩
 obtain⟨z,b⟩:∃z,bin .or false true .int (.int .u32 w) (.int .u32 g8)=some _:=⟨IntKind.u32.wrap _,by rfl⟩
 exact⟨z,w,a,b⟩
end Go.Ab
namespace Go.Ab.Sh
open Go Go.Ab Go.Lib
variable {L:Lc}{A' hi n sz ver:Nat}{cs vs zero:List Value}{lo:Int}{m1:Mem}{s1:ao}{zc0:List Tmp}{ty:Option Nat}{g8:Value}{i7:ay}
variable {c:Cx}{G m:Mem}{Q j:ay}{J s u:ao}{o h:Nat}{ts:List Tmp}{x:Option Rs}{i8:Value->Nat->ay->ao->Prop}{v:Value}{cu:Cu}
def XpT(a:Nat)(b:a<4294967296)(d m):TA (d+1) TF [.int .u32 (a:Int)] m=some (sv (decDigits (a / 65536)++[58]++decDigits (a%65536)),m):=by rw[Xl1];refine cD ?_ (.refl _ _) rfl;generalize aD m _=G;have e1:bin _ true true _ _ (.int _ 16)=some (.int _ ((a / 65536:Nat))):=Wn _ _ a 16 b aa;have e2:bin _ _ _ _ _ (.int _ 65535)=some (.int _ ((a%65536:Nat))):=Wz true true a 16 b aa;have f:IntKind.i64.wrap _=((a / 65536:Nat)):=wrap64 _ aa;have g:IntKind.i64.wrap _=((a%65536:Nat)):=wrap64 _ aa;have l1:=j8 (a / 65536) aa;have l2:=j8 (a%65536) aa;delta JM H C B K D;simp only[e1,X3,dS,f,X4,Fv (a / 65536) aa d G,fC,Qu _ _ (decDigits (a / 65536)) [58] aq,e2,g,Fv (a%65536) aa d G,Qu _ _ (decDigits (a / 65536)++[58]) (decDigits (a%65536)) aq]
theorem XpS(s)(x:s.length<=4194304)(d m):TA (d+3) TC [sv s] m=some (.tuple ⟨[.int .u32 ((gJ s).getD 0:Nat),.int .i64 (if(gJ s).isSome=true then 0 else 4)]⟩,m):=by
 rw[Xi3];have u:=Xpo 58 s;have e:TA (d+2) uc [sv s,sv [58]] (aD m m.next)=_:=XcI s x 58 d (aD m m.next);obtain⟨u1,e1,t,l,r2,I⟩:=XcO 16 (.inl rfl) (eZ 58 s).1 aa (d+2) (aD m m.next);obtain⟨u2,e2,i,k,y,G⟩:=XcO 16 (.inl rfl) (eZ 58 s).2.1 aa (d+2) t;have l:TA _ _ [sv _,.int _ 10,.int _ 16] _=_:=l;have k:TA _ _ [sv _,.int _ 10,.int _ 16] t=_:=k;have F:Fb m.next _ i:=(Fr.iP r2 aY).trans (Fr.iP y r2.next);refine cD ?_ F Nq;delta JF Qxo Qxp Qxq Qxr H C B jg A D;simp only[fC,e,X4,dy,dK,pz,X3,l,k,dS];obtain⟨z,w,o,q⟩:=Xv0 (IntKind.u32.wrap u1) (IntKind.u32.wrap u2);simp only[o,q,X3];delta Qxs C E B jh;have bad:∀p:ai->Option Nat,(p s).isSome=false->D8 (aH (d+2)) (.bool true) (.int .u32 z) i=some (.tuple ⟨[.int .u32 ((p s).getD 0),.int .i64 (if(p s).isSome=true then 0 else 4)]⟩,i):=λp v=>by simp_all[D8,X6,v,L,K,A]
 rcases I with⟨a,c,rfl,rfl⟩|⟨c,p,rfl⟩
 ·rcases G with⟨b,g,rfl,rfl⟩|⟨g,p,rfl⟩
  ·have M:=LR c;have N:=LR g;have J:IntKind.u32.wrap _=a:=IntWalk.u32_in _ aa;have wb:IntKind.u32.wrap _=b:=IntWalk.u32_in _ aa;rw[J,XkH _ _ a aa]at o;cases o;rw[wb,XmF _ _ a b aa aa]at q;cases q;have r:=XpT (a*65536+b) aa (d+1) i;rw[show(a*65536+b) / 65536=a by omega,show(a*65536+b)%65536=b by omega]at r;simp only[XdW,X3,X5,r,X4,uf];by_cases f:decDigits a++[58]++decDigits b=s
   ·have j:gJ s=some (a*65536+b):=by
     unfold gJ;rw[c,g];exact ah f
    rw[j,bJ (λh=>h f)];trivial
   ·have j:gJ s=none:=by
     unfold gJ;rw[c,g];exact af f
    rw[j,bj f];trivial
  ·have hn:(gJ s).isSome=false:=by
    unfold gJ;rw[c];cases h:parseUintB 16 (eZ 58 s).2.1 with
    |ok n=>grind
    |_=>rfl
   exact bad _ hn
 ·have hn:(gJ s).isSome=false:=by
   unfold gJ;cases h:parseUintB 16 (eZ 58 s).1 with
   |ok n=>grind
   |_=>rfl
  exact bad _ hn
def W.fresh(h:W c G Q J o m j s ts)(hn:m1.next=m.next+1)(l:m1.low=m.low)(f:∀b,b<m.next->m1.get b=m.get b)(d:m1.get m.next=some (.cells cs ver 0 false ty)):W c G Q J o m1 j s ((m.next,ver,cs)::ts):=by
 have g:Wk m j _ m1 j (aL c s):=⟨aa,aa,λ_ h _ _=>aa,λb d _=>f b d,λb d=>.inr (f b d),λk a=>.inr ⟨k,a,rfl⟩,.inr ⟨λ_ _=>rfl,λ_ h=>h⟩⟩
 have P2:=h.ps.step (h.ps.nr.same aa λk a=>f _ (h.ps.nr.hi k a)) g ⟨rfl,rfl,rfl⟩ h.ps.ok;have H:=h.go P2 g;exact{
  ps:=P2
  wk:=H.wk
  wb:=h.wb
  lt:=λt ht=>by
   rcases eF.mp ht with e|e
   ·subst e;exact⟨h.wk.next,aa⟩
   ·exact H.lt t e
  nx:=λt ht k a=>by
   rcases eF.mp ht with e|e
   ·subst e;exact Nat.ne_of_lt (h.ps.nr.hi k a)
   ·exact H.nx t e k a
  at':=λt ht=>by
   rcases eF.mp ht with e|e
   ·grind
   ·exact H.at' t e
  nd:=by show(m.next::ts.map _).Nodup;rw[zl];refine⟨λi=>?_,h.nd⟩;obtain⟨t,ht,e⟩:=mz.mp i;have:=(h.lt t ht).2;omega }
def PS.XdH(h:PS c o m j s)(p:x=some (v,m1))(k:W c (aD m m.next) j s A' m1 i7 s1 ts)(r:refs m.next 8 v=false):∃f,cK m x=some (v,f)/\W c m j s A' f i7 s1 ts:=by
 subst p;have n:(Nat.ble m.next m1.low&&refs m.next 8 v)=false:=aq;have e:∀g f,gc m v m1=(g,f)->cK m (some (v,m1))=some (g,f):=λg f h=>gS;have d:=k.wk;refine⟨Go.Ab.aD m1 (min _ m1.low),e _ _ (by simp[sT,qt,n]),{ k with
  ps:=k.ps.qG _
  wk:={
   next:=d.next
   low:=wN _ _
   bQ:=λi a b c=>by have:=d.bQ i b b c;show i<=min m.low m1.low;omega
   get:=d.get
   lo:=λb l=>by
    rcases d.lo b l with q|q
    ·exact .inl (aO (tG _ _) q)
    ·exact .inr q
   nw:=d.nw
   kp:=by
    rcases d.kp with⟨k,a,b⟩|q
    ·exact .inl ⟨k,a,aO (tG _ _) b⟩
    ·grind }
  lt:=k.lt
  at':=k.at' }⟩
def W.join(h:W c G Q J o m j s ts)(k:W c m j s A' m1 i7 s1 zc0):W c G Q J A' m1 i7 s1 (zc0++ts):=by
 have H:=h.go k.ps k.wk;exact{
  ps:=k.ps
  wk:=H.wk
  wb:=h.wb
  lt:=λt ht=>by
   rcases nH.mp ht with e|e
   ·exact⟨aO h.wk.next (k.lt t e).1,(k.lt t e).2⟩
   ·exact H.lt t e
  nx:=λt ht=>by
   rcases nH.mp ht with e|e
   ·exact k.nx t e
   ·exact H.nx t e
  at':=λt ht=>by
   rcases nH.mp ht with e|e
   ·exact k.at' t e
   ·exact H.at' t e
  nd:=by rw[uY,YW];refine⟨k.nd,h.nd,λa d b f e=>?_⟩;obtain⟨t,ht,rfl⟩:=mz.mp d;obtain⟨u,hu,rfl⟩:=mz.mp f;have:=(k.lt t ht).1;have:=(h.lt u hu).2;omega }
def W.XdQ{b2 e bytes}(h:W c G Q J o m j s ((b2,0,[g8])::(if n=0 then[]else[(L.b,L.ver,vs)])++ts))(x:n≠0->L.r<2)(hn:vs.length=n)(w:one g8=true)(i:fits (n+1) bytes=true) :
  ∃m1 a,dn e 1 bytes (ax L n 1) (.slice (some ⟨b2,0,some 1⟩) 1 1) m=some (ax a (n+1) 1,m1)/\a.r<2/\G.next<=a.b/\W c G Q J o m1 j s ((a.b,a.ver,vs++[g8])::ts):=by
 obtain⟨E,k⟩:=h.at' (b2,0,[g8]) br;have p:∃ty,n≠0->m.get L.b=some (.cells vs L.ver 0 false ty):=by
  by_cases A:n=0
  ·simp_all
  ·rw[af A]at h;obtain⟨ty,q⟩:=h.at' (L.b,L.ver,vs) ar
   grind
 obtain⟨ty,l⟩:=p;obtain⟨a,d,m1,B,H,C,t,D⟩:=Lr (e:=e) (bytes:=bytes) (L:=L) (n:=n) (size:=1) (c:=vs) (new:=[g8]) l x aa k rfl (by simp[w]) aY i;refine⟨m1,a,B,C,?_⟩;have T:W c G Q J o m j s ((if n=0 then[]else[(L.b,L.ver,vs)])++ts):=h.tl;rcases D with⟨e1,e2,f,g⟩|⟨e1,f,g⟩
 ·rw[af e2]at T;have T:W c G Q J o m j s ([]++(L.b,L.ver,vs)::ts):=T;have z:=(T.lt (L.b,L.ver,vs) ar)
  have u:=T.bH (r':=a.ver) (za6:=vs++[g8]) (ty:=d) f g (λv q y=>t v q aa) aq
  grind
 ·rw[e1];refine⟨h.wk.next,(T.fresh (ver:=a.ver) (cs:=vs++[g8]) (ty:=d) f g (λb i=>t b i aa) aq).sub (List.Sublist.cons_cons _ ?_)⟩;simp
def W.Mh(h:W c G Q J o m j s ts){T parts}(hf:fill (λi=>some (i*sz,sz)) (fH n zero) parts=some cs)(a:sz≠0) :
  ∃b m1,X8 T zero sz n parts m=some (.slice (some ⟨b,0,some sz⟩) n 1,m1)/\W c G Q J o m1 j s ((b,0,cs)::ts):=by
 refine⟨_,_,?_,h.push cs (some (2*T))⟩;rw[Em];unfold xO;rw[hf];exact af a
def iL(L:Lc)(a:List Nat):List Tmp:=if a.length=0 then[]else[(L.b,L.ver,a.map u32)]
def eG(c:Cx)(cu:Cu):Cu:=if(gJ (Xa c cu).1).isSome=true then(Xa c cu).2 else cA c (Xa c cu).2 130
theorem vD(c f cu):cM c (f+1) cu=if cH c (eG c cu)=true then((gJ (Xa c cu).1).getD 0::(cM c f (eG c cu)).1,(cM c f (eG c cu)).2)else([(gJ (Xa c cu).1).getD 0],eG c cu):=rfl
def Xkm(cu cW e):(cB cu cW e).er.isNone=false:=by
 unfold cB
 grind
def K4{c cu}(h:cu.er.isNone=false):cH c cu=false:=by unfold cH;grind
def Xth{c cu iB}(a:iB=(Xa c cu).2\/∃e,iB=cA c (Xa c cu).2 e)(h:cH c iB=true):cH c cu=true/\iB.pl=cu.pl+1:=by
 rcases a with rfl|⟨e,rfl⟩
 ·unfold Xa at h|-;cases b:cH c cu with
  |false =>rw[b]at h;rw[af ak,K4 (Xkm _ _ _)]at h;cases h
  |true=>simp
 ·have:(cA c (Xa c cu).2 e).er.isNone=false:=Xkm _ _ _;rw[K4 this]at h;cases h
def Xpf{c cu}(h:cH c (eG c cu)=true):cH c cu=true/\(eG c cu).pl=cu.pl+1:=by
 refine Xth ?_ h;unfold eG;split
 ·simp
 ·grind
def Xnp{c cu}(h:cH c (Xb c cu lo hi).2=true):cH c cu=true/\(Xb c cu lo hi).2.pl=cu.pl+1:=by
 refine Xth ?_ h;unfold Xb;by_cases g:pe (Xa c cu).1=true
 ·rw[ah g];by_cases g2:(num hi (Xa c cu).1).isSome=true/\lo<=(tx (num hi (Xa c cu).1):Int)
  ·exact .inl (ah g2)
  ·grind
 ·grind
def Xgz(d):∀f F cu a L (m:aj),c.ws.length-cu.pl<f->c.ws.length-cu.pl+1<F->a.length+(c.ws.length-cu.pl)<=8589934592->(a.length≠0->L.r<2)->W c G Q J o m j (s.at cu) (iL L a) ->
  ∃S g,xi (aH (d+3)) F (.bool true) (pt c.C 0 0) (ax L a.length 1) m=some (ax g (a++(cM c f cu).1).length 1,S)/\W c G Q J o S j (s.at (cM c f cu).2) [(g.b,g.ver,(a++(cM c f cu).1).map u32)]/\g.r<2/\G.next<=g.b
 |f+1,F+1,cu,a,L,m,h1,h2,h3,P,k=>by
  have U:(Xa c cu).1.length<=65536:=fL k.ps;have ⟨m1,l,z,B⟩:=mO k.ps (d+1);have t:W c G Q J o m1 j (s.at (Xa c cu).2) _:=k.go z B;have l:TA (d+3) _ _ m=some (sv (Xa c cu).1,m1):=l;have step:∀h,W c G Q J o h j (s.at (eG c cu)) (iL L a)->∃S g,IP (aH (d+3)) (xi (aH (d+3)) F) (ax L a.length 1) (.int .u32 ((gJ (Xa c cu).1).getD 0:Nat)) (pt c.C 0 0) h=some (ax g (a++(cM c (f+1) cu).1).length 1,S)/\W c G Q J o S j (s.at (cM c (f+1) cu).2) [(g.b,g.ver,(a++(cM c (f+1) cu).1).map u32)]/\g.r<2/\G.next<=g.b:=λh Y=>by
   delta IP C jm;obtain⟨b,Z,M,u⟩:=Y.Mh (T:=sE) (n:=1) (sz:=1) (zero:=[.int .u32 0]) (parts:=[(0,.int .u32 ((gJ (Xa c cu).1).getD 0:Nat))]) (cs:=[u32 ((gJ (Xa c cu).1).getD 0)]) rfl ak;have u:W c G Q J o Z j (s.at (eG c cu)) ((b,0,[u32 ((gJ (Xa c cu).1).getD 0)])::(if a.length=0 then[]else[(L.b,L.ver,a.map u32)])++[]):=by rwa[lC]
   obtain⟨i,g,N,w,R,v⟩:=u.XdQ (e:=sE) (bytes:=4) P ar rfl (uv aa ak);have p:=Fw v.ps (d+2);have p:TA (d+3) _ _ i=some (.bool (cH c (eG c cu)),i):=p;rw[vD];simp only[M,X4,N,p];have v:W c G Q J o i j (s.at (eG c cu)) [(g.b,g.ver,(a++[(gJ (Xa c cu).1).getD 0]).map u32)]:=aq;have y:(a++[(gJ (Xa c cu).1).getD 0]).length=a.length+1:=ar;cases q:cH c (eG c cu)with
   |true =>have ⟨O,g2⟩:=Xpf q;have g3:=qe (s:=s.at cu) O;have g3:cu.pl<c.ws.length:=g3;have X:=Xgz d f F (eG c cu) (a++[(gJ (Xa c cu).1).getD 0]) g i aa aa aa (λ_=>w) (by simp_all[iL,]);rw[y,lV]at X;assumption
   |false =>
    rw[af ak];obtain⟨F,rfl⟩:∃V,F=V+1:=⟨F-1,aa⟩
    refine⟨i,g,?_,v,w,R⟩;unfold xi;delta L;rw[X5];delta Rx K;rw[y]
  unfold xi;delta L;delta Qph C jg;simp only[l,X4,XpS _ (aO U ak) d m1,dy,dK,X3];delta Qpi C E A;simp only[eg,X3];unfold eG at step;cases x:(gJ (Xa c cu).1).isSome with
  |true =>rw[x]at step;exact step m1 t
  |false =>rw[x]at step;have ⟨h,D,b2,H⟩:=lJ t.ps 130 ak (d+1);rw[D,X4];exact step h (t.go b2 H)
def Ez(c f cu):(cM c (f+1) cu).1.length≠0:=by grind[vD]
def Et(c):∀f cu,(cM c f cu).1.length<=f
 |0,cu=>c6 0
 |f+1,cu=>by
  rw[vD];have:=Et c f (eG c cu)
  grind
def A5{k}(h:n≠0)(c:k<=L.b):refs k 8 (ax L n sz)=false:=by
 unfold ax;rw[af h];show Nat.blt L.b k=false;cases a:Nat.blt L.b k with
 |false=>rfl
 |true=>have:=qH.mp a;omega
def Xpu(h:PS c o m j s)(d):∃L S,TA (d+4) HR [pt c.C 0 0] m=some (ax L (cM c (c.ws.length+1) s.cu).1.length 1,S)/\W c m j s o S j (s.at (cM c (c.ws.length+1) s.cu).2) [(L.b,L.ver,(cM c (c.ws.length+1) s.cu).1.map u32)]/\L.r<2:=by
 rw[X9x];have k:W c (aD m m.next) j s o (aD m m.next) j (s.at s.cu) (iL ⟨0,0,0⟩ []):=W.start (h.qG m.next);have a:=h.wl.len;obtain⟨i,L,e1,e,f,g⟩:=Xgz d (c.ws.length+1) 18446744073709551616 s.cu [] ⟨0,0,0⟩ (aD m m.next) aa aa aq (λq=>absurd rfl q) k;have e2:HS (aH (d+3)) (pt c.C 0 0) (aD m m.next)=some (ax L (cM c (c.ws.length+1) s.cu).1.length 1,i):=by exact e1
 have ⟨l,n,p⟩:=h.XdH e2 e (A5 (Ez _ _ _) g);exact⟨L,l,n,p,f⟩
def Xs2(M)(e:M<1844674407370955162):∀l b,l.all jK=true->val b l<=M->parseUintM M b l=.ok (val b l)
 |[],b,_,_=>rfl
 |a::l,b,d,c=>by rw[km,bT,uz]at d;have g:=W5 l (b*10+(a.toNat-48));have c:val _ l<=M:=c;unfold parseUintM;rw[ah aa,af aa,af aa];exact Xs2 M e l _ d.2 c
def XaO(n)(h:n<=65535):parseUintB 16 (decDigits n)=.ok n:=by
 unfold parseUintB;rw[af (LF n)];have:=Xs2 (2^16-1) ak _ 0 (ET n) (by rw[uy];exact h);rw[uy]at this
 grind
def XkD(n):(58:UInt8)∉decDigits n:=λh=>by have:=cL.mp (ET n) 58 h;trivial
def wo(s:ai):Option Nat:=match cut 58 s with
 |none=>none
 | some (x,g8)=>match num 65535 x,num 65535 g8 with
  |some a,some b=>some (a*65536+b)
  |_,_=>none
def XfX(s):gJ s=wo s:=by
 apply Option.ext;intro v;constructor
 ·intro h;unfold gJ at h;split at h
  ·rename_i a b c d;split at h
   ·rename_i g;have e:cut 58 s=some (decDigits a,decDigits b):=by
     rw[<-g,lV];exact vP _ (XkD a)
    unfold wo;rw[e];dsimp only;rw[gj.mpr ⟨rfl,LR c⟩,gj.mpr ⟨rfl,LR d⟩];exact h
   grind
  grind
 ·intro h;unfold wo at h;split at h
  ·cases h
  ·rename_i x m f;split at h
   ·rename_i a b c d;obtain⟨i,j⟩:=gj.mp c;obtain⟨k,l⟩:=gj.mp d;subst i;subst k;have g:=(Bu f).1;unfold gJ eZ;rw[f];dsimp only;rw[XaO a j,XaO b l]
    grind
   grind
def LS(y:Option Nat):ae:=match y with|some n=>.tuple ⟨[u32 n,I 0]⟩|none=>.tuple ⟨[u32 0,I 4]⟩
def Xv6(d)(m:aj):∀l c f,(c++l).length<=65536->l.length<f->58∉c ->
  Aj (aH (d+1)) f (I c.length) (sv (c++l)) m=some (LS (wo (c++l)),m)
 |l,c,0,_,hf,_=>aa
 |[],c,f+1,e,hf,i=>by
  unfold Aj;delta E N ji;delta Ry E N K ji A;simp only[dw,Qb,X3,Xf];rw[af ar];have:wo (c++[])=none:=by unfold wo;rw[lC,ES i]
  rw[this];rfl
 |a::l,c,f+1,e,hf,i=>by
  have s:=Xv6 d m l (c++[a]) f aq aq;have g:c.length<(c++a::l).length:=ar;have ix:=iu _ .i64 _ g;rw[XO]at ix;have j:bin .add true true .int (I c.length) (.int .i64 1)=some (I (c.length+1:Nat)):=by rw[cz];have:((c.length:Nat):Int)+1=((c.length+1:Nat):Int):=aa;rw[this,wrap64 _ aa]
  unfold Aj;delta E N ji;simp only[dw,Qb,X3,Xf];rw[ah aa];delta Qpj Qpk L B C ja jk A;simp only[ix,dI,X3,Xf];by_cases h:a=58
  ·subst h;rw[ah bY];have e1:gH (sv (c++58::l)) none (some (I c.length))=some (sv c):=by
    rw[EA _ _ ar];simp
   have e2:gH (sv (c++58::l)) (some (I (c.length+1:Nat))) none=some (sv l):=by rw[yg _ _ ar];simp
   have r:TA _ _ [sv c,.int _ 65535] m=_:=Mi c (by simp at e;omega) 65535 aa d m;have r2:TA _ _ [sv l,.int _ 65535] m=_:=Mi l (by simp at e;omega) 65535 aa d m;have o:wo (c++58::l)=match num 65535 c,num 65535 l with|some a,some b=>some (a*65536+b)|_,_=>none:=by unfold wo;rw[vP l i]
   rw[o];simp only[e1,X3,r,X4];delta Qpl Qpm Rz H C L E B K ja A jh;simp only[j,X3,e2,r2,X4];cases k:num 65535 c with
   |none =>trivial
   |some x =>
    have t:=(gj.mp k).2;have:bin _ true true _ (wE (some x)) (.int _ 0)=some _:=Qb _ _ _ _ _;rw[this,X3,Xf,af aa];cases n:num 65535 l with
    |none =>trivial
    |some g8 =>
     have u:=(gj.mp n).2;have:bin _ true true _ (wE (some g8)) (.int _ 0)=some _:=Qb _ _ _ _ _;rw[this,X3,Xf,af aa];have m1:bin .mul true true .int (.int .i64 65536) (wE (some x))=some (I (65536*x:Nat)):=by show bin .mul true true .int (.int .i64 65536) (I x)=_;rw[zJ];have:(65536:Int)*(x:Int)=((65536*x:Nat):Int):=ar;rw[this,wrap64 _ aa]
     have p:bin .add false true .int (I (65536*x:Nat)) (wE (some g8))=some (I (x*65536+g8:Nat)):=by show bin .add false true .int _ (I g8)=_;rw[cz];have:((65536*x:Nat):Int)+(g8:Int)=((x*65536+g8:Nat):Int):=aa;rw[this,wrap64 _ aa]
     simp only[m1,p,X3,dS,X4];rw[IntWalk.u32_in _ aa];rfl
  ·rw[af (λq=>h (j3.mp aq)),j,X3]
   grind
def XqB(w)(a:w.length<=65536)(d m):TA (d+2) PX [sv w] m=some (LS (gJ w),m):=by rw[Xa3,XfX];refine cD ?_ (.refl _ _) (by unfold LS;split<;>rfl);delta HT RA RB A;exact Xv6 d _ w [] _ a aq ar
def jJ(r:List Nat × Cu)(a:List Nat):List Nat:=if r.2.er.isNone=true then a++r.1 else[]
def Xf7(d):∀f F cu a L (m:aj),c.ws.length-cu.pl<f->c.ws.length-cu.pl+1<F->a.length+(c.ws.length-cu.pl)<=8589934592->(a.length≠0->L.r<2)->W c G Q J o m j (s.at cu) (iL L a) ->
  ∃S g,C1 (aH (d+2)) F (pt c.C 0 0) (ax L a.length 1) m=some (ax g (jJ (cM c f cu) a).length 1,S)/\W c G Q J o S j (s.at (cM c f cu).2) (iL g (jJ (cM c f cu) a))/\((jJ (cM c f cu) a).length≠0->g.r<2/\G.next<=g.b)
 |f+1,F+1,cu,a,L,m,h1,h2,h3,h4,k=>by
  have hl:(Xa c cu).1.length<=65536:=fL k.ps;obtain⟨m1,w,V,X⟩:=nV k.ps (d+1);have v:W c G Q J o m1 j (s.at (Xa c cu).2) (iL L a):=k.go V X;have w:TA (d+2) Qf [pt c.C 0 0] m=some (sv (Xa c cu).1,m1):=w;have P:=v.ps;have ld:X9 false 1 (pt c.C (0+4) 0) m1=some (I (Xa c cu).2.e):=P.lq;have fail:∀C i,C.er.isNone=false->eG c cu=C->W c G Q J o i j (s.at C) (iL L a)->∃S g,(some (.slice none 0 0,i):Option Rs)=some (ax g (jJ (cM c (f+1) cu) a).length 1,S)/\W c G Q J o S j (s.at (cM c (f+1) cu).2) (iL g (jJ (cM c (f+1) cu) a))/\((jJ (cM c (f+1) cu) a).length≠0->g.r<2/\G.next<=g.b):=λC i M t D=>by
   rw[vD,t,af (by rw[K4 M];decide)];have:jJ ([(gJ (Xa c cu).1).getD 0],C) a=[]:=by unfold jJ;rw[M];rfl
   rw[this];exact⟨i,L,rfl,D.sub (Y0 _),λq=>absurd rfl q⟩
  unfold C1;delta C E jc K jg jm A;simp only[w,X4,Xg,X7,X3,ld,eg,Xf];rcases P.er with⟨l,p⟩|⟨l,p⟩
  ·have l:(Xa c cu).2.e=0:=l;rw[af aa];simp only[XqB (Xa c cu).1 hl d m1,X4];unfold LS;cases B:gJ (Xa c cu).1 with
   |none =>simp only[dy,dK,X3,eg,Xf];rw[ah ak];obtain⟨i,x,b2,Y⟩:=kS P nZ 130 ak (d+1);have x:TA (d+2) _ _ m1=some _:=x;rw[x,X4];exact fail (cA c (Xa c cu).2 130) i (fY _ _ _) (by unfold eG;rw[B];rfl) (v.go b2 Y)
   |some n =>
    simp only[dy,dK,X3,eg,Xf];rw[af ak];have t:eG c cu=(Xa c cu).2:=by unfold eG;rw[B];rfl
    have D:W c G Q J o m1 j (s.at (eG c cu)) (iL L a):=by rw[t];exact v
    obtain⟨b,m3,e3,H⟩:=D.Mh (T:=sE) (n:=1) (sz:=1) (zero:=[.int .u32 0]) (parts:=[(0,.int .u32 (n:Int))]) (cs:=[u32 n]) rfl ak;have H:W c G Q J o m3 j (s.at (eG c cu)) ((b,0,[u32 n])::(if a.length=0 then[]else[(L.b,L.ver,a.map u32)])++[]):=by rw[lC];exact H
    obtain⟨h,g,e4,N,hb,U⟩:=H.XdQ (e:=sE) (bytes:=4) h4 ar rfl (uv aa ak);have y:=Mj U.ps (d+1);have y:TA (d+2) _ _ h=some (.bool (cH c (eG c cu)),h):=y;rw[vD,B];have U:W c G Q J o h j (s.at (eG c cu)) [(g.b,g.ver,(a++[n]).map u32)]:=aq;have O:(a++[n]).length=a.length+1:=ar;simp only[e3,X4,e4,y,re,X3];cases z:cH c (eG c cu)with
    |true =>
     obtain⟨g1,g2⟩:=Xpf z;have g3:=qe (s:=s.at cu) g1;have g3:cu.pl<c.ws.length:=g3;have R:=Xf7 d f F (eG c cu) (a++[n]) g h aa aa aa (λ_=>N) (by simp_all[iL,]);have u:jJ (n::(cM c f (eG c cu)).1,(cM c f (eG c cu)).2) a=jJ (cM c f (eG c cu)) (a++[n]):=by unfold jJ;rw[lV];rfl
     rw[ah rfl];show ∃S g,ke (.bool false) _ _=some (ax g (jJ (n::(cM c f _).1,(cM c f _).2) _).length 1,S)/\W c G Q J o S j (s.at (cM c f _).2) (iL g (jJ (n::(cM c f _).1,(cM c f _).2) _))/\((jJ (n::(cM c f _).1,(cM c f _).2) _).length≠0->_);rw[u,X5];rwa[O]at R
    |false =>
     rw[af ak];have u:jJ ([n],eG c cu) a=a++[n]:=by unfold jJ;rw[t];exact ah p
     refine⟨h,g,?_,?_,λ_=>⟨N,hb⟩⟩
     ·show ke (.bool true) _ _=some (ax g (jJ ([n],eG c cu) _).length 1,h);rw[u,O];rfl
     ·show W c G Q J o h j (s.at (eG c cu)) (iL g (jJ ([n],eG c cu) _));rw[u];unfold iL
      grind
  ·have l:(Xa c cu).2.e≠0:=l;have p:(Xa c cu).2.er.isNone=false:=p;rw[ah l];refine fail _ m1 p ?_ v;unfold eG;rw[jW p];exact pN _
def oh(c:Cx)(cu:Cu):List Nat:=jJ (cM c (c.ws.length+1) cu) []
def Xl0(h:PS c o m j s)(d):∃L S,TA (d+3) GQ [pt c.C 0 0] m=some (ax L (oh c s.cu).length 1,S)/\W c m j s o S j (s.at (cM c (c.ws.length+1) s.cu).2) (iL L (oh c s.cu))/\((oh c s.cu).length≠0->L.r<2):=by
 rw[UN];have p:=h.wl.len;have lp:=λG(k:W c G j s o G j (s.at s.cu) (iL ⟨0,0,0⟩ []))=>Xf7 d (c.ws.length+1) 18446744073709551616 s.cu [] ⟨0,0,0⟩ G aa aa aq (λq=>absurd rfl q) k;unfold oh;generalize cM c _ _=C at *;generalize jJ C []=R at *;have go:∀G,PS c o G j s->∃L a,CN (aH (d+2)) (pt c.C 0 0) G=some (ax L R.length 1,a)/\W c G j s o a j (s.at C.2) (iL L R)/\(R.length≠0->L.r<2/\G.next<=L.b):=λG P=>by obtain⟨a,L,e1,e,f⟩:=lp G (W.start P);refine⟨L,a,?_,e,f⟩;delta CN OV OW;exact e1
 by_cases q:R.length=0
 ·have l:=uZ.mp q;subst l;obtain⟨i,g,n,u⟩:=h.iB (UN _ _ m) (λG P=>by
   obtain⟨L,a,e1,e,f⟩:=go G P;exact⟨a,e1,e.ps,e.wk⟩)
  rw[UN]at g;exact⟨⟨0,0,0⟩,i,g,(W.start h).go n u,λt=>absurd q t⟩
 ·obtain⟨L,a,e2,e,f⟩:=go _ (h.qG m.next);obtain⟨i,g,n⟩:=h.XdH e2 e (A5 q (f q).2);exact⟨L,i,g,n,λq=>(f q).1⟩
class cG (c:Cx):Prop where
 rf:c.rf=true
abbrev ey(l:List Cl)(i:Nat):Cl:=(l[i]?).getD (.v .nilFunc)
def gN[r:cG c](s l):gy c s l=[.v (sv s.rs.bt),.v (I s.rs.num),ey l 17,.s s.rs.bM.length 1,ey l 15,ey l 16]:=by unfold gy;rw[ah r.rf]
def EW[r:cG c]{l}(a:l.length=18)(i)(hi:i<6):(dt c s l)[12+i]?=(gy c s l)[i]?:=by rw[vM a,gN];rw[ah ⟨aa,by show 12+i<12+6;omega⟩,pQ]
def PS.rr[r:cG c](h:PS c o m j s){l}(d:s.X [0]=some (.c l)){i}(hi:i<6){g8}(e:(gy c s l)[i]?=some (.v g8)):X9 false 1 (pt c.P (12+i) 0) m=some g8:=by obtain⟨l2,a,b⟩:=h.wt.root;rw[d]at a;cases a;have:=h.nr.load (lF d) (by rw[EW b i hi,e]);rwa[h.pP]at this
def PS.XeB[cG c](h:PS c o m j s):X9 false 1 (pt c.P (12+0) 0) m=some (sv s.rs.bt):=by obtain⟨l,a,b⟩:=h.wt.root;exact h.rr a aa zu
def PS.XeE[cG c](h:PS c o m j s):X9 false 1 (pt c.P (12+1) 0) m=some (I s.rs.num):=by obtain⟨l,a,b⟩:=h.wt.root;exact h.rr a aa zu
def PS.YK[r:cG c](h:PS c o m j s):X9 false 1 (pt c.P (12+3) 0) m=some (ax (j [15,0]) s.rs.bM.length 1):=by obtain⟨l,a,b⟩:=h.wt.root;have:=h.nr.load (lF a) (by rw[EW b 3 aa,gN];rfl);rwa[h.pP]at this
def Ws[r:cG c](s):aL c s [15,0]=FQ s.rs.bM:=by unfold aL;rw[af ak,af ak,ah ⟨r.rf,rfl⟩]
def PS.XrX[r:cG c](h:PS c o m j s){i}(hi:i<s.rs.bM.length):∃p,Xd 1 (ax (j [15,0]) s.rs.bM.length 1) (I i)=some p/\X9 false 1 p m=some (sv (s.rs.bM[i])):=by
 have a:s.rs.bM≠[]:=λe=>aq;have b:aL c s [15,0]=some (.c (s.rs.bM.map λw=>.v (sv w))):=by rw[Ws];exact af a
 exact⟨_,eU (j [15,0]) (h.nr.r2 [15,0] (by rw[b];simp)) s.rs.bM.length 1 i .i64 hi,h.nr.load (y:=i*1) (c:=.v _) b (by rw[Cd,gX,dX hi];rfl)⟩
def W.B7[r:cG c](h:W c G Q J o m j s ts){l l'}(w:s.X [0]=some (.c l)){i}(hi:i<6){z g8:ae}(M:(gy c s l)[i]?=some (.v z))(A:g8.cells.toList=[g8])(E:one g8=true)(q:u.X=s.X.set [0] (some (.c l')))(H:l'.length=18)
  (t:u.cu=s.cu) (x:u.rs.bM=s.rs.bM) (L:l'.take 12=l.take 12) (I:gy c u l'=(gy c s l).set i (.v g8)) (ok:mL c u) :
  ∃m1,Xe 1 (pt c.P (12+i) 0) g8 m=some m1/\W c G Q J o m1 j u ts:=by
 obtain⟨l2,a,b⟩:=h.ps.wt.root;rw[w]at a;cases a;have K:g8.cells.size=1:=by rw[<-pL,A];rfl
 have d:∀s l,(gy c s l).length=6:=λs l=>zu;have g:∀s l,l.length=18->dt c s l=l.take 12++gy c s l:=λs l w=>by unfold dt;rw[d,rS aa,lC]
 have F:(dt c s l).take (12+i)++g8.cells.toList.map Cl.v++(dt c s l).drop (12+i+1)=dt c u l':=by
  rw[A,g _ _ b,g _ _ H,L,I];apply fk;intro f;have C:(l.take 12++gy c s l).length=18:=by rw[fy,d,kl];omega
  refine aU (aX (l:=l.take 12++gy c s l) (z:=[Cl.v g8]) (y:=12+i) aq f) ?_;have B:(l.take 12).length=12:=vd;show(if 12+i<=f/\f<12+i+1 then _ else _)=_;rw[tL,tL,B,du,d];by_cases p:12+i<=f/\f<12+i+1
  ·have:f=12+i:=by omega
   subst this;rw[ah p,af aa,pQ,ah rfl,ah hi,pK];rfl
  ·rw[af p]
   grind
 obtain⟨m1,u1,u2,u3⟩:=h.ps.nr.wF (k:=[0]) (12+i) 1 g8 _ (lF (c:=c) w) K (by rw[A];simp[E]) (by rw[vJ b];omega) (λf N=>by have:f=0:=aa;subst this;exact⟨z,by rw[gp,EW b i hi,M]⟩) F
 rw[h.ps.pP]at u1;have e:(aL c s).set [0] (some (.c (dt c u l')))=aL c u:=by
  funext k;by_cases n:k=[0]
  ·subst n;rw[NX.aR,lF (by rw[q];exact NX.aR _ _ _)]
  ·rw[NX.aE _ _ n];unfold aL;rw[af n,af n,q,t,x,NX.aE _ _ n]
 rw[e]at u2 u3;exact⟨m1,u1,h.go (h.ps.step u2 u3 ⟨rfl,rfl,rfl⟩ ok) u3⟩
def tD(s:ao):ao:={ s with X:=bF s.X [0] 15 [.bool true] }
def XkG(h:mL c s):mL c (tD s):=by
 obtain⟨l,a,b⟩:=h.wt.root;have d:∀i e,([.bool true])[i]?=some e->dz (bo 0 (15+i)) (.v e):=λi e f=>by
  match i,f with
  |0,f=>cases f;exact fV true
 exact⟨h.le,h.ee,h.wt.st a rfl aq d,h.il,h.ge.to λg j _=>oT (yo h.wt a rfl aq d g j).symm⟩
def XlX(w:WT s.X):tD (tD s)=tD s:=by
 obtain⟨l,a,b⟩:=w.root;unfold tD;dsimp only;rw[fp a,fp (NX.aR _ _ _),NX.set_set];congr 4;apply fk;intro c;have e:(l.take 15++([.bool true]).map Cl.v++l.drop (15+1)).length=l.length:=EU (by show 15+1<=l.length;omega);refine (aX (z:=([.bool true]).map Cl.v) (by rw[e];show 15+1<=l.length;omega) c).trans ?_;refine aU ?_ (aX (z:=([.bool true]).map Cl.v) (by show 15+1<=l.length;omega) c).symm;show(if 15<=c/\c<15+1 then _ else _)=if 15<=c/\c<15+1 then _ else _
 grind
def W.rtw[cG c](h:W c G Q J o m j s ts):∃m1,Xe 1 (pt c.P (0+16) 0) (.bool true) m=some m1/\W c G Q J o m1 j (tD s) ts:=by
 obtain⟨l,a,b⟩:=h.ps.wt.root;obtain⟨i,q,r⟩:=h.ps.wt.get a rfl (y:=15) aa;obtain⟨z,rfl⟩:∃z,i=.v z:=by
  cases i with
  |v z=>simp
  |s n t=>trivial
 have k:(gy c s l)[4]?=some (.v z):=by rw[gN];show some (ey l 15)=_;unfold ey;rw[q];rfl
 have g:=λp=>aX (z:=([.bool true]).map Cl.v) (by show 15+1<=l.length;omega) p;refine h.B7 a aa k rfl rfl (fp a 15 _) (by rw[show(15+([.bool true]:List ae).length)=15+(([.bool true]:List ae).map Cl.v).length from rfl,EU (by show 15+1<=l.length;omega)];exact b) rfl rfl ?_ ?_ (XkG h.ps.ok)
 ·grind
 ·rw[gN,gN];have d:ey (l.take 15++([.bool true]).map Cl.v++l.drop (15+([.bool true]:List ae).length)) 15=.v (.bool true):=by unfold ey;rw[show(l.take 15++([.bool true]:List ae).map Cl.v++l.drop (15+([.bool true]:List ae).length))[15]?=_ from g 15];rfl
  have e:ey (l.take 15++([.bool true]).map Cl.v++l.drop (15+([.bool true]:List ae).length)) 16=ey l 16:=by unfold ey;rw[show(l.take 15++([.bool true]:List ae).map Cl.v++l.drop (15+([.bool true]:List ae).length))[16]?=_ from g 16];rfl
  have f:ey (l.take 15++([.bool true]).map Cl.v++l.drop (15+([.bool true]:List ae).length)) 17=ey l 17:=by unfold ey;rw[show(l.take 15++([.bool true]:List ae).map Cl.v++l.drop (15+([.bool true]:List ae).length))[17]?=_ from g 17];rfl
  rw[d,e,f];rfl
def PS.YM[r:cG c](h:PS c o m j s):s.rs.bM.length<=o:=by obtain⟨l,a,b⟩:=h.wt.root;exact(h.nr.ow [0] _ 15 _ 1 (lF a) (by rw[show 15=12+3 from rfl,EW b 3 aa,gN];rfl)).1
def VB[cG c](M' a)(b:o<=8589934592):∀n i f(s:ao) (m:aj),i+n=s.rs.bM.length->n<f->W c G Q J o m j s ts ->
  ∃m1,zS M' f (I i) (pt c.P 0 0) (sv a) m=C2 M' (pt c.P 0 0) (sv a) m1/\W c G Q J o m1 j (if a∈s.rs.bM.drop i then tD s else s) ts
 |n,i,0,s,m,_,hf,_=>aa
 |0,i,f+1,s,m,hn,hf,k=>by refine⟨m,?_,aq⟩;have hd:X9 _ 1 (pt c.P (0+15) 0) m=_:=k.ps.YK;unfold zS;delta E jc N ji;simp only[Xg,X7,X3,hd,dx,Qb,Xf];rw[af aa]
 |n+1,i,f+1,s,m,hn,hf,k=>by
  have d:i<s.rs.bM.length:=aa;have r:=k.ps.YM;have hd:X9 _ 1 (pt c.P (0+15) 0) m=_:=k.ps.YK;obtain⟨p,u,v⟩:=k.ps.XrX d;have g:bin .add true true .int (I i) (.int .i64 1)=some (I (i+1:Nat)):=by rw[cz];have:((i:Nat):Int)+1=((i+1:Nat):Int):=aa;rw[this,wrap64 _ aa]
  have h:bin _ _ _ _ (sv s.rs.bM[i]) (sv a)=some _:=Qh false true _ _;have l:=mB d;unfold zS;delta E jc N ji;simp only[Xg,X7,X3,hd,dx,Qb,Xf];rw[ah aa];delta Qk1 OX E jc B Z jt ja A jh;simp only[Xg,X7,X3,hd,u,v,h,Xf,g];by_cases q:s.rs.bM[i]=a
  ·rw[ah q];obtain⟨m1,u1,t⟩:=k.rtw;rw[u1,Xj];obtain⟨e,v1,v2⟩:=VB M' a b n _ f _ m1 (by show i+1+n=s.rs.bM.length;omega) aa t;refine⟨e,v1,?_⟩;rw[ah aq];rwa[XlX k.ps.wt,pN]at v2
  ·rw[af q];obtain⟨e,v1,v2⟩:=VB M' a b n (i+1) f s m aa aa k
   grind
end Go.Ab.Sh
namespace Go.Ab.Sh
open Go Go.Lib Go.Ab
variable {c:Cx}{G m:Mem}{Q j:ay}{J s u:ao}{o h:Nat}{ts:List Tmp}{x:Option Rs}{i8:Value->Nat->ay->ao->Prop}{v:Value}{cu:Cu}
def iA(s:ao)(w:ai):ao:={ s with rs:={ s.rs with bM:=s.rs.bM++[w] } }
def kW(s:ao)(w:ai):ao:=iA (if w∈s.rs.bM then tD s else s) w
def KX(h:mL c s)(w):mL c (iA s w):=⟨h.le,h.ee,h.wt,h.il,h.ge⟩
def Xza[cG c]{l}(b:l.length=18):dt c s l=l.take 12++gy c s l:=by
 have a:(gy c s l).length=6:=zu;unfold dt
 grind
def Ct(c:Cx)(o h:Nat)(m:aj)(j:ay)(s:ao)(x:Option Rs)(v:ae)(u:ao):Prop:=aK c m j s x λa A' i7 s1=>gG o h v u a A' i7 s1/\∀k,k≠[15,0]->i7 k=j k
def PS.paf(a:PS c o m j s){b:aj->Option Rs}(d:x=cK m (b (aD m m.next)))(go:∀G,W c G j s o G j s []->aK c G j s (b G) λe A' i7 s1=>gG o h v u e A' i7 s1/\∀k,k≠[15,0]->i7 k=j k):Ct c o h m j s x v u:=by subst d;exact a.call _ λG k=>go G (W.start k)
def Ct.pd(a:Ct c o h m j s x v u):eM c o h m j s x v u:=by obtain⟨n,k,b,i,l,d,e,f,g,_⟩:=a;exact⟨n,k,b,i,l,d,e,f,g⟩
def W.XrU[r:cG c]{b2 w}(h:W c G Q J o m j s ((b2,0,[sv w])::ts)){e bytes}(F:fits (s.rs.bM.length+1) bytes=true){K:aj->Option Rs}
  (g:∀A' m1 i7,A'<=o+1->(∀k,k≠[15,0]->i7 k=j k)->W c G Q J A' m1 i7 (iA s w) ts->aK c G Q J (K m1) i8) :
  aK c G Q J (bp (dn e 1 bytes (ax (j [15,0]) s.rs.bM.length 1) (.slice (some ⟨b2,0,some 1⟩) 1 1) m) λx m=>bp (bP (Xe 1 (pt c.P (0+15) 0) x m)) λ_ m=>K m) i8:=by
 obtain⟨l,a,b⟩:=h.ps.wt.root;obtain⟨I,p⟩:=h.at' _ br;have D:(dt c s l)[15]?=some (.s s.rs.bM.length 1):=by rw[show 15=12+3 from rfl,EW b 3 aa,gN];rfl
 obtain⟨L,m1,z,B,u,f,A,y,i,_,_,M⟩:=h.ps.nr.app (e:=e) (cs:=[.v (sv w)]) (lF a) D p rfl bY F;have E:((aL c s).set (15::[0]) (some (.c (bz (aL c s) (15::[0])++[.v (sv w)])))).set [0] (some (.c ((dt c s l).set 15 (.s (s.rs.bM.length+1) 1))))=aL c (iA s w):=by
  funext k;by_cases n:k=[0]
  ·subst n;rw[NX.aR,lF (s:=iA s w) a];congr 2;rw[Xza b,Xza b,Y1 _ _ aq,gN,gN];have C:15-(l.take 12).length=3:=by rw[kl];omega
   rw[C];show l.take 12++[_,_,_,_,_,_]=l.take 12++[_,_,_,Cl.s (s.rs.bM++[w]).length 1,_,_];rw[fy];rfl
  ·rw[NX.aE _ _ n];by_cases d:k=[15,0]
   ·subst d;rw[Ws];show(aL c s).set _ _ _=FQ (s.rs.bM++[w]);rw[NX.aR];unfold FQ bz;rw[af ar,Ws];unfold FQ;by_cases t:s.rs.bM=[]
    ·rw[ah t,t];rfl
    ·rw[af t,uY];rfl
   ·rw[NX.aE _ _ d];unfold aL;simp only[af n,af (λq:c.rf=true/\k=[15,0]=>d q.2)];rfl
 rw[E]at A y;have u:dn e 1 _ (ax _ _ 1) (.slice (some ⟨b2,0,some 1⟩) 1 1) m=some _:=u;rw[h.ps.pP]at f;have f:Xe 1 (pt c.P (0+15) 0) L m1=some z:=f;rw[u,X4,f,Xj];have A':max o (s.rs.bM.length+1)<=o+1:=by have:=h.ps.YM;omega
 exact g _ z B A' (λk H=>i k H) ((h.go (h.ps.step A y ⟨i _ ak,i _ ak,i _ ak⟩ (KX h.ps.ok w)) y).tl)
def Xom[r:cG c](h:PS c o m j s)(e:o<=8589934592)(w d):Ct c o 1 m j s (TA (d+1) tT [pt c.P 0 0,sv w] m) (.tuple ⟨[]⟩) (kW s w):=by
 refine h.paf (X5x _ _ _ _) λl k=>?_;have t:=h.YM;obtain⟨p,e1,g⟩:=VB (aH d) w e s.rs.bM.length 0 18446744073709551616 s l aa aa k;have e0:CO (aH d) (pt c.P 0 0) (sv w) l=C2 (aH d) (pt c.P 0 0) (sv w) p:=by delta CO OY A;exact e1
 rw[e0];rw[mA]at g;unfold kW;have i:(if w∈s.rs.bM then tD s else s).rs.bM.length=s.rs.bM.length:=Nq;generalize (if w∈s.rs.bM then tD s else s)=y at *;delta C2 jc Z jm jq;have hd:X9 _ 1 (pt c.P (0+15) 0) p=_:=g.ps.YK;simp only[Xg,X7,X3,hd];obtain⟨b,B,a,u⟩:=g.Mh (T:=Qc) (n:=1) (sz:=1) (zero:=[D []]) (parts:=[(0,sv w)]) (cs:=[sv w]) rfl ak;rw[a,X4];exact u.XrU (uv aa ak) λx C z q f v=>v.ret ⟨⟨rfl,q,rfl⟩,f⟩
def Wb[r:cG c](h:PS c o m j s)(a:o<=8589934592)(w d):eM c o 1 m j s (TA (d+1) tT [pt c.P 0 0,sv w] m) (.tuple ⟨[]⟩) (kW s w):=(Xom h a w d).pd
variable {X:NX}{k:Key}{key:ai}{l:List Cl}{y:Nat}{ws:List ai}{g8:Option Rs}
def kd(n:Nat):ai:=wT++decDigits n++[58,32]
def K1(s:ao)(w:ai):ao:=kW s (kd s.rs.num++w)
def Xh4[r:cG c](h:PS c o m j s)(b:o<=8589934592)(hn:s.rs.num<1000000000000)(w)(u:w.length<=1000000000)(d):Ct c o 1 m j s (TA (d+3) Qj [pt c.P 0 0,sv w] m) (.tuple ⟨[]⟩) (K1 s w):=by refine h.paf (X4z _ _ _ _) λe k=>?_;have t:=j8 s.rs.num aa;have hd:X9 _ 1 (pt c.P (0+13) 0) e=_:=k.ps.XeE;delta GD C jc B D jp;simp only[Xg,X7,X3,hd,BQ s.rs.num aa d e,X4,fC,Qu true true wT (decDigits s.rs.num) cF,Qu true true (wT++decDigits s.rs.num) [58,32] cF,Qu false true (wT++decDigits s.rs.num++[58,32]) w cF];obtain⟨y,v,q,p,x,a,f,g,⟨rfl,i,rfl⟩,l⟩:=Xom k.ps b (kd s.rs.num++w) (d+1);have a:TA (d+2) _ [pt c.P 0 0,sv (wT++decDigits _++[58,32]++w)] e=some _:=a;rw[a,X4];exact(k.go f g).ret ⟨⟨rfl,i,rfl⟩,l⟩
def Xgy[r:cG c](h:PS c o m j s)(a:o<=8589934592)(hn:s.rs.num<1000000000000)(w)(b:w.length<=1000000000)(d):eM c o 1 m j s (TA (d+3) Qj [pt c.P 0 0,sv w] m) (.tuple ⟨[]⟩) (K1 s w):=(Xh4 h a hn w b d).pd
def MV{y}(h:X k=some y):X=X.set k (some y):=by
 funext q;unfold NX.set;by_cases e:q=k
 ·rw[ah e,e,h]
 ·rw[af e]
def LH(s:ao)(b w:ai):ao:={ kW s w with rs:={ (kW s w).rs with bt:=b,num:=s.rs.num+1 } }
def Xtx(s w):(kW s w).rs.num=s.rs.num:=Zh
def Xko[r:cG c](h:PS c o m j s)(n:o<=8589934592)(hn:s.rs.num<1000000000000)(b w d):eM c o 1 m j s (TA (d+2) Qs [pt c.P 0 0,sv b,sv w] m) (.tuple ⟨[]⟩) (LH s b w):=by
 refine h.pad (X5g _ _ _ _ _) λK k=>?_;delta CI C jc B Z ja A jq;refine k.pd (Wb k.ps n w d) λH F J y f=>?_;have g:=Xtx s w;unfold LH;rw[<-g];rw[<-g]at hn;generalize kW s w=e at *;obtain⟨l,a,bl⟩:=f.ps.wt.root;obtain⟨p,u1,t⟩:=f.B7 (u:={ e with rs:={ e.rs with bt:=b } }) (l':=l) a (i:=0) (z:=sv e.rs.bt) (g8:=sv b) aa zu rfl rfl (MV a) bl rfl rfl rfl (by rw[gN,gN];rfl) ⟨f.ps.ok.le,f.ps.ok.ee,f.ps.ok.wt,f.ps.ok.il,f.ps.ok.ge⟩;have u1:Xe 1 (pt c.P (0+12) 0) (sv b) F=some p:=u1;have hd:X9 false 1 (pt c.P (0+13) 0) p=some (I e.rs.num):=t.ps.XeE;have v:bin .add true true .int (I e.rs.num) (.int .i64 1)=some (I (e.rs.num+1:Nat)):=by rw[cz];have:((e.rs.num:Nat):Int)+1=((e.rs.num+1:Nat):Int):=aa;rw[this,wrap64 _ aa]
 obtain⟨G,q,D⟩:=t.B7 (u:={ e with rs:={ e.rs with bt:=b,num:=e.rs.num+1 } }) (l':=l) a (i:=1) (z:=I e.rs.num) (g8:=I (e.rs.num+1:Nat)) aa zu rfl rfl (MV a) bl rfl rfl rfl (by rw[gN,gN];rfl) ⟨f.ps.ok.le,f.ps.ok.ee,f.ps.ok.wt,f.ps.ok.il,f.ps.ok.ge⟩;have q:Xe 1 (pt c.P (0+13) 0) _ p=some G:=q;simp only[Xg,X7,X3,u1,Xj,hd,v,q];exact D.iM y
def XhN{c cu}(h:cu.er.isNone=false):(bB c cu).2=cu:=by unfold bB;rw[sI h,jW h];simp
def XaL{c cu}(h:cu.er.isNone=false):(dG c cu).2=cu:=by unfold dG;rw[rA h];rfl
def EN{c cu}(h:cu.er.isNone=false):(Xy c cu).2=cu:=by
 unfold Xy;split
 ·exact sI h
 ·show cA c _ 130=cu;rw[sI h,jW h]
def XkI{c cu}(h:cu.er.isNone=false):(ll c cu).2=cu:=by unfold ll;rw[EN h,jW h];simp
def XhT{c cu}(h:cu.er.isNone=false)(w):(c8 c cu w).2=cu:=by
 unfold c8;split
 ·exact EN h
 ·show cA c _ 10=cu;rw[EN h,jW h]
def XgR{c cu}(h:cu.er.isNone=false)(a b):iX c cu a b=cu:=by unfold iX;rw[jW h];simp
def XgH{c cu}(h:cu.er.isNone=false)(w):(gU c cu w).2=cu:=by unfold gU;have e:=EN (c:=c) h;have a:=XhT (c:=c) (cu:=(Xy c cu).2) aq w;rw[XgR aq,a,e]
def Xsp{c cu}(h:cu.er.isNone=false):(pg c cu).2=cu:=by unfold pg;rw[rA h];dsimp only;rw[rA h];exact XgH h _
def KN{c cu}(h:cu.er.isNone=false)(p):(kV c cu p).2=cu:=by unfold kV;rw[rA h];dsimp only;rw[rA h];simp
def XF{c cu}(h:cu.er.isNone=false)(l):(aP c cu l).2=cu:=by
 by_cases a:(Xa c cu).1∈l
 ·rw[sO a,sI h]
 ·rw[mN a,sI h,jW h]
def Xrp{c cu}(h:cu.er.isNone=false)(H' fr t):(ib c cu H' fr t).2=cu:=by unfold ib;dsimp only;rw[XF h,XaY h,XbS h,XbP h]
def ux(c cu a b):(aP c cu [a,b,b]).2=(aP c cu [a,b]).2:=by
 by_cases h:(Xa c cu).1=a\/(Xa c cu).1=b
 ·rw[sO aq,sO aq]
 ·rw[mN aq,mN aq]
def one_one(c cu a):(aP c cu [a,a,a]).2=(aP c cu [a]).2:=by
 by_cases h:(Xa c cu).1=a
 ·rw[sO (by simp[h]),sO (by simp[h])]
 ·rw[mN (by simp[h]),mN (by simp[h])]
def Bg{c cu a b}(f:a≠b)(h:(aP c cu [a,b]).2.er.isNone=true):decide ((Xa c cu).1=a)=decide ((aP c cu [a,b]).1=0):=by
 by_cases d:(Xa c cu).1=a
 ·have:(aP c cu [a,b]).1=0:=by unfold aP de;rw[ah d]
  grind
 ·by_cases e:(Xa c cu).1=b
  ·have:(aP c cu [a,b]).1=1:=by unfold aP de de;rw[af d,ah e]
   grind
  ·rw[mN aq,fY]at h;cases h
def QR(o h:Nat)(v:ae)(i5:ao):ae->Nat->ay->ao->Prop:=λa A' _ s1=>a=v/\A'<=o+h/\s1.cu=i5.cu/\(i5.cu.er.isNone=true->s1=i5)
def mH(c:Cx)(o h:Nat)(m:aj)(j:ay)(s:ao)(x:Option Rs)(v:ae)(i5:ao):Prop:=aK c m j s x (QR o h v i5)
def PS.tB(a:PS c o m j s){b:aj->Option Rs}(d:x=cK m (b (aD m m.next)))(go:∀G,W c G j s o G j s []->aK c G j s (b G) (QR o h v u)):mH c o h m j s x v u:=by subst d;exact a.call _ λG k=>go G (W.start k)
def eM.paR(a:eM c o h m j s x v u):mH c o h m j s x v u:=by obtain⟨n,k,b,i,l,d,e,f,rfl,g,rfl⟩:=a;exact⟨_,k,b,i,_,d,e,f,rfl,g,rfl,λ_=>rfl⟩
def W.kj{A' i7 i5}(a:W c G j s A' m i7 u ts)(e:A'<=o+h)(b:u.cu=i5.cu)(d:i5.cu.er.isNone=true->u=i5):aK c G j s (some (v,m)) (QR o h v i5):=a.ret ⟨rfl,e,b,d⟩
def W.tf{i5}(b:W c G Q J o m j s ts){w v d d0}(a:mH c o h m j s g8 w i5)(p:o+h<=d+d0):aK c G Q J (bp g8 λ_ m=>some (v,m)) (QR d d0 v i5):=by obtain⟨u,r,l,q,t,e,f,g,rfl,n,i,k⟩:=a;rw[e,X4];exact(b.go f g).ret ⟨rfl,aa,i,k⟩
def Vt[r:cG c](d:u.cu=s.cu)(a:u.rs=s.rs)(g:∀k,k≠[2]->u.X k=s.X k):aL c u=aL c s:=by
 have i:∀l,dt c u l=dt c s l:=λl=>by unfold dt;rw[gN,gN,a]
 funext k;by_cases f:k=[2]
 ·subst f;unfold aL;have h:¬(([2])=[1]):=by decide
  have n0:¬(([2])=[0]):=ak;have b:¬(c.rf=true/\([2])=[15,0]):=λq=>absurd q.2 ak;have e:c.rf=true/\([2])=[2]:=⟨r.rf,rfl⟩
  rw[af h,af n0,af b,ah e,af h,af n0,af b,ah e]
 ·unfold aL;rw[d,a,g k f,g [0] ak];simp only[i]
def Xxy{g8:ae}(h:X k=some (.c l))(d:l[y]?=some (.v g8)):bF X k y [g8]=X:=by
 rw[fp h];have e:l.take y++([g8]).map Cl.v++l.drop (y+([g8]).length)=l:=by
  apply fk;intro a;refine(aX (z:=[Cl.v g8]) (show y+[Cl.v g8].length<=l.length from ((dO.mp d).1)) a).trans ?_;by_cases q:y<=a/\a<y+[Cl.v g8].length
  ·have:a=y:=by have:=q.2;simp at this;omega
   subst this;rw[ah q,d,pK];rfl
  ·rw[af q]
 rw[e];exact(MV h).symm
def KG(h:mL c s)(ws):mL c (Xz s ws):=by
 obtain⟨l,a,b⟩:=h.wt.root;have e:∀d(i) z,([.bool d])[i]?=some z->dz (bo 0 (15+i)) (.v z):=λd i z f=>by
  match i,f with
  |0,f=>cases f;exact fV d
 have m:=λd=>h.wt.st a rfl aq (e d);exact⟨h.le,h.ee,(m _).XeI _,h.il,h.ge.to λj k g=>oT ((sK _ _ aq).trans (yo h.wt a rfl aq (e _) j k)).symm⟩
def Kq(w:WT s.X)(c:key∈s.rs.bM↔Xr [32] ws∈aS s.X)(k:Key)(i:k≠[2]):(Xz s ws).X k=(kW s key).X k:=by
 obtain⟨l,a,b⟩:=w.root;obtain⟨f,g,j⟩:=w.get a rfl (y:=15) aa;obtain⟨e,rfl⟩:∃e,f=.v (.bool e):=by
  cases f with
  |v z=>obtain⟨e,rfl⟩:=j;simp
  |s n m=>trivial
 unfold Xz kW iA;dsimp only;rw[NX.aE _ _ i,LL a g];by_cases d:key∈s.rs.bM
 ·rw[ah d,bj (c.mp d),Bool.or_true];rfl
 ·rw[af d,bJ (λq=>d (c.mpr q)),Bool.or_false,Xxy a g]
def Xxn[r:cG c](h:PS c o m j s)(f:o<=8589934592)(key ws)(b:key∈s.rs.bM↔Xr [32] ws∈aS s.X)(d):eM c o 1 m j s (TA (d+1) tT [pt c.P 0 0,sv key] m) (.tuple ⟨[]⟩) (iA (Xz s ws) key):=by
 obtain⟨v,q,g,p,u,i,a,t,rfl,l,rfl⟩:=Wb h f key d;have e:aL c (iA (Xz s ws) key)=aL c (kW s key):=by
  refine Vt ?_ ?_ (λk n=>Kq h.wt b k n)
  ·unfold kW iA;dsimp only;split<;>rfl
  ·unfold kW iA;dsimp only;split<;>rfl
 refine⟨_,q,g,p,_,i,?_,aq,rfl,l,rfl⟩;exact⟨by rw[e];exact a.nr,a.wl,by rw[e];exact a.nb,a.pC,a.pP,a.pO,KX (KG h.ok ws) key⟩
variable {i5 S':ao}
def eM.ghost[r:cG c](f:eM c o h m j s x v i5)(b:S'.cu=i5.cu)(d:S'.rs=i5.rs)(n:∀k,k≠[2]->S'.X k=i5.X k)(ok:mL c S'):eM c o h m j s x v S':=by obtain⟨w,q,g,p,u,i,a,t,rfl,l,rfl⟩:=f;have e:=Vt (c:=c) b d n;exact⟨_,q,g,p,_,i,⟨by rw[e];exact a.nr,a.wl,by rw[e];exact a.nb,a.pC,a.pP,a.pO,ok⟩,aq,rfl,l,rfl⟩
def ye(s w):(kW s w).cu=s.cu:=Zh
def V6(s w):(kW s w).rs={ s.rs with bM:=s.rs.bM++[w] }:=Zh
def Xq9[r:cG c](h:PS c o m j s)(b:o<=8589934592)(hn:s.rs.num<1000000000000)(w)(f:w.length<=1000000000)(ws)(a:(kd s.rs.num++w)∈s.rs.bM↔Xr [32] ([cQ,s.df,[46]]++ws)∈aS s.X)(d) :
  eM c o 1 m j s (TA (d+3) Qj [pt c.P 0 0,sv w] m) (.tuple ⟨[]⟩) (iA (Xl s ws) (kd s.rs.num++w)):=by
 refine(Xgy h b hn w f d).ghost ?_ ?_ (λk e=>Kq h.wt a k e) (KX (KG h.ok _) _)
 ·exact(ye s _).symm
 ·exact(V6 s _).symm
def ig(s:ao)(b:Nat)(bt:ai)(ws:List ai)(key:ai):ao:={ mj s b ws with rs:=⟨bt,s.rs.num+1,s.rs.bM++[key]⟩ }
def Xsh[r:cG c](h:PS c o m j s)(f:o<=8589934592)(hn:s.rs.num<1000000000000)(b bt key ws)(i:(Xr [32] ws).length<=SB)(a:key∈s.rs.bM↔Xr [32] ws∈aS s.X)(d) :
  eM c o 1 m j s (TA (d+2) Qs [pt c.P 0 0,sv bt,sv key] m) (.tuple ⟨[]⟩) (ig s b bt ws key):=by
 have e:=KG h.ok ws;refine(Xko h f hn bt key d).ghost ?_ ?_ (λk g=>Kq h.wt a k g) ⟨e.le,e.ee,e.wt,i,e.ge⟩
 ·exact(ye s key).symm
 ·unfold LH;dsimp only;rw[V6];rfl
variable {i7:ay}{A':Nat}
def eM.XqR(b:eM c o h m j s x v i5)(a:i5.cu=S'.cu)(n:S'.cu.er.isNone=false):mH c o h m j s x v S':=by obtain⟨r,l,d,k,p,e,f,g,rfl,i,rfl⟩:=b;exact⟨_,l,d,k,_,e,f,g,rfl,i,a,λq=>aq⟩
def W.qv[r:cG c](h:W c G Q J o m j u ts)(a:o<=8589934592)(hn:u.rs.num<1000000000000){w}(i:w.length<=1000000000){ws i5}(b:u.cu=i5.cu)
  (e:i5.cu.er.isNone=true->((kd u.rs.num++w)∈u.rs.bM↔Xr [32] ([cQ,u.df,[46]]++ws)∈aS u.X)/\i5=iA (Xl u ws) (kd u.rs.num++w)) {f Z':Nat} (g:o+1<=f+Z') (d:Nat) :
  aK c G Q J (bp (TA (d+3) Qj [pt c.P 0 0,sv w] m) λ_ m=>some (.tuple ⟨[]⟩,m)) (QR f Z' (.tuple ⟨[]⟩) i5):=by
 cases q:i5.cu.er.isNone with
 |true =>obtain⟨k,l⟩:=e q;refine h.tf (w:=.tuple ⟨[]⟩) ?_ g;rw[l];exact(Xq9 h.ps a hn w i ws k d).paR
 |false =>refine h.tf ((Xgy h.ps a hn w i d).XqR ?_ q) g;rw[<-b];exact ye u _
end Go.Ab.Sh
end
