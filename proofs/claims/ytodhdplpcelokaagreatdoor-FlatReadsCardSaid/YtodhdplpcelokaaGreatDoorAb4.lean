/-
  An evaluator over abstract memories, and that what it answers the machine answers. No conditions.
-/
import Derived.Test.YtodhdplpcelokaaGreatDoorAb3

set_option linter.all false
set_option maxRecDepth 100000
noncomputable section
namespace Go.Ab
inductive pV where
 |ptr|mp
 |sl (size len r:Nat)
def pV.val:pV->Nat->ae
 |.ptr,b=>.pointer (some ⟨b,0,some 0⟩)
 |.mp,b=>.map (some b)
 |.sl size len r,b=>.slice (some ⟨b,0,some size⟩) len r
def rB(P:Program)(f:Operand->ae)(y:Oper):Option (dQ × pV):=
 match y.op with
 |.alloc t=>match tz P t with|some (_,z)=>some (.cells z.cells.toList 0 0 false (some (2*t+1)),.ptr)|none=>none
 |.box t x=>some (.cells (f x).cells.toList 0 0 false (some (2*t+1)),.ptr)
 | .buildSlice t len parts=>match P.underlying t with
  | some (.slice e)=>match tz P e with
   | some (i,z)=>if Nat.ble (len*i.size) 16777216 then
     match fill (λk=>some (k*i.size,i.size)) (fH len z.cells.toList) (parts.toList.map λ(i,x)=>(i,f x))with
     |some cs=>if i.size=0 then none else some (.cells cs 0 0 false (some (2*e)),.sl i.size len 1)
     |none=>none
    else none
   |none=>none
  |_=>none
 |.makeMap _ none=>some (.map [] 0,.mp)
 | .makeSlice t l c=>match P.underlying t with
  | some (.slice e)=>match tz P e with
   | some (i,z)=>match f l,f c with
    |.int _ l,.int _ c=>if decide (0<=l)&&decide (l<=c)&&fits c.toNat i.bytes&&Nat.ble 1 i.size then some (.cells (fH l.toNat z.cells.toList) 0 0 false (some (2*e)),.sl i.size l.toNat (if l=c then 1 else 0))else none
    |_,_=>none
   |none=>none
  |_=>none
 | .range t x=>match P.underlying t with
  |some .string=>match f x with|.string s=>some (.dM s 0,.ptr)|_=>none
  |_=>none
 | .convert s d x=>match yv P s d,f x with
  |.bytes,.string s=>some (.cells (s.data.toList.map λb=>.int .u8 b.toNat) 0 0 false none,.sl 1 s.size 0)
  |_,_=>none
 |_=>none
def KW(P:Program)(y:Op):Bool:=
 match y with
 |.convert s d _=>match yv P s d with|.bytes=>true|_=>false
 |.range t _=>match P.underlying t with|some .string=>true|_=>false
 |.alloc _|.box ..|.buildSlice ..|.makeSlice ..|.makeMap ..=>true
 |_=>false
theorem Xpa{P:Program}{f:Operand->ae}{y:Oper}{ob:dQ}{n:pV}(h:rB P f y=some (ob,n))(m:aj):eI P f m y=some (n.val m.next,m.push ob):=by
 obtain⟨dst,C,ty,pos,after,guard⟩:=y;unfold rB at h;unfold eI;cases C<;>simp only[reduceCtorEq]at h|-
 case alloc t =>
  cases b:tz P t with
  |none=>grind
  |some p=>obtain⟨i,z⟩:=p;rw[b]at h;cases h;rfl
 case box t x=>cases h;rfl
 case buildSlice t len parts =>
  split at h
  ·rename_i e k;rw[k];simp only;split at h
   ·rename_i i z b;rw[b];simp only;split at h
    ·rename_i q;rw[ah q];split at h
     ·rename_i cs j;split at h
      ·cases h
      ·rename_i o;cases h;simp only[Em,xO];rw[j];simp only[af o];rfl
     grind
    grind
   trivial
  trivial
 case convert s d x =>
  split at h
  ·rename_i u g B;cases h;rw[g,B];rfl
  grind
 case makeMap t r =>
  cases r with
  |none=>cases h;rfl
  |some _=>cases h
 case makeSlice t l c =>
  split at h
  ·rename_i e k;rw[k];simp only;split at h
   ·rename_i i z b;rw[b];simp only;split at h
    ·rename_i E D v g;split at h
     ·rename_i a;cases h;rw[v,g];simp only[xQ];rw[ah a];rfl
     grind
    grind
   grind
  grind
 case range t x =>
  split at h
  ·rename_i A;rw[A];simp only;split at h
   ·rename_i s w;cases h;rw[w];rfl
   grind
  grind
theorem XlK{P:Program}{f:Operand->ae}{m S:aj}{y:Oper}{v:ae}(o:KW P y.op=true)(h:eI P f m y=some (v,S)):∃ob b,rB P f y=some (ob,b)/\v=b.val m.next/\S=m.push ob:=by
 have key:(∃p,rB P f y=some p)->∃ob b,rB P f y=some (ob,b)/\v=b.val _/\S=m.push ob:=λ⟨p,q⟩=>by obtain⟨ob,b⟩:=p;have:=Xpa q m;rw[h]at this;cases this;exact⟨ob,b,q,rfl,rfl⟩
 refine key ?_;obtain⟨dst,C,ty,pos,after,guard⟩:=y;unfold rB;unfold eI at h;cases C<;>simp only[KW,dp]at o h|-
 case alloc t =>
  cases g:tz P t with
  |none=>grind
  |some p=>simp
 case box t x=>simp
 case buildSlice t len parts =>
  split at h
  ·rename_i e n;simp only[n];split at h
   ·rename_i i z g;simp only[g];split at h
    ·rename_i w;rw[ah w];simp only[Em,xO]at h;split at h
     ·rename_i cs k;rw[k];simp_all
     trivial
    trivial
   trivial
  trivial
 case convert s d x =>
  split at o
  ·rename_i j;rw[j]at h|-;generalize f x=u at h|-;cases u<;>simp only[conv,reduceCtorEq]at h
   simp
  grind
 case makeMap t r =>
  cases r with
  |none=>exact⟨_,rfl⟩
  |some _=>cases h
 case makeSlice t l c =>
  split at h
  ·rename_i e n;simp only[n];split at h
   ·rename_i i z g;simp only[g];simp only[xQ]at h;split at h
    ·rename_i E _ D A j;rw[A,j];simp only;split at h
     ·rename_i a;rw[ah a];simp
     trivial
    trivial
   trivial
  trivial
 case range t x =>
  split at h
  ·rename_i B;simp only[B];simp only[yb]at h;split at h
   ·simp_all
   grind
  grind
def iR(j:az)(l:List ae):Prop:=∀v∈l,∃c,aG j v c
theorem iR.MM{j:az}:∀{l c:List ae},bu j l c->iR j l
 |_,_,.nil=>λv b=>by cases b
 |_,_,.cons v e l d h a=>λu hu=>by
  rcases eF.1 hu with rfl|hu
  ·grind
  ·exact iR.MM a u hu
theorem iR.append{j:az}{a b:List ae}(c:iR j a)(d:iR j b):iR j (a++b):=λv e=>by
 rcases nH.1 e with h|h
 ·exact c v h
 ·exact d v h
theorem iR.fH{j:az}{z:List ae}(a:iR j z):∀n,iR j (fH n z)
 |0=>λv b=>by cases b
 |n+1=>a.append (iR.fH a n)
theorem iR.fill{j:az}(b:Nat->Option (Nat × Nat)):∀(l:List (Nat × ae)) (a r:List ae),(∀p∈l,iR j p.2.cells.toList)->iR j a->fill b a l=some r->iR j r
 |[],a,r,_,c,h=>by simp only[Ab.fill,cE]at h;grind
 |(i,v)::l,a,r,e,c,h=>by
  simp only[Ab.fill]at h;split at h
  ·split at h
   ·refine iR.fill _ l _ r (λp f=>e p (gC _ f)) ?_ h;unfold EX;exact(iR.append (λu d=>c u (wL d)) (e _ Nj)).append (λu d=>c u (FU d))
   grind
  grind
theorem Xqw{P:Program}{j:az}{f k:Operand->ae}{y:Oper}(hf:∀x∈y.op.operands.toList,aG j (f x) (k x)){ob:dQ}{o:pV}(h:rB P f y=some (ob,o)) :
  match ob with|.cells c _ _ _ _=>iR j c|.map es _=>es=[]|.dM _ _=>True|.B2 _ _ _ _=>False:=by
 obtain⟨dst,r,ty,pos,after,guard⟩:=y;have g:∀{i:TypeInfo} {z:ae} {t:TypeId},tz P t=some (i,z)->iR j _:=λa=>iR.MM (sH (qX (yq a).2.2.1));unfold rB at h;cases r<;>simp only[reduceCtorEq]at h hf
 case alloc t =>grind
 case box t x =>cases h;exact iR.MM (sH (hf x dY))
 case buildSlice t len parts =>
  split at h
  ·split at h
   ·rename_i i z a;split at h
    ·split at h
     ·rename_i cs e;split at h
      ·cases h
      ·cases h;refine iR.fill _ _ _ _ (λp m=>?_) ((g a).fH _) e;obtain⟨q,u,rfl⟩:=mz.1 m;exact iR.MM (sH (hf q.2 (by simp only[Op.operands,mz];grind)))
     grind
    grind
   grind
  grind
 case convert s d x =>
  split at h
  ·cases h;intro v n;obtain⟨b,_,rfl⟩:=mz.1 n;exact⟨_,.int _ _⟩
  grind
 case makeMap =>grind
 case makeSlice t l c =>
  split at h
  ·split at h
   ·rename_i i z a;split at h
    ·split at h
     ·cases h;exact(g a).fH _
     grind
    grind
   grind
  grind
 grind
theorem pV.XzX{j k:az}{f:pV}{b g:Nat}{cv:ae}(h:aG j (f.val b) cv)(e:k g=j b):aG k (f.val g) cv:=by
 cases f with
 |ptr =>
  cases h with
  |ptr _ _ _ B O pl i d a=>exact .ptr _ _ _ B O pl aq d a
 |mp =>
  cases h with
  |map _ R pl i a=>exact .map _ R pl aq a
 |sl size len r =>
  cases h with
  |slice _ _ _ _ _ B O o pl i c hn d a=>exact .slice _ _ _ _ _ B O o pl aq c hn d a
theorem pV.XzY{j:az}{d:pV}{b:Nat}{cv:ae}(h:aG j (d.val b) cv):∃pl,j b=some pl:=by
 cases d with
 |ptr=>cases h with|ptr _ _ _ B O pl a f c=>grind
 |mp=>cases h with|map _ R pl a c=>grind
 |sl size len r=>cases h with|slice _ _ _ _ _ B O o pl a e hn f c=>exact⟨pl,a⟩
theorem Xr0{P:Program}{B0:Nat}{j:az}{m:aj}{w:World}(o:Rel B0 j m w){f cf:Operand->ae}(y:Oper)(hf:∀x∈y.op.operands.toList,aG j (f x) (cf x)){ob:dQ}{nv:pV}
  (ha:rB P f y=some (ob,nv)) {b:Nat} (hb:j b=none) (hg:m.get b=some ob) (ag:b<m.next) :
  ∃cv Z pl,NG P cf y w cv Z/\Rel B0 (j.bH b pl) m Z/\aG (j.bH b pl) (nv.val b) cv/\j.le (j.bH b pl) /\
   (∀(Q:az)(G:aj) (w0:World),bW Q G w0 j m w->G.next<=b->bW Q G w0 (j.bH b pl) m Z):=by
 have Y:=Xpa ha (aD m m.next);obtain⟨cv,Z,H1,h1,u,h3,z⟩:=Wh (U4 o _) y hf Y;obtain⟨pl,g⟩:=pV.XzY h3;simp only[aD]at g;have same:∀x,x<m.next->H1 x=j x:=λx a=>(z.same x (by simp[aD];exact a) a).2;have H:∀x,x<m.next->((aD m m.next).push ob).get x=m.get x:=λx a=>by rw[Mem.bV,af (by simp[aD];omega)];rfl
 have l:∀x p,j x=some p->H1 x=some p:=λx p a=>by simp[same,o.blocks,a]
 have r:j.le (j.bH b pl):=λx p a=>⟨p,by have:x≠b:=λe=>aq;rw[az.cN pl this];exact a,.inl rfl⟩
 have C:=Xqw hf ha
 have ab:iF (j.bH b pl) Z pl ob:=by
  obtain⟨_,o',t,q⟩:=u.blocks m.next pl g;rw[Mem.bV,ah bY]at t;cases t;cases ob with
  |cells c ver ac ro N =>obtain⟨T,U,V,C',N,a9,a0,R,a5,a6,a7⟩:=q;refine⟨T,U,V,C',N,a9,a0,R,a5,λi v hi hv=>?_,a7⟩;obtain⟨c1,k2,k3⟩:=a6 i v hi hv;obtain⟨c0,k0⟩:=C v (jO hv);exact⟨c1,k2,(k0.back l k3).mono r⟩
  |map es W =>simp only at C;subst C;obtain⟨T,U,F,V,R⟩:=q;refine⟨T,U,F,V,?_⟩;generalize F.toList=L at R;cases R;exact .nil
  |dM s pos=>exact q
  |B2 _ _ _ _=>grind
 have J:∀x p,j x=some p->∃y,m.get x=some y/\iF _ Z p y:=λx p a=>by obtain⟨t,y,q,q3⟩:=o.blocks x p a;obtain⟨_,o',q4,q5⟩:=u.blocks x p (l x p a);rw[H x t,q]at q4;cases q4;exact⟨y,q,(q3.back l q5).mono r⟩
 refine⟨cv,Z,pl,h1,⟨λx p a=>?_,λx O p K a h n A=>?_,λx p a n=>?_,u.size,o.fresh⟩,pV.XzX h3 (by rw[az.dE];exact g.symm),r,λQ G w0 s al=>?_⟩
 ·by_cases d:x=b
  ·subst d;rw[az.dE]at a
   grind
  ·rw[az.cN pl d]at a;exact⟨(o.blocks x p a).1,J x p a⟩
 ·by_cases d:x=b
  ·by_cases k:O=b
   ·omega
   ·subst d;rw[az.dE]at a;rw[az.cN pl k]at h;cases a;have:=u.inj _ O pl K g (l _ _ h) n A;have:=(o.blocks O K h).1;omega
  ·by_cases k:O=b
   ·subst k;rw[az.dE]at h;rw[az.cN pl d]at a;cases h;have:=u.inj x _ p pl (l _ _ a) g n A;have:=(o.blocks x p a).1;omega
   ·rw[az.cN pl d]at a;rw[az.cN pl k]at h;exact o.inj x O p K a h n A
 ·by_cases d:x=b
  ·subst d;rw[az.dE]at a;cases a;exact u.base _ pl g n
  ·rw[az.cN pl d]at a;exact o.base x p a n
 ·have I:pl.ro=false->w.heap.size<=pl.aF:=λn=>by
   rcases z.oE _ pl g n with⟨S,M,g1,g2,g3⟩|g1
   ·have h5:=(o.blocks S M g1).1;have:=u.inj S _ M pl (l _ _ g1) g g2 g3;omega
   omega
  refine⟨s.le.trans r,s.next,s.low,λx D E=>?_,z.os.trans s.os,z.tape.trans s.tape,z.output.trans s.output,aO s.size z.size,λB hB hn=>?_,λx p a n=>?_,λx D E=>?_⟩
  ·obtain⟨t,q⟩:=s.same x D E;exact⟨t,by rwa[az.cN pl aa]⟩
  ·rw[z.frame B (dU hB s.size) ?_,s.frame B hB hn];intro S K X a8 e;rcases s.oE S K X a8 with⟨b2,am,g1,g2,g3⟩|g1
   ·grind
   ·omega
  ·by_cases d:x=b
   ·subst d;rw[az.dE]at a;cases a;exact .inr (aO s.size (I n))
   ·rw[az.cN pl d]at a;exact s.oE x p a n
  ·obtain⟨t,q⟩:=s.un x D E;exact⟨by rw[az.cN pl aa];exact t,q⟩
theorem Xs4{B0:Nat}{j:az}{m:aj}{w:World}(h:Rel B0 j m w)(ob:dQ):Rel B0 j (m.push ob) w/\j m.next=none/\∀Q G w0,bW Q G w0 j m w->bW Q G w0 j (m.push ob) w:=by
 have e:∀x,x<m.next->(m.push ob).get x=m.get x:=λx f=>rV;refine⟨⟨λb pl c=>?_,h.inj,h.base,h.size,λb c=>?_⟩,?_,λQ G w0 s=>⟨s.le,by have:=s.next;simp;omega,s.low,λb d a=>?_,s.os,s.tape,s.output,s.size,s.frame,s.oE,λb d a=>?_⟩⟩
 ·obtain⟨g,y,i,k⟩:=h.blocks b pl c;exact⟨cF,y,aq,k⟩
 ·simp at c;rw[Mem.bV,af aa];exact h.fresh b aa
 ·cases f:j m.next with
  |none=>rfl
  |some pl=>have:=(h.blocks _ _ f).1;omega
 ·have hn:=s.next;have:=s.same b oU a
  grind
 ·have hn:=s.next;obtain⟨g,i⟩:=s.un b d a
  grind
def sQ(P:Program)(y:Op):Bool:=
 match y with
 |.move _|.assign _|.pick ..|.build ..|.nilCheck _|.unOp ..|.makeInterface ..|.makeFunc ..|.fieldAddr ..|.field ..|.indexAddr ..|.index ..|.extract ..=>true
 |.binOp _ t _ _ _=>!wc P t
 |.slice t _ _ _ _=>match P.underlying t with|some .string|some (.slice _)=>true|_=>false
 |.convert s d _=>match yv P s d with|.bytes|.str=>false|_=>true
 |.call { callee:=.builtin .max,.. }|.call { callee:=.builtin .min,.. }=>true
 |.call { callee:=.builtin .len,argTypes,.. }=>match(argTypes[0]?).bind P.underlying with|some (.map _ _)=>false|_=>true
 |_=>false
def tq(P:Program)(y:Op):Bool:=
 match y with
 |.load ..|.lookup ..|.binOp ..=>true
 |.slice ..=>true
 |.convert s d _=>match yv P s d with|.bytes=>false|_=>true
 |.call { callee:=.builtin .len,.. }=>true
 |_=>false
def Cv.plain(c:Cv):Bool:=match c with|.bytes|.str=>false|_=>true
theorem Vr{c:Cv}(a:c.plain=true){x v:ae}{m m1:aj}(h:conv c x m=some (v,m1)):m1=m/\∀S,conv c x S=some (v,S):=by
 cases c<;>simp only[Cv.plain,dp]at a<;>cases x<;>simp only[conv,reduceCtorEq,cE,kN]at h
 all_goals (obtain⟨rfl,rfl⟩:=h;exact⟨rfl,λ_=>rfl⟩)
theorem Xun{c:Cv}(b:c≠.bytes){x v:ae}{m m1:aj}(h:conv c x m=some (v,m1)):m1=m:=by
 cases a:c.plain
 ·cases c<;>simp only[Cv.plain,reduceCtorEq,qI,uX]at a b
  case str =>
   cases x<;>simp only[conv,reduceCtorEq]at h
   grind
 ·exact(Vr a h).1
theorem mi{x:Option ae}{m m1:aj}{v:ae}(h:aI x m=some (v,m1)):m1=m/\∀S,aI x S=some (v,S):=by obtain⟨rfl,rfl⟩:=fA h;exact⟨rfl,λ_=>rfl⟩
theorem VA{P:Program}{f:Operand->ae}{m m1:aj}{y:Oper}{v:ae}(k:sQ P y.op=true)(h:eI P f m y=some (v,m1)):m1=m/\∀S,eI P f S y=some (v,S):=by
 obtain⟨dst,w,ty,pos,after,guard⟩:=y;unfold eI at h|-;cases w<;>simp only[sQ,dp]at k h|-
 case move=>grind
 case assign=>grind
 case pick =>
  unfold pk at h|-
  grind
 case build =>
  split at h
  ·split at h
   ·split at h
    ·exact mi h
    grind
   grind
  grind
 case nilCheck=>exact mi h
 case binOp b t x o B =>simp at k;rw[k]at h|-;exact mi h
 case unOp=>exact mi h
 case convert s d x =>refine Vr ?_ h;assumption
 case makeInterface t x=>grind
 case makeFunc=>grind
 case slice t x lo hi mx =>
  split at h
  ·split at h
   ·exact mi h
   grind
  ·split at h
   ·split at h
    ·exact mi h
    grind
   grind
  ·rename_i A q;split at k
   ·trivial
   ·rename_i e r;exact absurd r (q e)
   trivial
 case fieldAddr =>
  split at h
  ·split at h
   ·split at h
    ·split at h
     ·rename_i u;simp only[ah u];exact mi h
     grind
    grind
   grind
  grind
 case field =>
  split at h
  ·split at h
   ·split at h
    ·exact mi h
    grind
   grind
  grind
 case indexAddr =>
  split at h
  ·split at h
   ·exact mi h
   grind
  ·split at h
   ·exact mi h
   grind
  grind
 case index =>
  split at h
  ·exact mi h
  grind
 case extract=>exact mi h
 case call c =>
  obtain⟨j,g,n⟩:=c;cases j<;>simp only[reduceCtorEq]at k h|-;rename_i b;cases b<;>simp only[dp]at k h|-
  case len =>
   unfold vG at h|-;cases a:g.toList.map f with
   |nil=>rw[a]at h;cases h
   |cons x l =>
    rw[a]at h;cases l with
    |cons o l=>trivial
    |nil =>
     cases i:n.toList with
     |nil=>rw[i]at h;cases h
     |cons t l =>
      rw[i]at h;cases l with
      |cons o l=>cases h
      |nil =>
       have p:n[0]?=some t:=by rw[<-wJ,i];rfl
       rw[p]at k;simp at k;simp only at h|-;split at h
       ·cases x<;>exact mi h
       ·cases x<;>exact mi h
       ·grind
       ·grind
       ·split at h
        ·grind
        grind
       grind
  case max =>
   unfold vG at h|-;cases a:g.toList.map f with
   |nil=>rw[a]at h;cases h
   |cons x l =>
    rw[a]at h;cases l with
    |nil=>cases h
    |cons o l =>
     cases l with
     |cons z l=>cases h
     |nil=>exact mi h
  case min =>
   unfold vG at h|-;cases a:g.toList.map f with
   |nil=>rw[a]at h;cases h
   |cons x l =>
    rw[a]at h;cases l with
    |nil=>cases h
    |cons o l =>
     cases l with
     |cons z l=>cases h
     |nil=>exact mi h
theorem Xka{P:Program}{f:Operand->ae}{m m1:aj}{y:Oper}{v:ae}(j:tq P y.op=true)(h:eI P f m y=some (v,m1)):m1=m:=by
 obtain⟨dst,p,ty,pos,after,guard⟩:=y;unfold eI at h;cases p<;>simp only[tq,dp]at j h
 case load=>split at h<;>first|exact(fA h).2|cases h
 case binOp b t x n q =>
  cases o:wc P t
  ·rw[o]at h;exact(fA h).2
  ·rw[o]at h;exact(fA h).2
 case lookup =>
  split at h
  ·split at h
   ·split at h
    ·exact(fA h).2
    grind
   grind
  grind
 case convert s d x =>
  refine Xun ?_ h
  grind
 case slice t x lo hi mx =>
  split at h
  ·split at h
   ·exact(fA h).2
   grind
  ·split at h
   ·split at h
    ·exact(fA h).2
    grind
   grind
  ·split at h
   ·split at h
    ·split at h
     ·exact(fA h).2
     grind
    grind
   grind
 case call c =>
  obtain⟨a,g,k⟩:=c;cases a<;>simp only[reduceCtorEq]at j h;rename_i b;cases b<;>simp only[dp]at j h;unfold vG at h;cases e:g.toList.map f with
  |nil=>grind
  |cons x l =>
   rw[e]at h;cases l with
   |cons n l=>grind
   |nil =>
    cases i:k.toList with
    |nil=>grind
    |cons t l =>
     rw[i]at h;cases l with
     |cons n l=>cases h
     |nil =>
      simp only at h;split at h
      ·exact(fA h).2
      ·exact(fA h).2
      ·exact(fA h).2
      ·grind
      ·grind
      grind
theorem Xuj{b:Type}{f a:Operand->b}(l:List Operand)(h:∀x∈l,f x=a x):l.map f=l.map a:=List.map_congr_left h
theorem Xr5{P:Program}{f g:Operand->ae}{m:aj}{y:Oper}(h:∀x∈y.op.operands.toList,f x=g x):eI P f m y=eI P g m y:=by
 obtain⟨dst,l,ty,pos,after,guard⟩:=y;have a:∀ps:Array (Nat × Operand),(∀x∈ps.toList.map (·.2),f x=g x)->(ps.toList.map λ(i,x)=>(i,f x))=(ps.toList.map λ(i,x)=>(i,g x)):=λps r =>List.map_congr_left λp q=>by grind
 cases l<;>simp only[Op.operands]at h<;>unfold eI<;>simp only
 case build t ps=>rw[a ps (λx j=>h x aa)]
 case buildSlice t n ps=>rw[a ps (λx j=>h x aa)]
 case makeFunc fn first e =>simp_all
 case call c =>obtain⟨d,k,o⟩:=c;cases d<;>simp only;rw[Xuj _ (λx j=>h x (by simp[Call.operands,j]))]
 case slice t x lo hi mx=>cases lo<;>cases hi<;>cases mx<;>simp_all
 case next x b =>
  cases b
  ·grind
  ·grind
 all_goals (first|rfl|(simp_all;done))
end Go.Ab
namespace Go.Ab
open Go.RowKit (Below)
variable {B0 N R d e i id k s t:Nat}{M' E za1 Y':Env}{a:Act}{ag c ok r za4:Bool}{cs done es is:List Nat}{dst:Option Nat}{hi lo g8:Option Value}{l:List Value}{I:Array Bool}{y:Oper}{v x z:Value}{w w0:World}{j Q:az}
def fN:Nat->Value->Value->Bool
 |0,_,_=>false
 | d+1,a,b=>match a,b with
  |.bool x,.bool g8=>decide (x=g8)
  |.int k x,.int l g8=>decide (k=l)&&decide (x=g8)
  |.string x,.string g8=>decide (x=g8)
  |.pointer x,.pointer g8=>decide (x=g8)
  |.slice x n r,.slice g8 n' r'=>decide (x=g8)&&decide (n=n')&&decide (r=r')
  |.map x,.map g8=>decide (x=g8)
  |.nilFunc,.nilFunc=>true
  |.nilIface,.nilIface=>true
  |.iface t x,.iface u g8=>decide (t=u)&&fN d x g8
  |.func (.func f) x c,.func (.func g) g8 e=>decide (f=g)&&vsames d x.toList g8.toList&&vsames d c.toList e.toList
  |.agg x,.agg g8=>vsames d x.toList g8.toList
  |.tuple x,.tuple g8=>vsames d x.toList g8.toList
  |_,_=>false
where
 vsames (d:Nat):List Value->List Value->Bool
  |[],[]=>true
  |a::x,b::g8=>fN d a b&&vsames d x g8
  |_,_=>false
theorem Xxb:∀(d:Nat)(a b:ae),fN d a b=true->a=b:=by
 intro d
 induction d with
 |zero=>intro a b h;simp[fN]at h
 |succ d g =>
  have c:∀(x e:List _),fN.vsames d x e=true->x=e:=by
   intro x
   induction x with
   | nil=>intro e h;cases e with
    |nil=>rfl
    |cons=>simp[fN.vsames]at h
   | cons a x f=>intro e h;cases e with
    |nil=>simp[fN.vsames]at h
    |cons b e =>simp only[fN.vsames,bT]at h;rw[g a b h.1,f e h.2]
  intro a b h;unfold fN at h;split at h<;>(try simp only[bT,gq,dp]at h)
  case h_1=>rw[h]
  case h_2=>grind
  case h_3=>rw[h]
  case h_4=>rw[h]
  case h_5=>grind
  case h_6=>rw[h]
  case h_7=>rfl
  case h_8=>rfl
  case h_9=>grind
  case h_10=>rw[h.1.1,Nk.1 (c _ _ h.1.2),Nk.1 (c _ _ h.2)]
  case h_11=>rw[Nk.1 (c _ _ h)]
  case h_12=>rw[Nk.1 (c _ _ h)]
def Mem.sub(m S:aj):Prop:=∀b y,m.get b=some y->S.get b=some y
theorem Kr{m S:aj}(h:m.sub S){a:Addr}{n:Nat}(b:j0 m a n=some l):j0 S a n=some l:=by
 rw[jF]at b|-;unfold iI at b|-;split at b
 ·rename_i c ver d ro f e;rw[h _ _ e];exact b
 grind
theorem Xrq{m S:aj}(h:m.sub S)(a:X9 ag s x m=some v):X9 ag s x S=some v:=by
 rw[EB]at a|-;unfold Bn at a|-;split at a
 ·split at a
  ·split at a
   ·rename_i cs b;rw[Kr h b];exact a
   grind
  ·split at a
   ·rename_i u b;rw[Kr h b];exact a
   grind
 omega
theorem Xmc{m S:aj}(h:m.sub S){p:gE}{k:ae}(a:uu p z ok x k m=some v):uu p z ok x k S=some v:=by
 unfold uu at a|-;simp only[AW]at a|-;generalize (pG k k&&(match bS p k k with|some true=>true|_=>false))=c at a|-
 cases c
 ·assumption
 ·simp at a|-;split at a
  ·exact a
  ·split at a
   ·rename_i b e cl d;simp only[h _ _ d];exact a
   trivial
  omega
theorem Xj9{m S:aj}(h:m.sub S){len size:Nat}(a:vF len size x lo hi m=some v):vF len size x lo hi S=some v:=by
 unfold vF at a|-;split at a
 ·split at a
  ·cases a
  ·rename_i b;rw[Kr h b];exact a
 omega
theorem Xwp{m S:aj}(h:m.sub S){c:Cv}(f:c≠.bytes)(b:conv c x m=some (v,m)):conv c x S=some (v,S):=by
 cases e:c.plain
 ·cases c<;>simp only[Cv.plain,reduceCtorEq,qI,uX]at e f
  case str =>
   cases x<;>simp only[conv,reduceCtorEq]at b
   rename_i a n r;cases a with
   |none=>simp only[conv,cE,kN]at b|-;omega
   |some a =>
    simp only[conv]at b|-
    split at b
    ·rename_i cs d;rw[Kr h d];simp only;split at b
     ·grind
     grind
    grind
 ·exact(Vr e b).2 S
theorem Xky{m S:aj}(h:m.sub S){a b:Addr}(c:yB m a b=some r):yB S a b=some r:=by
 unfold yB at c|-;split at c
 ·rename_i d;rw[ah d];split at c
  ·rename_i e;rw[h _ _ e];exact c
  grind
 trivial
theorem Xxh{m S:aj}(h:m.sub S){d:BinOp}{g:Bool}{p:gE}{g8:ae}(a:BL m d c g p x g8=some v):BL S d c g p x g8=some v:=by
 unfold BL at a|-;split at a
 ·split at a
  ·rename_i r b;simp only[Xky h b];exact a
  grind
 ·split at a
  ·rename_i r b;simp only[Xky h b];exact a
  grind
 omega
theorem sJ{x:Option ae}{m S:aj}(h:∀u,x=some u->g8=some u)(b:aI x m=some (v,m)):aI g8 S=some (v,S):=by obtain⟨a,_⟩:=fA b;rw[h _ a];rfl
theorem Xxi{m S:aj}(h:m.sub S)(a:BI x m=some v):BI x S=some v:=by
 unfold BI at a|-;split at a
 ·exact a
 ·exact a
 ·exact a
 ·split at a
  ·rename_i b d cl c;simp only[h _ _ c];exact a
  grind
 omega
theorem VX{m S:aj}(h:m.sub S)(a:aM k x m=some v):aM k x S=some v:=by
 rw[Xvv]at a|-;unfold LU at a|-;split at a
 ·exact a
 ·exact a
 ·exact Xxi h a
 omega
theorem Xwm{P:Program}{f:Operand->ae}{m S:aj}(g:m.sub S)(k:tq P y.op=true)(h:eI P f m y=some (v,m)):eI P f S y=some (v,S):=by
 obtain⟨dst,q,ty,pos,after,guard⟩:=y;unfold eI at h|-;cases q<;>simp only[tq,dp]at k h|-
 case load =>
  split at h
  ·exact sJ (λ_=>Xrq g) h
  grind
 case binOp b t x o r =>
  cases p:wc P t
  ·rw[p]at h;exact sJ (λ_ h=>h) h
  ·rw[p]at h;exact sJ (λ_=>Xxh g) h
 case lookup =>
  split at h
  ·split at h
   ·split at h
    ·exact sJ (λ_=>Xmc g) h
    grind
   grind
  grind
 case convert s d x =>
  refine Xwp g ?_ h
  grind
 case slice t x lo hi mx =>
  split at h
  ·split at h
   ·exact sJ (λ_ h=>h) h
   grind
  ·split at h
   ·split at h
    ·grind[sJ]
    grind
   grind
  ·split at h
   ·split at h
    ·split at h
     ·exact sJ (λ_=>Xj9 g) h
     grind
    grind
   grind
 case call c =>
  obtain⟨e,j,n⟩:=c;cases e<;>simp only[reduceCtorEq]at k h|-;rename_i b;cases b<;>simp only[dp]at k h|-;unfold vG at h|-;cases a:j.toList.map f with
  |nil=>rw[a]at h;cases h
  |cons x l =>
   rw[a]at h;cases l with
   |cons o l=>trivial
   |nil =>
    cases i:n.toList with
    |nil=>rw[i]at h;cases h
    |cons t l =>
     rw[i]at h;cases l with
     |cons o l=>cases h
     |nil =>
      simp only at h|-;split at h
      ·exact sJ (λ_=>VX g) h
      ·exact sJ (λ_=>VX g) h
      ·exact sJ (λ_=>VX g) h
      ·grind
      ·split at h
       ·grind
       grind
      grind
theorem Xyh{m:aj}(h:Rel B0 j m w)(ob:dQ):m.sub (m.push ob):=λb y a=>by
 rw[Mem.bV,af]
 ·exact a
 ·intro e;rw[h.fresh b aa]at a;cases a
def bit(b:List Nat)(i x:Nat):Bool:=(b.getD i 0).testBit x
structure Km where
 e0:List Nat
 ph:List (Nat × List Nat × List Nat)
def wh:List (Nat × List Nat × List Nat)->List Nat
 |[]=>[]
 |(e,_,es)::r=>e::(es++wh r)
def gR(F:Array Oper)(E:Env)(y:Oper):Option Bool:=
 match y.guard with
 |none=>some true
 | some (a,za4)=>match(F[a]?).bind (·.dst)with
  |none=>none
  |some d=>Ms (E d) za4
def fX(P:Program)(n:Nat)(F:Array Oper):List Nat->Env->aj->(Env->aj->Option Rs)->Option Rs
 |[],E,m,k=>k E m
 | i::is,E,m,k=>match F[i]? with
  |none=>none
  | some y=>match y.guard with
   |none=>pE P (eI P (dD E) m y) (dD E) m y λv m=>fX P n F is (put n E y.dst v) m k
   | some (a,za4)=>match(F[a]?).bind (·.dst)with
    |none=>none
    | some d=>sZ (E d)
     (match za4 with
      |true=>pE P (eI P (dD (bH n E d (.bool true))) m y) (dD (bH n E d (.bool true))) m y λv m=>fX P n F is (put n (bH n E d (.bool true)) y.dst v) m k
      |false=>fX P n F is (put n (bH n E d (.bool true)) y.dst undef) m k)
     (match za4 with
      |true=>fX P n F is (put n (bH n E d (.bool false)) y.dst undef) m k
      |false=>pE P (eI P (dD (bH n E d (.bool false))) m y) (dD (bH n E d (.bool false))) m y λv m=>fX P n F is (put n (bH n E d (.bool false)) y.dst v) m k)
     (fX P n F is (put n (bH n E d undef) y.dst undef) m k)
theorem Xtf{F:Array Oper}{n:Nat}{i6:Nat}(a:y.guard=some (i6,za4))(hd:(F[i6]?).bind (·.dst)=some d)(A B:Env->Option Rs) :
  sZ (E d) (match(generalizing:=false) za4 with|true=>A (bH n E d (.bool true))|false=>B (bH n E d (.bool true))) (match(generalizing:=false) za4 with|true=>B (bH n E d (.bool false))|false=>A (bH n E d (.bool false))) (B (bH n E d undef))=BP (gR F E y) (A E) (B E):=by
 have e:gR F E y=Ms (E d) za4:=by unfold gR;rw[a];simp only[hd]
 rw[e];unfold sZ;split
 ·rename_i h;rw[dE h,h];cases za4<;>rfl
 ·rename_i h;rw[dE h,h];cases za4<;>rfl
 ·rename_i h;rw[dE (v:=undef) h,h];rfl
 ·rename_i b c f;unfold Ms;split
  ·simp_all
  ·grind
  ·rfl
theorem Xid{P:Program}{n:Nat}{F:Array Oper}(b:F[i]?=some y)(E:Env)(m:aj)(k:Env->aj->Option Rs) :
  fX P n F (i::is) E m k=BP (gR F E y) (bp (eI P (dD E) m y) λv m=>fX P n F is (put n E y.dst v) m k) (fX P n F is (put n E y.dst undef) m k):=by
 simp only[fX,b,Xnr];cases a:y.guard with
 |none =>
  have e:gR F E y=some true:=by unfold gR;rw[a]
  rw[e];rfl
 |some f =>
  obtain⟨c,g⟩:=f;simp only;cases hd:(F[c]?).bind (·.dst)with
  |none =>
   have e:gR F E y=none:=by simp[gR,a,hd]
   rw[e];rfl
  |some d =>simp only;exact Xtf a hd (λE=>bp (eI P _ m y) λv m=>fX P n F is (put n E _ v) m k) (λE=>fX P n F is (put n E _ _) m k)
def again(x:Option (ae × aj))(v:ae):Bool:=match x with|some (u,_)=>fN 8 u v|none=>false
def rp(P:Program)(F:Array Oper):List Nat->Env->aj->Bool
 |[],_,_=>true
 | i::is,E,m=>match F[i]? with
  |none=>false
  |some y=>brc (gR F E y) ((match y.dst with|some d=>again (eI P (dD E) m y) (E d)|none=>false)&&rp P F is E m) (rp P F is E m)
def Mm(P:Program)(F:Array Oper)(cs:List Nat)(E:Env)(m:aj)(x:Option Rs):Option Rs:=match cs with|[]=>x|_=>tb (rp P F cs E m) x
def ot(P:Program)(g:fo)(n:Nat)(F:Array Oper):List (Nat × List Nat × List Nat)->Env->aj->(Env->aj->Option Rs)->Option Rs
 |[],E,m,k=>k E m
 | (e,cs,es)::r,E,m,k=>match F[e]? with
  |none=>none
  | some y=>match y.guard with
   |none=>pE P (ng P g (dD E) m y) (dD E) m y λv m=>Mm P F cs (put n E y.dst v) m (fX P n F es (put n E y.dst v) m λE m=>ot P g n F r E m k)
   | some (a,za4)=>match(F[a]?).bind (·.dst)with
    |none=>none
    | some d=>sZ (E d)
     (match za4 with
      |true=>pE P (ng P g (dD (bH n E d (.bool true))) m y) (dD (bH n E d (.bool true))) m y λv m=>Mm P F cs (put n (bH n E d (.bool true)) y.dst v) m (fX P n F es (put n (bH n E d (.bool true)) y.dst v) m λE m=>ot P g n F r E m k)
      |false=>fX P n F es (put n (bH n E d (.bool true)) y.dst undef) m λE m=>ot P g n F r E m k)
     (match za4 with
      |true=>fX P n F es (put n (bH n E d (.bool false)) y.dst undef) m λE m=>ot P g n F r E m k
      |false=>pE P (ng P g (dD (bH n E d (.bool false))) m y) (dD (bH n E d (.bool false))) m y λv m=>Mm P F cs (put n (bH n E d (.bool false)) y.dst v) m (fX P n F es (put n (bH n E d (.bool false)) y.dst v) m λE m=>ot P g n F r E m k))
     (fX P n F es (put n (bH n E d undef) y.dst undef) m λE m=>ot P g n F r E m k)
theorem XfM{P:Program}{F:Array Oper}{m:aj}(x:Option Rs):Mm P F cs E m x=bif rp P F cs E m then x else none:=by
 cases cs with
 |nil=>rfl
 |cons c cs =>rfl
theorem Xqd{P:Program}{g:fo}{n:Nat}{F:Array Oper}{r:List (Nat × List Nat × List Nat)}(b:F[e]?=some y)(E:Env)(m:aj)(k:Env->aj->Option Rs) :
  ot P g n F ((e,cs,es)::r) E m k=BP (gR F E y) (bp (ng P g (dD E) m y) λv m=>bif rp P F cs (put n E y.dst v) m then fX P n F es (put n E y.dst v) m λE m=>ot P g n F r E m k else none)
   (fX P n F es (put n E y.dst undef) m λE m=>ot P g n F r E m k):=by
 simp only[ot,b,Xkr,XfM];cases a:y.guard with
 |none =>
  have e:gR F E y=some true:=by unfold gR;rw[a]
  rw[e];rfl
 |some f =>
  obtain⟨c,h⟩:=f;simp only;cases hd:(F[c]?).bind (·.dst)with
  |none =>
   have e:gR F E y=none:=by unfold gR;rw[a];simp only[hd]
   rw[e];rfl
  |some d =>
   simp only;exact Xtf a hd (λE=>bp (ng P g _ m y) λv m=>bif rp P F cs (put n E _ v) m then fX P n F es (put n E _ v) m _ else none)
    (λE=>fX P n F es (put n E _ _) m _)
def UM(P:Program)(g:fo)(n:Nat)(F:Array Oper)(s:Km)(E:Env)(m:aj)(k:Env->aj->Option Rs):Option Rs:=
 fX P n F s.e0 E m λE m=>ot P g n F s.ph E m k
structure St (n:Nat) (F:Array Oper) (b:List Nat):Prop where
 lj:∀i x,bit b i x=true->∃y,F[i]?=some y/\∃e∈y.after,Region.binds .any e=true/\e.on<i/\(e.on=x\/bit b e.on x=true)
 edg:∀(i:Nat)(y:Oper),F[i]?=some y->∀e∈y.after,Region.binds .any e=true->bit b i e.on=true
 dst:∀(i i6:Nat)(y p:Oper) (d:Nat),F[i]?=some y->F[i6]?=some p->y.dst=some d->p.dst=some d->i=i6
 Yk:∀(i:Nat)(y:Oper) (d:Nat),F[i]?=some y->y.dst=some d->d<n
 look:∀(i:Nat)(y:Oper) (t x:Nat) (ox:Oper),F[i]?=some y->t∈Oper.looksAt F y->F[x]?=some ox->ox.dst=some t->x≠i->bit b i x=true\/bit b x i=true
 dD:∀(i:Nat)(y:Oper),F[i]?=some y->y.op.operands.toList.all Fg=true
def Bb(F:Array Oper)(b:List Nat)(done:List Nat)(i:Nat):Bool:=(List.range F.size).all λx=>!bit b i x||done.contains x
def kindOk(P:Program)(F:Array Oper)(i:Nat):Bool:=match F[i]? with|some y=>sQ P y.op||tq P y.op||KW P y.op|none=>false
def Bc(P:Program)(F:Array Oper)(i:Nat):Bool:=match F[i]? with|some y=>tq P y.op&&!sQ P y.op|none=>false
def KY(F:Array Oper)(b:List Nat)(i:Nat):Bool:=match F[i]? with
 |some y=>(Oper.looksAt F y).all λt=>(List.range F.size).all λx=>match F[x]? with|some a=>a.dst != some t||bit b i x|none=>true
 |none=>false
def yk(P:Program)(F:Array Oper)(b:List Nat):List Nat->List Nat->Bool
 |_,[]=>true
 |done,i::is=>Nat.blt i F.size&&!done.contains i&&Bb F b done i&&kindOk P F i&&yk P F b (i::done) is
def qz(P:Program)(F:Array Oper)(b:List Nat):List Nat->List (Nat × List Nat × List Nat)->Bool
 |done,[]=>(List.range F.size).all done.contains
 | done,(e,cs,es)::r=>Nat.blt e F.size&&!done.contains e&&Bb F b done e&&((es++wh r).all λi=>bit b i e) &&
   (done.all λi=>!Bc P F i||bit b e i||cs.contains i)&&(cs.all λi=>KY F b i)&&yk P F b (e::done) es&&qz P F b (es.reverse++e::done) r
def LN(P:Program)(F:Array Oper)(b:List Nat)(s:Km):Bool:=yk P F b [] s.e0&&qz P F b s.e0.reverse s.ph
variable {P:Program}{A:World}{g:fo}{n:Nat}{F:Array Oper}{b:List Nat}
def Gp(P:Program)(F:Array Oper)(b:List Nat)(Y':Env)(G:aj)(e:List (Nat × Nat))(j:az)(E:Env)(m:aj)(i:Nat):Prop:=
  ∃y M',F[i]?=some y /\
    (∀t∈Oper.looksAt F y,∀x a,F[x]?=some a->a.dst=some t->bit b i x=true->M' t=E t) /\
    (∀t∈Oper.looksAt F y,(∀x a,F[x]?=some a->bit b i x=true->a.dst≠some t)->M' t=Y' t) /\
    ∃v,(∀d,y.dst=some d->E d=v) /\
      ((gR F M' y=some false/\v=undef) \/
       (gR F M' y=some true /\
          ((sQ P y.op=true/\eI P (dD M') m y=some (v,m))\/(tq P y.op=true/\sQ P y.op=false/\eI P (dD M') m y=some (v,m)) \/
            (∃ob c bk,rB P (dD M') y=some (ob,c)/\v=c.val bk/\j bk=none/\m.get bk=some ob/\(i,bk)∈e/\G.next<=bk))))
def eP(I:Array Bool)(i:Nat):Prop:=I.getD i false=true
structure oW (D:List Deferred) (P:Program) (A:World) (n:Nat) (F:Array Oper) (b:List Nat) (Y':Env) (Q:az) (G:Mem) (w0:World) (done:List Nat) (al:List (Nat × Nat)) (I:Array Bool) (j:az) (E:Env) (m:Mem) (a:Act) (w:World):Prop where
 MT:Rel A.heap.size Q G w0
 Me:Below A.heap.size A w0
 rel:Rel A.heap.size j m w
 below:Below A.heap.size A w
 size:a.tmps.size=n
 defers:a.defers=D
 low:m.low<=m.next
 tC:bW Q G w0 j m w
 yS:I.size=F.size
 ld:∀i,eP I i->i∈done
 FG:∀i x,eP I i->bit b i x=true->eP I x
 wA:∀i x,i∈done->bit b i x=true->x∈done
 Fz:∀x y t,eP I x->F[x]?=some y->y.dst=some t->aG j (E t) (a.tmps.getD t undef)
 qs:∀t,(∀x y,eP I x->F[x]?=some y->y.dst≠some t)->aG j (Y' t) (a.tmps.getD t undef)
 old:∀t,(∀x y,x∈done->F[x]?=some y->y.dst≠some t)->E t=Y' t
 MR:∀i,i∈done->¬eP I i->Gp P F b Y' G al j E m i
 yI:∀p q,p∈al->q∈al->p.2=q.2->p=q
 rD:∀p,p∈al->p.2<m.next
theorem vZ{n:Nat}(h:dst≠some t):put n E dst v t=E t:=by
 cases dst with
 |none=>rfl
 |some d =>
  simp only[put,bH];cases a:Nat.beq t d&&Nat.blt d n
  ·rfl
  simp_all
theorem Xpr{n:Nat}(h:d<n):put n E (some d) v d=v:=by
 simp only[put,bH];have:(Nat.beq d d&&Nat.blt d n)=true:=by simp only[bT];exact⟨tH d,oU⟩
 grind
theorem Xdz(c:St n F b)(hi:i<F.size)(h:Bb F b done i=true):∀x,bit b i x=true->x∈done:=by
 intro x a;have f:x<i:=by
  have key:∀k i,i<=k->bit b i x=true->x<i:=by
   intro k
   induction k with
   |zero =>intro i hi a;obtain⟨y,_,e,_,_,d,_⟩:=c.lj i x a;omega
   |succ k j =>
    intro i hi a;obtain⟨y,_,e,_,_,d,g⟩:=c.lj i x a
    grind
  exact key i i aY a
 unfold Bb at h
 grind
theorem Gp.looks{D:List Deferred}{G:aj}{s:List (Nat × Nat)}{m:aj}(z:St n F b)(h:oW D P A n F b Y' Q G w0 done s I j E m a w)(B:F[i]?=some y)(hi:¬eP I i)(k:∀x,bit b i x=true->eP I x)(v:∀t∈Oper.looksAt F y,∀x c,F[x]?=some c->c.dst=some t->bit b i x=true->M' t=E t)(u:∀t∈Oper.looksAt F y,(∀x c,F[x]?=some c->bit b i x=true->c.dst≠some t)->M' t=Y' t):∀t∈Oper.looksAt F y,aG j (M' t) (a.tmps.getD t undef):=by
 intro t p;by_cases r:∃x c,F[x]?=some c/\c.dst=some t/\bit b i x=true
 ·obtain⟨x,c,d,f,g⟩:=r;rw[v t p x c d f g];exact h.Fz x c t (k x g) d f
 ·have o:∀x c,F[x]?=some c->bit b i x=true->c.dst≠some t:=λx c d f g=>r ⟨x,c,d,g,f⟩;rw[u t p o];refine h.qs t λx c d f g=>?_;have l:x≠i:=λe=>hi (e▸d);rcases z.look i y t x c B p f g l with q|q
  ·grind
  ·exact hi (h.FG x i d q)
theorem Xco(h:∀t∈Oper.looksAt F y,aG j (M' t) (a.tmps.getD t undef))(b:y.op.operands.toList.all Fg=true):∀x∈y.op.operands.toList,aG j (dD M' x) (a.eval x):=by
 intro x c;have:=cL.1 b x c;cases x with
 |tmp t=>exact h t Zo
 |const v=>exact qX this
 |global g=>trivial
 |func f=>exact .func _ _ _ _ _ .nil .nil
theorem KB(h:∀t∈Oper.looksAt F y,aG j (M' t) (a.tmps.getD t undef))(b:gR F M' y=some c):Region.wanted y (yielded F a.tmps)=c:=by
 unfold gR at b;unfold Region.wanted;cases g:y.guard with
 |none=>grind
 |some s =>
  obtain⟨m,u⟩:=s;rw[g]at b;simp only at b|-;cases hd:(F[m]?).bind (·.dst)with
  |none=>grind
  |some d =>
   rw[hd]at b;simp only at b;have f:=h d (by simp[Oper.looksAt,g,hd]);unfold Ms at b;split at b
   ·rename_i n k;cases b;rw[k]at f;generalize e:a.tmps.getD d _=c at f;cases f;have:a.tmps[d]?=some (.bool n):=by
     rw[tM]at e;cases i:a.tmps[d]? with
     |none=>rw[i]at e;cases e
     |some q=>grind
    have r:yielded F a.tmps m=some n:=by simp[yielded,hd,this]
    grind
   ·rename_i k;cases b;rw[k]at f;generalize e:a.tmps.getD d _=c at f;have r:yielded F a.tmps m=none:=by
     cases f with
     |tuple _ p o =>
      cases p with
      |mk l =>
       simp only at o;cases o;rw[tM]at e;cases i:a.tmps[d]? with
       |none=>simp[yielded,hd,i]
       |some q=>rw[i]at e;simp at e;simp[yielded,hd,i,e]
    grind
   grind
variable {D:List Deferred}
theorem lG{x:Nat}(hi:i<I.size):eP (I.setIfInBounds i true) x↔x=i\/eP I x:=by
 unfold eP;by_cases a:x=i
 ·simp_all
 ·have:(I.setIfInBounds i _).getD x _=I.getD x _:=getD_set_ne false (bq a)
  grind
theorem yT(h:F[i]?=some y):i<F.size:=(Y8.1 h).1
theorem Xr3{G:aj}{J:List (Nat × Nat)}{m:aj}(X:St n F b)(h:oW D P A n F b Y' Q G w0 done J I j E m a w){k:Env->aj->Option Rs}{r:Rs}(hn:i∉done)(a6:∀x,bit b i x=true->x∈done)(hk:kindOk P F i=true)(M:fX P n F (i::is) E m k=some r):∃f za1 S,oW D P A n F b Y' Q G w0 (i::done) f I j za1 S a w/\fX P n F is za1 S k=some r:=by
 obtain⟨y,K⟩:∃y,F[i]?=some y:=by
  unfold kindOk at hk
  grind
 rw[Xid K]at M
 have g:∀(v:ae)(S:aj) (f:List (Nat × Nat)),Rel A.heap.size j S w->S.low<=S.next->bW Q G w0 j S w->m.sub S->m.next<=S.next->(∀p,p∈J->p∈f)->(∀p q,p∈f->q∈f->p.2=q.2->p=q)->(∀p,p∈f->p.2<S.next) ->
   ((gR F E y=some false/\v=undef)\/(gR F E y=some true /\
     ((sQ P y.op=true/\eI P (dD E) S y=some (v,S))\/(tq P y.op=true/\sQ P y.op=false/\eI P (dD E) S y=some (v,S)) \/
      (∃ob N bk,rB P (dD E) y=some (ob,N)/\v=N.val bk/\j bk=none/\S.get bk=some ob/\(i,bk)∈f/\G.next<=bk)))) ->
   oW D P A n F b Y' Q G w0 (i::done) f I j (put n E y.dst v) S a w:=by
  intro v S f q1 q2 q3 q4 q5 q6 q7 q8 q9
  have oI:∀(x:Nat)(l:Oper) (t:Nat),x∈done->F[x]?=some l->l.dst=some t->put n E y.dst v t=E t:=by intro x l t s c B;refine vZ λe=>hn ?_;rw[X.dst i x y l t K c e B];exact s
  refine⟨h.MT,h.Me,q1,h.below,h.size,h.defers,q2,q3,h.yS,λC z=>gC _ (h.ld C z),h.FG,?_,?_,h.qs,?_,?_,q7,q8⟩
  ·intro C x z s;rcases eF.1 z with rfl|z
   ·grind
   ·exact gC _ (h.wA C x z s)
  ·intro x l t s c B;rw[oI x l t (h.ld x s) c B];exact h.Fz x l t s c B
  ·intro t B;rw[vZ (B i y Nj K)];exact h.old t λx l s c=>B x l (gC _ s) c
  ·intro C z Z;rcases eF.1 z with rfl|z
   ·refine⟨y,E,K,?_,?_,v,?_,q9⟩
    ·grind
    ·intro t B ac;refine h.old t λx l s c hd=>?_;have a1:x≠C:=λe=>hn (e▸s);rcases X.look C y t x l K B c hd a1 with q|q
     ·grind
     ·exact hn (h.wA x C s q)
    ·intro d hd;rw[hd];exact Xpr (X.Yk C y d K hd)
   ·obtain⟨oj,M',p1,p2,V,u,p4,L⟩:=h.MR C z Z;refine⟨oj,M',p1,?_,V,u,?_,?_⟩
    ·intro t B x l c hd hb;rw[oI x l t (h.wA C x z hb) c hd]
     grind
    ·grind
    ·rcases L with L|⟨L,H|H|H⟩
     ·exact .inl L
     ·exact .inr ⟨L,.inl ⟨H.1,(VA H.1 H.2).2 S⟩⟩
     ·exact .inr ⟨L,.inr (.inl ⟨H.1,H.2.1,Xwm q4 H.1 H.2.2⟩)⟩
     ·obtain⟨ob,N,bk,s1,s2,s3,s4,s5,s6⟩:=H;exact .inr ⟨L,.inr (.inr ⟨ob,N,bk,s1,s2,s3,q4 _ _ s4,q6 _ s5,s6⟩)⟩
 unfold BP at M;split at M
 ·cases M
 ·rename_i R;obtain⟨v,S,e1,e2⟩:=Wt M;unfold kindOk at hk;rw[K]at hk;simp at hk;by_cases o:sQ P y.op=true
  ·obtain⟨rfl,_⟩:=VA o e1;exact⟨J,_,_,g v S J h.rel h.low h.tC (λ_ _ q=>q) aY (λ_ q=>q) h.yI h.rD (.inr ⟨R,.inl ⟨o,e1⟩⟩),e2⟩
  ·by_cases T:tq P y.op=true
   ·have:=Xka T e1;subst this;exact⟨J,_,_,g v S J h.rel h.low h.tC (λ_ _ q=>q) aY (λ_ q=>q) h.yI h.rD (.inr ⟨R,.inr (.inl ⟨T,aq,e1⟩)⟩),e2⟩
   ·have Y:KW P y.op=true:=by
     rcases hk with(hk|hk)|hk
     ·grind
     ·grind
     ·exact hk
    obtain⟨ob,N,s1,rfl,rfl⟩:=XlK Y e1;obtain⟨t1,t2,t3⟩:=Xs4 h.rel ob;have a0:=h.tC.next;refine⟨(i,m.next)::J,_,_,g _ _ _ t1 (by have:=h.low;simp;omega) (t3 _ _ _ h.tC) (Xyh h.rel ob) ar (λ_ q=>gC _ q) ?_ ?_ (.inr ⟨R,.inr (.inr ⟨ob,N,m.next,s1,rfl,t2,pR,Nj,a0⟩)⟩),e2⟩
    ·intro p q o U e;rcases eF.1 o with rfl|o<;>rcases eF.1 U with rfl|U
     ·rfl
     ·have:=h.rD q U;grind
     ·have:=h.rD p o;grind
     ·exact h.yI p q o U e
    ·intro p o;rcases eF.1 o with rfl|o
     ·simp
     ·have:=h.rD p o;simp;omega
 ·rename_i R;exact⟨J,_,_,g undef m J h.rel h.low h.tC (λ_ _ q=>q) aY (λ_ q=>q) h.yI h.rD (.inl ⟨R,rfl⟩),M⟩
theorem Va{Y':Env}{Q:az}{G:aj}{w0:World}{I:Array Bool}{j:az}{a:Act}{w:World}(g:St n F b){k:Env->aj->Option Rs}{r:Rs} :
  ∀(is:List Nat)(done:List Nat) (d:List (Nat × Nat)) (E:Env) (m:aj),oW D P A n F b Y' Q G w0 done d I j E m a w->yk P F b done is=true->fX P n F is E m k=some r ->
   ∃e za1 S,oW D P A n F b Y' Q G w0 (is.reverse++done) e I j za1 S a w/\k za1 S=some r
 |[],done,d,E,m,h,_,l=>⟨d,E,m,h,l⟩
 |i::is,done,d,E,m,h,c,l=>by
  simp only[yk,bT]at c;obtain⟨⟨⟨⟨u,v⟩,x⟩,y⟩,z⟩:=c;have hi:i<F.size:=by simp[Nat.blt,eE]at u;omega
  obtain⟨f,p,B,s,o⟩:=Xr3 g h (by simpa using v) (Xdz g hi x) y l;obtain⟨q,C,J,H,t⟩:=Va g is _ f p B s z o
  grind
theorem Xv7{G:aj}{al:List (Nat × Nat)}{m:aj}{i8:Exit->Act->World->Prop}(hS:St n F b)(h:oW D P A n F b Y' Q G w0 done al I j E m a w)(hi:i∈done)(M:¬eP I i)(O:∀x,bit b i x=true->eP I x){K:Act->World->Prop}(hK:∀g a' Z,oW D P A n F b Y' Q G w0 done al (I.setIfInBounds i true) g E m a' Z->K a' Z):wpOp P F i8 i K a w:=by
 obtain⟨y,M',q,p2,V,v,p4,T⟩:=h.MR i hi M;have a3:=yT q;have c:i<I.size:=by rwa[h.yS]
 have p:=Gp.looks hS h q M O p2 V;have N:=Xco p (hS.dD i y q)
 have fin:∀(g:az)(cv:ae) (Z:World),Rel A.heap.size g m Z->Below A.heap.size A Z->aG g v cv->j.le g->bW Q G w0 g m Z->(∀o bk,(o,bk)∈al->o≠i->j bk=none->g bk=none)->K (a.put y.dst cv) Z:=by
  intro g cv Z q1 qb q2 q3 q4 q5;have tm:∀t,y.dst≠some t->(a.put y.dst cv).tmps.getD t undef=a.tmps.getD t undef:=by
   intro t r;cases hd:y.dst with
   |none=>rfl
   |some d =>have f:d≠t:=λe=>r (by rw[hd,e]);simp only[Act.put,tM];rw[XeT f]
  have td:∀d,y.dst=some d->(a.put y.dst cv).tmps.getD d undef=cv:=by intro d hd;rw[hd];have:=hS.Yk i y d q hd;simp only[Act.put,tM];rw[XeU (by rw[h.size];exact this)];rfl
  refine hK g _ Z ⟨h.MT,h.Me,q1,qb,by rw[KL];exact h.size,by rw[Ab.put_defers];exact h.defers,h.low,q4,by simp[h.yS],?_,?_,h.wA,?_,?_,h.old,?_,h.yI,h.rD⟩
  ·intro x k;rcases(lG c).1 k with rfl|k
   ·exact hi
   ·exact h.ld x k
  ·intro x g8 k hy;refine(lG c).2 ?_;rcases(lG c).1 k with rfl|k
   ·grind
   ·exact .inr (h.FG x g8 k hy)
  ·intro x ox t k l r;rcases(lG c).1 k with rfl|a4
   ·grind
   ·have f:y.dst≠some t:=λe=>by
     have:=hS.dst x i ox y t l q r e
     grind
    rw[tm t f];exact(h.Fz x ox t a4 l r).mono q3
  ·intro t r;have f:y.dst≠some t:=r i y ((lG c).2 (.inl rfl)) q;rw[tm t f];exact(h.qs t λx ox k l=>r x ox ((lG c).2 (.inr k)) l).mono q3
  ·intro o B H;have C:o≠i:=λe=>H ((lG c).2 (.inl e));have J:¬eP I o:=λe=>H ((lG c).2 (.inr e));obtain⟨oj,Gj,s1,s2,s3,u,s4,s⟩:=h.MR o B J;refine⟨oj,Gj,s1,s2,s3,u,s4,?_⟩;rcases s with s|⟨s,X|X|X⟩
   ·exact .inl s
   ·exact .inr ⟨s,.inl X⟩
   ·exact .inr ⟨s,.inr (.inl X)⟩
   ·obtain⟨ob,nv,bk,r1,r2,r3,r4,W,r6⟩:=X;exact .inr ⟨s,.inr (.inr ⟨ob,nv,bk,r1,r2,q5 o bk W C r3,r4,W,r6⟩)⟩
 unfold wpOp;simp only[q];rcases T with⟨T,rfl⟩|⟨T,U⟩
 ·rw[KB p T];simp only[dp,dV];exact fin j undef w h.rel h.below xR (.refl j) h.tC (λ_ _ _ _ e=>e)
 ·rw[KB p T];simp only[dW];refine .inl ?_;have a0:eI P (dD M') m y=some (v,m)->y.wp P a w K i8:=λhe=>by
   obtain⟨cv,Z,g,z,h2,h3,h4⟩:=Wh h.rel y N he;have L:=fin g cv Z h2 (Ky h.rel h.below h4) h3 h4.le (h.tC.trans h4) (λo bk B _ e=>(h4.un bk (h.rD _ B) e).1);unfold Oper.wp;rcases z with z|⟨rfl,z⟩
   ·rw[z];exact L
   ·rw[z];exact L
  rcases U with U|U|U
  ·grind
  ·grind
  ·obtain⟨ob,nv,bk,r1,r2,r3,r4,W,r6⟩:=U;obtain⟨cv,Z,pl,S,k2,k3,k4,k5⟩:=Xr0 h.rel y N r1 r3 r4 (h.rD _ W);have R:=k5 Q G w0 h.tC r6;have a2:=Ky h.MT h.Me R;have L:=fin _ cv Z k2 a2 aq k4 R (λo a1 B C e=>by
    have f:a1≠bk:=λe'=>by
     have:=h.yI _ _ B W e'
     grind
    rw[az.cN pl f];exact e)
   unfold Oper.wp;rcases S with S|⟨rfl,S⟩
   ·rw[S];exact L
   ·rw[S];exact L
theorem Xh6:∀{cs:List Nat} {E:Env} {m:aj},rp P F cs E m=true->∀i∈cs,∀y,F[i]?=some y->gR F E y≠none/\(gR F E y=some true->∃d u e,y.dst=some d/\eI P (dD E) m y=some (u,e)/\u=E d)
 |[],_,_,_,i,hi,_,_=>by cases hi
 |c::cs,E,m,h,i,hi,y,f=>by
  simp only[rp]at h;split at h
  ·cases h
  rename_i l a;unfold brc at h;have g:rp P F cs E m=true:=by
   split at h
   ·cases h
   ·grind
   ·exact h
  rcases eF.1 hi with rfl|hi
  ·rw[f]at a;cases a;split at h
   ·cases h
   ·rename_i k;refine⟨aq,λ_=>?_⟩;simp at h;have b:=h.1;split at b
    ·rename_i d hd;unfold again at b;split at b
     ·rename_i u e j;exact⟨d,u,e,hd,j,Xxb _ _ _ b⟩
     grind
    grind
   grind
  ·exact Xh6 g i hi y f
theorem Xvn(h:∀t∈Oper.looksAt F y,E t=za1 t):gR F E y=gR F za1 y:=by
 unfold gR;cases e:y.guard with
 |none=>rfl
 |some b =>
  obtain⟨a,c⟩:=b;simp only;cases hd:(F[a]?).bind (·.dst)with
  |none=>rfl
  |some d =>simp only;rw[h d Zo]
theorem Xuk(h:∀t∈Oper.looksAt F y,E t=za1 t):∀x∈y.op.operands.toList,dD E x=dD za1 x:=by
 intro x a;cases x with
 |tmp t=>exact h t Zo
 |const v=>rfl
 |global g=>rfl
 |func f=>rfl
theorem Xwy(hT:mg P A g){G:aj}{al:List (Nat × Nat)}{m:aj}{i8:Exit->Act->World->Prop}(R:St n F b)(h:oW D P A n F b Y' Q G w0 done al I j E m a w)(B:F[e]?=some y)(hn:e∉done)(a5:∀x,bit b e x=true->eP I x)(b3:∀x,bit b e x=true->x∈done)(ab:∀i∈done,Bc P F i=true->bit b e i=false->i∈cs)(a9:∀i∈cs,KY F b i=true){kk:Env->aj->Option Rs}{r:Rs}(hr:BP (gR F E y) (bp (ng P g (dD E) m y) λv m=>bif rp P F cs (put n E y.dst v) m then fX P n F es (put n E y.dst v) m kk else none)
   (fX P n F es (put n E y.dst undef) m kk)=some r){K:Act->World->Prop}(hK:∀L za1 S a' Z,oW D P A n F b Y' Q G w0 (e::done) al (I.setIfInBounds e true) L za1 S a' Z->fX P n F es za1 S kk=some r->K a' Z):wpOp P F i8 e K a w:=by
 have ac:¬eP I e:=λx=>hn (h.ld e x);have s:e<I.size:=by rw[h.yS];exact yT B
 have X:∀t∈Oper.looksAt F y,aG j (E t) (a.tmps.getD t undef):=by
  refine Gp.looks R h B ac a5 (λ_ _ _ _ _ _ _=>rfl) λt l N=>h.old t λx f k c hd=>?_;have z:x≠e:=λo=>hn (o▸k);rcases R.look e y t x f B l c hd z with q|q
  ·grind
  ·exact hn (h.wA x e k q)
 have an:=Xco X (R.dD e y B)
 have fin:∀(L:az)(v cv:ae) (S:aj) (Z:World),Rel A.heap.size L S Z->Below A.heap.size A Z->aG L v cv->bW j m w L S Z ->
   (∀i∈done,¬eP I i->∀C V u,F[i]?=some C->tq P C.op=true->sQ P C.op=false->(∀t∈Oper.looksAt F C,∀x f,F[x]?=some f->f.dst=some t->bit b i x=true->V t=E t) ->
    (∀t∈Oper.looksAt F C,(∀x f,F[x]?=some f->bit b i x=true->f.dst≠some t)->V t=Y' t)->gR F V C=some true->(∀d,C.dst=some d->E d=u)->eI P (dD V) m C=some (u,m)->eI P (dD V) S C=some (u,S)) ->
   fX P n F es (put n E y.dst v) S kk=some r->K (a.put y.dst cv) Z:=by
  intro L v cv S Z q1 qb q2 Y q4 q5;have oI:∀(x:Nat)(f:Oper) (t:Nat),x∈done->F[x]?=some f->f.dst=some t->put n E y.dst v t=E t:=by intro x f t k c l;refine vZ λo=>hn ?_;rw[R.dst e x y f t B c o l];exact k
  have tm:∀t,y.dst≠some t->(a.put y.dst cv).tmps.getD t undef=a.tmps.getD t undef:=by
   intro t l;cases hd:y.dst with
   |none=>rfl
   |some d =>have z:d≠t:=λo=>l aq;simp only[Act.put,tM];rw[XeT z]
  refine hK L _ S _ Z ⟨h.MT,h.Me,q1,qb,by rw[KL];exact h.size,by rw[Ab.put_defers];exact h.defers,aO Y.low (aO h.low Y.next),h.tC.trans Y,by simp[h.yS],?_,?_,?_,?_,?_,?_,?_,h.yI,λp hp=>dU (h.rD p hp) Y.next⟩ q5
  ·intro x k;rcases(lG s).1 k with rfl|k
   ·simp
   ·exact gC _ (h.ld x k)
  ·intro x o k hy;refine(lG s).2 ?_;rcases(lG s).1 k with rfl|k
   ·grind
   ·exact .inr (h.FG x o k hy)
  ·intro x o k hy;rcases eF.1 k with rfl|k
   ·grind
   ·exact gC _ (h.wA x o k hy)
  ·intro x f t k c l;rcases(lG s).1 k with rfl|av
   ·rw[B]at c;cases c;have a4:=R.Yk x y t B l;rw[l,Xpr a4];simp only[Act.put,tM];rwa[XeU (by rw[h.size];exact a4)]
   ·have z:y.dst≠some t:=λo=>by
     have:=R.dst x e f y t c B l o
     grind
    rw[tm t z,vZ z];exact(h.Fz x f t av c l).mono Y.le
  ·intro t l;have z:y.dst≠some t:=l e y ((lG s).2 (.inl rfl)) B;rw[tm t z];exact(h.qs t λx f k c=>l x f ((lG s).2 (.inr k)) c).mono Y.le
  ·intro t l;rw[vZ (l e y Nj B)];exact h.old t λx f k c=>l x f (gC _ k) c
  ·intro i6 hj a3;have b2:i6≠e:=λo=>a3 ((lG s).2 (.inl o));have T:¬eP I i6:=λo=>a3 ((lG s).2 (.inr o));have W:i6∈done:=by
    grind
   obtain⟨oj,Gj,s1,s2,s3,u,s4,U⟩:=h.MR i6 W T;refine⟨oj,Gj,s1,?_,s3,u,?_,?_⟩
   ·intro t l x f c hd hb;rw[oI x f t (h.wA i6 x W hb) c hd]
    grind
   ·grind
   ·rcases U with U|⟨U,J|J|J⟩
    ·exact .inl U
    ·exact .inr ⟨U,.inl ⟨J.1,(VA J.1 J.2).2 S⟩⟩
    ·exact .inr ⟨U,.inr (.inl ⟨J.1,J.2.1,q4 i6 W T oj Gj u s1 J.1 J.2.1 s2 s3 U s4 J.2.2⟩)⟩
    ·obtain⟨ob,nv,bk,r1,r2,r3,r4,r5,r6⟩:=J;obtain⟨y1,y2⟩:=Y.un bk (h.rD _ r5) r3;exact .inr ⟨U,.inr (.inr ⟨ob,nv,bk,r1,r2,y1,aq,r5,r6⟩)⟩
 unfold wpOp;simp only[B];unfold BP at hr;split at hr
 ·cases hr
 ·rename_i hg;rw[KB X hg];simp only[dW];obtain⟨v,S,e1,e2⟩:=Wt hr;refine .inl (Xou hT h.rel h.below y an e1 λcv Z M=>?_);obtain⟨L,t1,t2,t3⟩:=M;cases hc:rp P F cs (put n E y.dst v) S
  ·grind
  ·rw[hc]at e2;simp at e2;refine fin L v cv S Z t1 (Ky h.rel h.below t3) t2 t3 ?_ e2;intro i hid b1 C V u O a6 am l1 l0 ag hu b0;have a8:bit b e i=false:=by
    cases hb:bit b e i
    ·rfl
    ·grind
   have a2:=ab i hid (by simp[Bc,O,a6,am]) a8
   have H:∀t∈Oper.looksAt F C,put n E y.dst v t=V t:=by
    intro t l;have a1:=a9 i a2;simp only[KY,O,cL,zn]at a1;by_cases k:∃(x:Nat)(f:Oper),F[x]?=some f/\f.dst=some t
    ·obtain⟨x,f,c,hd⟩:=k;have h1:=a1 t l x (yT c);simp only[c,hd,bne_self_eq_false,Bool.false_or]at h1;rw[l1 t l x f c hd h1];have aw:=h.wA i x hid h1;refine vZ λo=>hn ?_;rwa[R.dst e x y f t B c o hd]
    ·have N:∀(x:Nat)(f:Oper),F[x]?=some f->f.dst≠some t:=λx f q1 q2=>k ⟨x,f,q1,q2⟩;rw[l0 t l (λx f q1 _=>N x f q1),vZ (N e y B)];exact h.old t λx f _ q=>N x f q
   obtain⟨_,k2⟩:=Xh6 hc i a2 C O;rw[Xvn H]at k2;obtain⟨d,u',m1,r1,r2,r3⟩:=k2 ag;rw[Xr5 (Xuk H)]at r2;have:=Xka a6 r2;subst this;have b4:put n E y.dst v d=E d:=by refine vZ λo=>hn ?_;rw[R.dst e i y C d B O o r1];exact hid
   grind
 ·rename_i hg;rw[KB X hg];simp only[dp,dV];exact fin j _ _ m w h.rel h.below xR (.refl _ _ _) (λ_ _ _ _ _ _ _ _ _ _ _ _ _ e=>e) hr
section
variable {P:Program}{A:World}{g:fo}{n:Nat}{F:Array Oper}{b:List Nat}
def qo(N:Nat)(I:Array Bool):Nat:=(List.range N).countP λi=>!I.getD i false
theorem Xll{p q:Nat->Bool}:∀{l:List Nat},(∀x∈l,q x=true->p x=true)->(∃x∈l,p x=true/\q x=false)->l.countP q<l.countP p
 |[],_,h=>aq
 |a::l,c,d=>by
  have e:=List.countP_mono_left λx b=>c x (gC _ b);rw[List.countP_cons,List.countP_cons];by_cases j:p a=true/\q a=false
  ·grind
  ·obtain⟨x,b,f,g⟩:=d;rcases eF.1 b with rfl|b
   ·grind
   ·have k:=Xll (λg8 i=>c g8 (gC _ i)) ⟨x,b,f,g⟩
    grind
theorem XhO(c:I.size=N)(hi:i<N)(hn:¬eP I i):qo N (I.setIfInBounds i true)<qo N I:=by
 unfold qo;refine Xll (λx _ b=>?_) ⟨i,zn.2 hi,?_,?_⟩
 ·simp only[Bool.not_eq_true']at b|-;cases a:I.getD x false
  ·rfl
  ·have:eP (I.setIfInBounds i _) x:=(lG aa).2 (.inr a);unfold eP at this
   grind
 ·unfold eP at hn
  grind
 simp_all
theorem Xp6:∀{ph:List (Nat × List Nat × List Nat)} {done:List Nat},qz P F b done ph=true->∀i,i<F.size->i∈done\/i∈wh ph
 |[],done,h,i,hi=>by simp only[qz,cL]at h;simp_all
 |(e,cs,es)::r,done,h,i,hi=>by
  simp only[qz,bT]at h;rcases Xp6 h.2 i hi with q|q
  ·rcases nH.1 q with q|q
   ·exact .inr (by grind[wh,List.mem_cons_of_mem,List.mem_append_left,List.mem_reverse.1])
   ·rcases eF.1 q with rfl|q
    ·exact .inr (by simp[wh])
    grind
  ·exact .inr (by grind[wh,List.mem_cons_of_mem,List.mem_append_right])
theorem XkU(c:St n F b):∀(k i x:Nat),i<=k->bit b i x=true->x<i:=by
 intro k
 induction k with
 |zero =>intro i x hi a;obtain⟨y,_,e,_,_,d,_⟩:=c.lj i x a;omega
 |succ k g =>
  intro i x hi a;obtain⟨y,_,e,_,_,d,f⟩:=c.lj i x a
  grind
theorem Xkl(d:St n F b)(m:I.size=F.size)(h:Region.ready .any F I=[]):∀i,i<F.size->eP I i:=by
 intro i
 induction i using Nat.strongRecOn with
 |ind i k =>
  intro hi;cases l:I.getD i false
  ·exfalso;have f:i∈Region.ready .any F I:=by
    rw[mem_ready];refine⟨?_,F[i],by simp[],λe j g=>?_⟩
    ·grind
    ·have a:=d.edg i _ (by simp[hi]) e j g;have c:=XkU d i i _ aY a;exact k _ c aa
   grind
  trivial
theorem XoF(hT:mg P A g)(B:St n F b){G:aj}{i8:Exit->Act->World->Prop}{k:Env->aj->Option Rs}{r:Rs}(hQ:∀j E m a w,eS D A n j E m a w->bW Q G w0 j m w->k E m=some r->i8 .normal a w) :
  ∀(d:Nat)(I:Array Bool) (done:List Nat) (s:List (Nat × Nat)) (j:az) (E:Env) (m:aj) (a:Act) (w:World) (ph:List (Nat × List Nat × List Nat)),
   oW D P A n F b Y' Q G w0 done s I j E m a w->qz P F b done ph=true->ot P g n F ph E m k=some r->qo F.size I<=d->wpAny P .any F i8 d I a w:=by
 have fin:∀(I:Array Bool)(done:List Nat) (s:List (Nat × Nat)) (j:az) (E:Env) (m:aj) (a:Act) (w:World) (ph:List (Nat × List Nat × List Nat)),
   oW D P A n F b Y' Q G w0 done s I j E m a w->qz P F b done ph=true->ot P g n F ph E m k=some r->(∀i,i<F.size->eP I i)->i8 .normal a w:=by
  intro I done s j E m a w ph h c u f;cases ph with
  |cons p ph =>
   obtain⟨e,cs,es⟩:=p;simp only[qz,bT]at c;obtain⟨⟨⟨⟨⟨⟨⟨Y,k2⟩,_⟩,_⟩,_⟩,_⟩,_⟩,_⟩:=c;have C:e<F.size:=by simp[Nat.blt,eE]at Y;omega
   have:=h.ld e (f e C)
   grind
  |nil =>
   simp only[ot]at u;refine hQ j E m a w ⟨h.rel,h.below,λt=>?_,h.size,h.defers,h.low⟩ h.tC u;by_cases O:∃(x:Nat)(y:Oper),F[x]?=some y/\y.dst=some t
   ·obtain⟨x,y,v,hd⟩:=O;exact h.Fz x y t (f x (yT v)) v hd
   ·have L:∀(x:Nat)(y:Oper),F[x]?=some y->y.dst≠some t:=λx y q1 q2=>O ⟨x,y,q1,q2⟩;rw[h.old t λx y _ q=>L x y q];exact h.qs t λx y _ q=>L x y q
 intro d
 induction d with
 |zero =>
  intro I done s j E m a w ph h c u U;have f:∀i,i<F.size->eP _ i:=λi hi=>by unfold qo at U;have h0:=Nat.le_zero.1 U;rw[List.countP_eq_zero]at h0;have:=h0 i (zn.2 hi);simpa[eP]using this
  refine⟨?_,fin _ _ s j E m a w ph h c u f⟩;cases N:Region.ready .any F I with
  |nil=>rfl
  |cons i l =>
   exfalso;have hi:i∈Region.ready .any F I:=aq;obtain⟨q1,y,q2,_⟩:=mem_ready.1 hi;have:=f i (yT q2);unfold eP at this
   grind
 |succ d ih =>
  intro I done s j E m a w ph h c u U;refine⟨λN=>fin _ _ s j E m a w ph h c u (Xkl B h.yS N),λi hi=>?_⟩;obtain⟨q1,y,v,q3⟩:=mem_ready.1 hi;have H:=yT v;have K:¬eP I i:=λhl=>by
   unfold eP at hl
   grind
  have o:∀x,bit b i x=true->eP _ x:=λx O=>by
   obtain⟨o',M,e,C,hb,_,T⟩:=B.lj i x O;rw[v]at M;cases M;have J:eP I e.on:=q3 e C hb;rcases T with rfl|T
   ·exact J
   ·exact h.FG e.on x J T
  have a1:=XhO h.yS H K;by_cases hid:i∈done
  ·exact Xv7 B h hid K o λH1 a' Z R=>ih _ _ s H1 E m a' Z ph R c u aa
  ·rcases Xp6 c i H with q|q
   ·grind
   cases ph with
   |nil=>trivial
   |cons p ph =>
    obtain⟨e,cs,es⟩:=p;have z:=c;simp only[qz,bT]at z;obtain⟨⟨⟨⟨⟨⟨⟨Y,k2⟩,k3⟩,k4⟩,k5⟩,k6⟩,k7⟩,k8⟩:=z;have C:e<F.size:=by simp[Nat.blt,eE]at Y;omega
    have W:e∉done:=by simpa using k2
    have V:i=e:=by
     simp only[wh]at q;rcases eF.1 q with q|q
     ·exact q
     ·exfalso;rw[cL]at k4;exact W (h.ld e (o e (k4 i q)))
    subst V;have a3:=v;rw[Xqd v]at u;refine Xwy hT B h v hid o (Xdz B C k3) (λi6 hj hn hb=>?_) (λi6 hj=>cL.1 k6 i6 hj) u ?_
    ·grind
    ·intro H1 a0 S a' Z R X;obtain⟨a2,a6,m2,h2,a4⟩:=Va B es _ s a0 S R k7 X
     grind
theorem XiJ(N:Nat):qo N (Array.replicate N false)<=N:=by
 unfold qo;have:=List.countP_le_length (p:=λi=>!(Array.replicate N false).getD i false) (l:=List.range N)
 grind
theorem Xqu(g:St n F b){m:aj}(d:eS D A n j E m a w):oW D P A n F b E j m w [] [] (Array.replicate F.size false) j E m a { w with drawn:=w.drawn+1 }:=by
 have c:∀i,¬eP (Array.replicate F.size false) i:=λi hi=>by unfold eP at hi;simp only[tM,Array.getElem?_replicate]at hi;split at hi<;>simp at hi
 refine⟨d.rel,d.below,d.rel.of_heap rfl,⟨d.below.os,d.below.tape,d.below.output,d.below.size,d.below.block⟩,d.size,d.defers,d.low,(bW.refl j m w).of_heap rfl rfl rfl rfl rfl rfl rfl rfl,ar,λi hi=>absurd hi (c i),λi x hi=>absurd hi (c i),(λi x hi=>nomatch hi),λx y t f=>absurd f (c x),λt _=>d.env t,λt _=>rfl,(λi hi=>nomatch hi),(λp q e=>nomatch e),(λp e=>nomatch e)⟩
theorem Xyr(v:P.follows .mixedOrders=true)(hT:mg P A g)(d:St n F b){s:Km}(c:LN P F b s=true){m:aj}{k:Env->aj->Option Rs}{r:Rs}{i8:Exit->Act->World->Prop}(u:eS D A n j E m a w)(l:UM P g n F s E m k=some r)(t:∀h za1 S i Z,eS D A n h za1 S i Z->bW j m w h S Z->k za1 S=some r->i8 .normal i Z):(Code.region id F true).wp P i8 a w:=by refine wp_region_any v ?_;unfold LN at c;simp at c;have p:=Xqu (P:=P) (F:=F) (b:=b) d u;unfold UM at l;obtain⟨o,f,x,q,e⟩:=Va d s.e0 [] [] E m p c.1 l;exact XoF hT d t _ _ _ o j f x a _ _ q (by simpa using c.2) e (XiJ _)
end
def force{a:Type}(n:Nat)(f:Nat->a):a:=match n with|0=>f 0|k+1=>f (k+1)
theorem force_eq{a:Type}(n:Nat)(f:Nat->a):force n f=f n:=by cases n<;>rfl
def uP(i:Nat)(acc:List Nat):List Edge->Nat->Nat
 |[],s=>s
 |e::r,s=>bif Region.binds .any e then uP i acc r (s ||| 2^e.on ||| acc.getD (i-1-e.on) 0)else uP i acc r s
def BG:List Oper->Nat->List Nat->List Nat
 |[],_,a=>a
 |y::os,i,a=>force (uP i a y.after.toList 0) λr=>BG os (i+1) (r::a)
def rowsOf(F:Array Oper):List Nat:=(BG F.toList 0 []).reverse
theorem VS(i:Nat)(a:List Nat)(x:Nat):∀(l:List Edge)(s:Nat),(uP i a l s).testBit x=true↔s.testBit x=true\/∃e∈l,Region.binds .any e=true/\(e.on=x\/(a.getD (i-1-e.on) 0).testBit x=true)
 |[],s=>by simp[uP]
 |e::r,s=>by
  simp only[uP];cases b:Region.binds .any e
  ·simp only[cond_false];rw[VS i a x r s];simp[b]
  ·simp only[cond_true];rw[VS i a x r _];simp only[Nat.testBit_or,Nf,Nat.testBit_two_pow,gq,eF,exists_eq_or_imp,b,true_and];constructor
   ·rintro ((h|h)|h)
    ·grind
    ·grind
    grind
   ·rintro (h|(h|h)|h)
    ·grind
    ·omega
    ·grind
    grind
theorem Vc:∀(os:List Oper)(i:Nat) (a:List Nat),a.length=i->∃l,BG os i a=l++a/\l.length=os.length /\
  ∀b y,os[b]?=some y->(BG os i a).reverse.getD (i+b) 0=uP (i+b) (((BG os i a).reverse.take (i+b)).reverse) y.after.toList 0
 |[],i,a,h=>⟨[],bY,rfl,λb y d=>aq⟩
 |y::os,i,a,h=>by
  simp only[BG,force_eq];obtain⟨l,e,c,f⟩:=Vc os (i+1) (uP i a y.after.toList 0::a) (by simp[h]);refine⟨l++[uP i a y.after.toList 0],aq,by simp[c],λb p d=>?_⟩;cases b with
  |succ b =>grind
  |zero =>simp_all
theorem UR(F:Array Oper):(rowsOf F).length=F.size:=by
 obtain⟨l,a,b,_⟩:=Vc F.toList 0 [] rfl;unfold rowsOf
 grind
theorem Xey{F:Array Oper}(k:F[i]?=some y)(d:∀e∈y.after,Region.binds .any e=true->e.on<i)(x:Nat) :
  bit (rowsOf F) i x=true↔∃e∈y.after,Region.binds .any e=true/\(e.on=x\/bit (rowsOf F) e.on x=true):=by
 obtain⟨l,_,_,j⟩:=Vc F.toList 0 [] rfl;have h:=j i y aq;simp only[aQ]at h;have hi:=yT k;unfold bit;rw[show(rowsOf F).getD i 0=_ from h,VS];simp only[Nat.zero_testBit,dp,false_or];constructor
 ·rintro ⟨e,g,b,a⟩
  have f:=d e aq b;refine⟨e,aq,b,?_⟩;rcases a with a|a
  ·omega
  ·right;have c:((rowsOf F).take i).length=i:=by rw[kl,UR];omega
   change ((List.take i (rowsOf F)).reverse.getD _ 0).testBit x=true at a
   grind
 ·rintro ⟨e,g,b,a⟩
  have f:=d e g b;refine⟨e,aq,b,?_⟩;rcases a with a|a
  ·omega
  ·right;have c:((rowsOf F).take i).length=i:=by rw[kl,UR];omega
   change ((List.take i (rowsOf F)).reverse.getD _ 0).testBit x=true
   grind
def pH:List Oper->Nat->List (Nat × Nat)
 |[],_=>[]
 |y::r,i=>match y.dst with|some d=>(d,i)::pH r (i+1)|none=>pH r (i+1)
def Fp:List (Nat × Nat)->Nat->Option Nat
 |[],_=>none
 |(d,i)::r,t=>bif Nat.beq d t then some i else Fp r t
def vW:List (Nat × Nat)->Bool
 |[]=>true
 |(d,_)::r=>(r.all λp=>!Nat.beq p.1 d)&&vW r
theorem VV:∀(l:List Oper)(i d x:Nat),(d,x)∈pH l i↔∃a y,l[a]?=some y/\y.dst=some d/\x=i+a
 |[],i,d,x=>by simp[pH]
 |y::r,i,d,x=>by
  simp only[pH];have c:=VV r (i+1) d x;cases h:y.dst with
  |none =>
   simp only;rw[c];constructor
   ·rintro ⟨a,p,e,b,f⟩
    exact⟨a+1,p,aq,b,aa⟩
   grind
  |some g =>
   simp;rw[c];constructor
   ·rintro (⟨rfl,rfl⟩|⟨a,p,e,b,f⟩)
    ·grind
    ·exact⟨a+1,p,aq,b,aa⟩
   grind
theorem Xfd:∀{l:List (Nat × Nat)},vW l=true->∀d x g8,(d,x)∈l->(d,g8)∈l->x=g8
 |[],_,d,x,g8,h,_=>by cases h
 |(a,i)::r,hn,d,x,g8,h,k=>by
  simp only[vW,bT,cL]at hn;rcases eF.1 h with h|h<;>rcases eF.1 k with k|k
  ·grind
  ·cases h;have:=hn.1 _ k;simp_all
  ·cases k;have:=hn.1 _ h;simp_all
  ·exact Xfd hn.2 d x g8 h k
theorem Vi:∀{l:List (Nat × Nat)} {t x:Nat},vW l=true->(t,x)∈l->Fp l t=some x
 |[],t,x,_,h=>by cases h
 |(d,i)::r,t,x,hn,h=>by
  simp only[Fp];simp only[vW,bT,cL]at hn;rcases eF.1 h with h|h
  ·simp_all
  ·have:=hn.1 _ h;simp at this;have a:Nat.beq d t=false:=by
    cases b:Nat.beq d t
    ·rfl
    ·simp_all
   rw[a];exact Vi hn.2 h
def yE(n:Nat)(F:Array Oper)(a:List Nat)(b:List (Nat × Nat))(i:Nat)(y:Oper):Bool:=
 (y.after.toList.all λe=>!Region.binds .any e||Nat.blt e.on i)&&y.op.operands.toList.all Fg&&(match y.dst with|some d=>Nat.blt d n|none=>true) &&
  (Oper.looksAt F y).all λt=>match Fp b t with|none=>true|some w=>Nat.beq w i||bit a i w||bit a w i
def LY(n:Nat)(F:Array Oper)(a:List Nat)(b:List (Nat × Nat)):List Oper->Nat->Bool
 |[],_=>true
 |y::r,i=>yE n F a b i y&&LY n F a b r (i+1)
def LO(n:Nat)(F:Array Oper):Bool:=vW (pH F.toList 0)&&LY n F (rowsOf F) (pH F.toList 0) F.toList 0
theorem Xhm{n:Nat}{F:Array Oper}{b:List Nat}{c:List (Nat × Nat)}:∀{l:List Oper} {i:Nat},LY n F b c l i=true->∀a y,l[a]?=some y->yE n F b c (i+a) y=true
 |[],i,_,a,y,d=>aq
 |p::r,i,h,a,y,d=>by
  simp only[LY,bT]at h;cases a with
  |zero=>grind
  |succ a =>
   have:=Xhm h.2 a y aq
   grind
theorem Xq2{n:Nat}{F:Array Oper}(h:LO n F=true):St n F (rowsOf F):=by
 unfold LO at h;simp at h;obtain⟨m,r⟩:=h;have one:∀i y,F[i]?=some y->yE n F (rowsOf F) (pH F.toList 0) i y=true:=λi y a=>by have:=Xhm r i y aq;rwa[aQ]at this
 have b:∀i y d,F[i]?=some y->y.dst=some d->(d,i)∈pH F.toList 0:=λi y d a hd=>(VV _ _ _ _).2 ⟨i,y,by simpa using a,hd,aa⟩;have c:∀i y,F[i]?=some y->∀e∈y.after,Region.binds .any e=true->e.on<i:=λi y a e g f=>by have:=one i y a;simp only[yE,bT,cL]at this;have:=this.1.1.1 e (by simpa using g);rw[f]at this;simp only[iQ,Bool.false_or,Nat.blt,eE]at this;omega
 refine⟨λi x j=>?_,λi y a e g f=>(Xey a (c i y a) e.on).2 ⟨e,g,f,.inl rfl⟩,λi o y p d hi s hd k=>Xfd m d i o (b i y d hi hd) (b o p d s k),λi y d a hd=>?_,λi y t x w a v l hd u=>?_,λi y a=>?_⟩
 ·have hi:i<F.size:=by
   rcases lT i F.size with q|q
   ·exact q
   ·unfold bit at j;rw[List.getD_eq_getElem?_getD,zk (by rwa[UR])]at j;simp at j
  have a:F[i]?=some F[i]:=by simp[hi]
  obtain⟨e,g,f,z⟩:=(Xey a (c i _ a) x).1 j
  grind
 ·have:=one i y a;simp only[yE,bT,hd]at this;simp_all
 ·have:=one i y a;simp only[yE,bT,cL]at this;have:=this.2 t v;rw[Vi m (b x w t l hd)]at this;simp_all
 ·have:=one i y a;simp only[yE,bT]at this
  grind
def MX(a d:Nat):Bool:=Nat.beq (Nat.land a d) a
theorem Xkn{a:Nat}(h:MX a d=true)(x:Nat)(b:a.testBit x=true):d.testBit x=true:=by
 unfold MX at h;have h:=wM h;change a &&& d=a at h
 grind
def yh(P:Program)(F:Array Oper)(a:List Nat):Nat->List Nat->Bool
 |_,[]=>true
 |D,i::is=>Nat.blt i F.size&&!D.testBit i&&MX (a.getD i 0) D&&kindOk P F i&&yh P F a (D ||| 2^i) is
def Fq(D:Nat):List Nat->Nat
 |[]=>D
 |i::is=>Fq (D ||| 2^i) is
def Xp4(F:Array Oper)(a:List Nat)(b:List (Nat × Nat))(i:Nat):Bool:=match F[i]? with
 |some y=>(Oper.looksAt F y).all λt=>match Fp b t with|none=>true|some w=>bit a i w
 |none=>false
def Fo(P:Program)(F:Array Oper)(b:List Nat)(c:List (Nat × Nat))(a:List Nat):Nat->List (Nat × List Nat × List Nat)->Bool
 |D,[]=>(List.range F.size).all λi=>D.testBit i
 | D,(e,cs,es)::r=>Nat.blt e F.size&&!D.testBit e&&MX (b.getD e 0) D&&((es++wh r).all λi=>bit b i e) &&
   (a.all λi=>!D.testBit i||bit b e i||cs.contains i)&&(cs.all λi=>Xp4 F b c i)&&yh P F b (D ||| 2^e) es&&force (Fq (D ||| 2^e) es) λD=>Fo P F b c a D r
def WG(P:Program)(F:Array Oper):List Nat:=(List.range F.size).filter λi=>Bc P F i
theorem U5{P:Program}{F:Array Oper}:∀{is:List Nat} {D:Nat} {done:List Nat},(∀x,D.testBit x=true↔x∈done)->yh P F (rowsOf F) D is=true ->
  yk P F (rowsOf F) done is=true/\∀x,(Fq D is).testBit x=true↔x∈is.reverse++done
 |[],D,done,b,_=>⟨rfl,by assumption⟩
 |i::is,D,done,b,h=>by
  simp only[yh,bT]at h;obtain⟨⟨⟨⟨d,l⟩,e⟩,f⟩,g⟩:=h;have a:∀x,(D ||| 2^i).testBit x=true↔x∈i::done:=λx=>by grind
  obtain⟨j,k⟩:=U5 a g;refine⟨?_,λx=>by rw[Fq,k];simp⟩;simp only[yk,bT];refine⟨⟨⟨⟨d,?_⟩,?_⟩,f⟩,j⟩
  ·grind
  ·unfold Bb;rw[cL];intro x _;cases c:bit (rowsOf F) i x
   ·rfl
   ·have:=(b x).1 (Xkn e x c)
    grind
theorem Xnx{P:Program}{F:Array Oper}{n:Nat}(q:St n F (rowsOf F))(j:vW (pH F.toList 0)=true):∀{ph:List (Nat × List Nat × List Nat)} {D:Nat} {done:List Nat},(∀x,D.testBit x=true↔x∈done)->(∀x∈done,x<F.size) ->
  Fo P F (rowsOf F) (pH F.toList 0) (WG P F) D ph=true->qz P F (rowsOf F) done ph=true
 |[],D,done,f,_,h=>by
  simp only[Fo,qz,cL]at h|-
  grind
 |(e,cs,es)::r,D,done,f,w,h=>by
  simp only[Fo,bT,force_eq]at h;obtain⟨⟨⟨⟨⟨⟨⟨A,M⟩,B⟩,C⟩,k⟩,l⟩,m⟩,E⟩:=h;have c:∀x,(D ||| 2^e).testBit x=true↔x∈e::done:=λx=>by grind
  obtain⟨G,H⟩:=U5 c m;have J:e<F.size:=oU;have u:∀x∈es,x<F.size:=by
   have key:∀(is:List Nat)(D:Nat),yh P F (rowsOf F) D is=true->∀x∈is,x<F.size:=by
    intro is
    induction is with
    |nil=>simp
    |cons i is L =>
     intro D v x a;simp only[yh,bT]at v;rcases eF.1 a with rfl|a
     ·simp_all
     grind
   exact key es _ m
  have b:∀x∈es.reverse++e::done,x<F.size:=λx a=>by grind
  have I:=Xnx q j H b E;simp only[qz,bT];refine⟨⟨⟨⟨⟨⟨⟨A,?_⟩,?_⟩,C⟩,?_⟩,?_⟩,G⟩,I⟩
  ·grind
  ·unfold Bb;rw[cL];intro x _;cases s:bit (rowsOf F) e x
   ·rfl
   ·have:=(f x).1 (Xkn B x s)
    grind
  ·rw[cL]at k|-;intro x a;cases hn:Bc P F x
   ·rfl
   ·have:=k x (by unfold WG;grind)
    grind
  ·rw[cL]at l|-;intro x a;have:=l x a;unfold Xp4 at this;unfold KY;cases g:F[x]? with
   |none=>rw[g]at this;trivial
   |some y =>
    rw[g]at this;simp at this|-;intro t z g8 K;have p:=this t z;cases d:F[g8]? with
    |none=>rfl
    |some o =>
     simp only;by_cases hd:o.dst=some t
     ·rw[Vi j ((VV _ 0 t g8).2 ⟨g8,o,by simpa using d,hd,(aQ g8).symm⟩)]at p
      grind
     grind
def Yl(b:List Nat)(a:List Nat)(i:Nat):Nat:=a.countP λe=>bit b i e
def XbJ(P:Program)(F:Array Oper)(b:List Nat)(c a:List Nat):List Nat->Nat->List (Nat × List Nat × List Nat)
 |[],_=>[]
 |e::r,d=>(e,c.filter (λi=>Bc P F i&&Nat.blt (Yl b a i) d&&!bit b e i),c.filter (λi=>kindOk P F i&&Nat.beq (Yl b a i) d))::XbJ P F b c a r (d+1)
def yD(P:Program)(F:Array Oper)(b:List Nat):Km:=
 let c:=List.range F.size;let a:=c.filter λi=>!kindOk P F i
 { e0:=c.filter (λi=>kindOk P F i&&Nat.beq (Yl b a i) 0),ph:=XbJ P F b c a a 1 }
def MN(P:Program)(n:Nat)(F:Array Oper):Bool:=
 LO n F&&yh P F (rowsOf F) 0 (yD P F (rowsOf F)).e0&&Fo P F (rowsOf F) (pH F.toList 0) (WG P F) (Fq 0 (yD P F (rowsOf F)).e0) (yD P F (rowsOf F)).ph
theorem Xuz{P:Program}{n:Nat}{F:Array Oper}(h:MN P n F=true):St n F (rowsOf F)/\LN P F (rowsOf F) (yD P F (rowsOf F))=true:=by
 unfold MN at h;simp at h;obtain⟨⟨a,d⟩,e⟩:=h;have c:=Xq2 a;have f:vW (pH F.toList 0)=true:=by unfold LO at a;simp only[bT]at a;exact a.1
 obtain⟨j,i⟩:=U5 (done:=[]) (λx=>ar) d;have b:∀x∈(yD P F (rowsOf F)).e0.reverse++[],x<F.size:=λx g=>by simp only[lC,List.mem_reverse,yD,List.mem_filter,zn]at g;omega
 have k:=Xnx c f i b e;refine⟨c,?_⟩;unfold LN
 grind
def px(P:Program)(g:fo)(n:Nat):rz:=λF E m k=>match MN P n F with
 |true=>UM P g n F (yD P F (rowsOf F)) E m k
 |false=>none
theorem XgI{P:Program}(h:P.follows .mixedOrders=true){A:World}{g:fo}(hT:mg P A g)(n:Nat):Wo P A n (px P g n):=by
 intro D id F j E m a w k r i f hd e;unfold px at hd;cases b:MN P n F
 ·grind
 ·rw[b]at hd;simp only at hd;obtain⟨c,d⟩:=Xuz b;exact Xyr h hT c d f hd e
theorem XsB{P:Program}(a:P.follows .mixedOrders=true){A:World}{g:fo}(hT:mg P A g):mg P A (Lg P R (px P) g):=Xqm hT λn=>XgI a hT n
end Go.Ab
end
