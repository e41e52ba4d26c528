/-
  An evaluator over abstract memories, and that what it answers the machine answers. No conditions.
-/
import Derived.Test.YtodhdplpcelokaaGreatDoorAb1
import Derived.IntWalk
import Derived.Lib.ConvBytes
import Derived.Laws.BytesString
import Derived.Lib.Builder
import Derived.Laws.StructEq
import Derived.ChangeKeysEq
import Derived.Lib.UnsafeStr

set_option linter.all false
set_option maxRecDepth 100000
noncomputable section
namespace Go.Ab
abbrev aj:=Mem
def Bo(v:ae):Bool:=
 match v with
 |.bool _|.int _ _|.float _ _|.string _|.pointer none|.slice none 0 0|.map none|.nilFunc|.nilIface=>true
 |.func (.func _) ⟨[]⟩ ⟨[]⟩=>true
 |_=>false
def qg(v:ae):Bool:=
 match v with
 |.agg cs=>cs.toList.all Bo
 |.tuple cs=>cs.toList.all Bo
 |v=>Bo v
theorem Xgt{j:az}{v:ae}(h:Bo v=true):aG j v v:=by
 unfold Bo at h;split at h<;>first|(constructor;done)|(cases h;done)|skip
 exact .func _ _ _ _ _ .nil .nil
theorem Vb{j:az}:∀{l:List ae},l.all Bo=true->bu j l l
 |[],_=>.nil
 |v::l,h=>by simp only[km,bT]at h;exact .cons v v l l (Xgt h.1) (Vb h.2)
theorem qX{j:az}{v:ae}(h:qg v=true):aG j v v:=by
 unfold qg at h;split at h
 ·exact .agg _ _ (Vb h)
 ·exact .tuple _ _ (Vb h)
 ·exact Xgt h
theorem sH{j:az}{v cv:ae}(h:aG j v cv):bu j v.cells.toList cv.cells.toList:=by
 cases h with
 |agg a b h=>exact h
 |_=>exact .cons _ _ _ _ (by first|assumption|(constructor<;>assumption)|constructor) .nil
theorem KH{P:Program}{t:TypeId}{d:TypeDesc}(h:P.underlying t=some d)(w:World):(isAgg t).run P w=.ok (rj d) w:=by simp only[isAgg,Sem.run_bind,run_underlying h,Result.andThen_ok];cases d<;>rfl
theorem run_sizeOf{P:Program}{t:TypeId}{i:TypeInfo}(h:P.info? t=some i)(w:World):(sizeOf t).run P w=.ok i.size w:=by simp[sizeOf,typeInfo,h]
theorem AU{P:Program}{t:TypeId}{i:TypeInfo}{z:ae}(h:P.info? t=some i)(a:i.zero=some z)(w:World):(zeroValue t).run P w=.ok z w:=by simp[zeroValue,typeInfo,h,a]
theorem Xoq{P:Program}{s:Nat}{j:az}{m:aj}{w:World}(h:Rel s j m w){x n v:ae}(E:aG j x n){t:TypeId}{i:TypeInfo}{d:TypeDesc}(hi:P.info? t=some i)(hd:P.underlying t=some d)
  (c:X9 (rj d) i.size x m=some v):∃cv,(Instr.loadAt t n).run P w=.ok cv w/\aG j v cv:=by
 cases E with
 |ptr b y r B O pl z C A =>
  have e:aG j _ _:=.ptr b y r B O pl z C A;rw[EB]at c;unfold Bn at c;simp only at c;split at c
  ·rename_i a;split at c
   ·rename_i cs g;cases c;obtain⟨f,o,p,l⟩:=AV h e g;refine⟨.agg f.toArray,?_,.agg _ _ aa⟩;have k:=run_loadCells_list (P:=P) w _ f l;rw[p]at k;simp[Instr.loadAt,Instr.sureAddr,loadVar,KH hd,a,run_sizeOf hi,k]
   grind
  ·rename_i a;split at c
   ·rename_i u g;cases c;obtain⟨f,o,p,l⟩:=AV h e g;cases o with
    |cons _ q _ F D k =>
    have:=l 0 q rfl;refine⟨q,?_,D⟩;simp[Instr.loadAt,Instr.sureAddr,loadVar,KH hd,a];rw[Addr.rC]at this;simp at this;simp[this]
   grind
 |_=>trivial
theorem Xuh{P:Program}{d:Nat}{j:az}{m S:aj}{w:World}(h:Rel d j m w){x e v cv:ae}(p:aG j x e)(o:aG j v cv){t:TypeId}{i:TypeInfo}(hi:P.info? t=some i)
  (a:Xe i.size x v m=some S):∃Z c,(Instr.storeAt t e cv).run P w=.ok () Z/\Rel d c S Z/\bW j m w c S Z:=by
 cases p with
 |ptr b y r B O pl g n l =>
  rw[Xlo]at a;unfold Lq at a;simp only at a;split at a
  ·rename_i z;have f:=sH o;obtain⟨Z,c,q,s,u,_⟩:=Xnh (P:=P) h (.ptr b y r B O pl g n l) f a;refine⟨Z,c,?_,s,u⟩;have k:cv.cells.size=i.size:=by
    grind[f.length]
   simp[Instr.storeAt,Instr.sureAddr,storeVar,run_sizeOf hi,k,q]
  grind
 |_=>trivial
theorem Xsv{c:Nat}{j:az}{m:aj}{w:World}(h:Rel c j m w)(ty:TypeId){cs:List ae}{C:Array ae}(b:bu j cs C.toList) :
  ∃a,Rel c a (kY ty cs m).2 (w.alloc (.cells C ty))/\aG a (kY ty cs m).1 (.pointer (some ⟨w.heap.size,0,none⟩))/\bW j m w a (kY ty cs m).2 (w.alloc (.cells C ty)):=by
 obtain⟨a,e,f,g⟩:=Xnu (w1:=w.alloc _) h ty cs _ b C (λi v k=>aq) (some (2*ty+1)) (λt d=>by cases d;exact⟨aq,λ_=>by simp[b.length],trivial⟩) rfl rfl rfl rfl;exact⟨a,f,.ptr _ _ _ _ _ _ e ar (λ_=>⟨rfl,ar,ar⟩),g⟩
theorem Xq1{P:Program}(t:TypeId)(v:ae)(w:World):(newVar t v).run P w=.ok ⟨w.heap.size,0,none⟩ (w.alloc (.cells v.cells t)):=by rfl
theorem Xwl{P:Program}{b:Nat}{j:az}{m:aj}{w:World}(h:Rel b j m w){t:TypeId}{i:TypeInfo}{z:ae}(hi:P.info? t=some i)(d:i.zero=some z)(c:qg z=true) :
  ∃cv Z a,(Instr.alloc t true (.tuple #[])).run P w=.ok cv Z/\Rel b a (kY t z.cells.toList m).2 Z/\aG a (kY t z.cells.toList m).1 cv/\bW j m w a (kY t z.cells.toList m).2 Z:=by
 obtain⟨a,e,f,g⟩:=Xsv h t (sH (qX c));exact⟨_,_,a,by simp[Instr.alloc,AU hi d,Xq1],e,f,g⟩
theorem XiS{P:Program}{b:Nat}{j:az}{m:aj}{w:World}(h:Rel b j m w){t:TypeId}{v cv:ae}(d:aG j v cv) :
  ∃c Z a,(Instr.box t cv).run P w=.ok c Z/\Rel b a (kY t v.cells.toList m).2 Z/\aG a (kY t v.cells.toList m).1 c/\bW j m w a (kY t v.cells.toList m).2 Z:=by
 obtain⟨a,e,f,g⟩:=Xsv h t (sH d);exact⟨_,_,a,bY,e,f,g⟩
theorem XdN(a:Nat):∀(vs:List ae)(b:Nat) (cells:Array ae),a+b+vs.length<=cells.size ->
  ((vs.zipIdx b).foldl (λcs (c,b)=>cs.setIfInBounds (a+b) c) cells).toList=cells.toList.take (a+b)++vs++cells.toList.drop (a+b+vs.length)
 |[],b,cells,_=>ar
 |v::vs,b,cells,h=>by
  simp at h;simp only[List.zipIdx_cons,List.foldl_cons];rw[XdN a vs _ _ cF];simp only[Array.toList_setIfInBounds,iq];apply fk;intro k;simp only[tL,fy,kl,uV,jP,lz,iq,pL];by_cases d:k<a+b
  ·rw[ah aa,ah aa,ah aa,ah aa,ah aa,ah d,List.getElem?_set_ne aa]
  ·by_cases e:k=a+b
   ·subst e;rw[ah aa,ah aa,ah aa,ah aa,af aa]
    grind
   ·by_cases f:k<a+b+1+vs.length
    ·rw[ah aa,af aa,ah aa,af aa]
     grind
    ·rw[af aa,af aa,List.getElem?_set_ne aa]
     grind
inductive yc (j:az):List (Nat × Value)->List (Nat × Value)->Prop where
 |nil:yc j [] []
 |cons (i:Nat) (v v':Value) (l l':List (Nat × Value)) (h:aG j v v') (hl:yc j l l'):yc j ((i,v)::l) ((i,v')::l')
theorem Wl{j:az}(b:Nat->Option (Nat × Nat)):∀{l q:List (Nat × ae)} {a r:List ae} {C:Array ae},yc j l q->bu j a C.toList->fill b a l=some r ->
  ∃R,Instr.fill b C q=some R/\bu j r R.toList
 |_,_,a,r,C,.nil,f,hf=>by simp only[fill,cE]at hf;subst hf;exact⟨C,rfl,f⟩
 |_,_,a,r,C,.cons i v n l q u t,f,hf=>by
  simp only[fill]at hf;split at hf
  ·rename_i d size p;split at hf
   ·rename_i s;simp at s;have k:=sH u;have g:=k.length;have o:=f.length;simp at g o;have h:=XdN d n.cells.toList 0 C aq;obtain⟨R,x,w⟩:=Wl _ (C:=(n.cells.zipIdx.foldl (λcs (c,m)=>cs.setIfInBounds (d+m) c) C)) t (by
     have e:n.cells.zipIdx.foldl (λcs (c,m)=>cs.setIfInBounds (d+m) c) C=(n.cells.toList.zipIdx 0).foldl (λcs (c,m)=>cs.setIfInBounds (d+m) c) C:=by rw[<-Array.foldl_toList];simp
     rw[e,h];simp only[gp,EX];have:n.cells.toList.length=v.cells.toList.length:=cF;rw[this];exact((f.take _).append k).append (f.drop _)) hf
    refine⟨R,?_,w⟩;simp only[Instr.fill,p]
    grind
   grind
  grind
theorem Kv(z:List ae):∀n,(fH n z).length=n*z.length
 |0=>by simp[fH]
 |n+1=>by simp[fH,Kv z n,Nat.succ_mul];omega
theorem Lv(z:List ae):∀(n i:Nat),i<n*z.length->(fH n z)[i]?=z[i%z.length]?
 |0,i,h=>by simp at h
 |n+1,i,h=>by
  simp only[fH,tL];have b:0<z.length:=by
   rcases Nat.eq_zero_or_pos z.length with a|a
   ·grind
   ·exact a
  by_cases hi:i<z.length
  ·rw[ah hi,tK hi]
  ·rw[af hi,Lv z n _ aq];rw[Nat.mod_eq_sub_mod (by omega:z.length<=i)]
theorem Xob(z:Array ae)(n:Nat):((Array.range (n*z.size)).map λi=>z[i%z.size]!).toList=fH n z.toList:=by
 apply fk;intro i;by_cases hi:i<n*z.size
 ·rw[Lv _ n i aa];simp only[Za,Array.toList_range,gX,List.getElem?_range hi,Option.map_some,pL];have b:0<z.size:=by
   grind
  have a:=kM i b;simp[a]
 ·have c:(fH n z.toList)[i]?=none:=zk (by rw[Kv];grind)
  grind
theorem WH{j:az}{z:List ae}(h:bu j z z):∀n,bu j (fH n z) (fH n z)
 |0=>.nil
 |n+1=>h.append (WH h n)
theorem Xig{P:Program}{C:Nat}{j:az}{m:aj}{w:World}(h:Rel C j m w){t e:TypeId}{i:TypeInfo}{z:ae}(E:P.underlying t=some (.slice e))(hi:P.info? e=some i)(L:i.zero=some z)
  (J:qg z=true) (s:z.cells.size=i.size) (len:Nat) (b:len*i.size<=2^24) {ps g:List (Nat × ae)} (x:yc j ps g) {v:ae} {S:aj}
  (c:X8 e z.cells.toList i.size len ps m=some (v,S)) :
  ∃cv Z d,(Instr.buildSlice t len g.toArray).run P w=.ok cv Z/\Rel C d S Z/\aG d v cv/\bW j m w d S Z:=by
 rw[Em]at c;unfold xO at c;split at c
 ·rename_i cs n;split at c
  ·cases c
  ·rename_i K;simp at c;obtain⟨rfl,rfl⟩:=c;have B:bu j _ _:=sH (qX J);have q:((Array.range (len*i.size)).map λk=>z.cells[k%z.cells.size]!).toList=fH len z.cells.toList:=by
    rw[<-s];exact Xob z.cells len
   obtain⟨R,u,F⟩:=Wl (λk=>some _) x (by rw[q];exact WH B len) n;obtain⟨d,N,O,Q⟩:=Lu (w1:=w.alloc _) h e cs _ F R (λV v U=>aq) rfl rfl rfl rfl;refine⟨.slice (some ⟨w.heap.size,0,none⟩) len len,w.alloc _,d,?_,O,?_,Q⟩
   ·by_cases o:len*i.size=0
    ·have:len=0:=by
      rcases Nat.mul_eq_zero.1 o with D|D
      ·exact D
      ·omega
     subst this;simp at u;have y:Array.map (λk=>z.cells[k%z.cells.size]!) (Array.range 0)=#[]:=ar;have A:∀f:Nat->ae,Array.map f (Array.range 0)=#[]:=λf=>ar;rw[y]at u;simp[Instr.buildSlice,run_underlying E,run_sizeOf hi,newRow,A,u]
    ·simp[Instr.buildSlice,run_underlying E,run_sizeOf hi,AU hi L,o,newRow,u,Nat.not_lt.2 b]
   ·have H:R.size=len*i.size:=by
     have G:=F.length;have T:cs.length=len*i.size:=by
      have key:∀(l:List (Nat × ae)) (a r:List ae),fill (λk=>some (k*i.size,i.size)) a l=some r->r.length=a.length:=by
       intro l
       induction l with
       |nil=>intro a r hf;simp only[fill,cE]at hf;rw[hf]
       |cons p l M =>
        intro a r hf;obtain⟨k,v⟩:=p;simp only[fill]at hf;split at hf
        ·rename_i I;simp at I;rw[M _ _ hf];simp only[EX,fy,kl,tE,pL];omega
        grind
      rw[key _ _ _ n,Kv];simp[s]
     simp at G;omega
    exact .slice _ _ _ _ _ _ _ _ _ N aa aY ar (λ_=>⟨.inr ⟨rfl,ar,ar,aq⟩,λ_=>rfl⟩)
 grind
theorem Xlb{P:Program}{I:Nat}{j:az}{m:aj}{w:World}(h:Rel I j m w){t e:TypeId}{i:TypeInfo}{z:ae}(J:P.underlying t=some (.slice e))(hi:P.info? e=some i)(U:i.zero=some z)
  (T:qg z=true) (H:z.cells.size=i.size) {l c cl cc v:ae} {S:aj} (R:aG j l cl) (Q:aG j c cc)
  (p:xQ e z.cells.toList i.size i.bytes l c m=some (v,S)) :
  ∃cv Z n,(Instr.makeSlice t cl cc).run P w=.ok cv Z/\Rel I n S Z/\aG n v cv/\bW j m w n S Z:=by
 unfold xQ at p;split at p
 ·rename_i k1 ln k2 cn;cases R;cases Q;split at p
  ·rename_i d;simp only[bT,gq]at d;obtain⟨⟨⟨L,h1⟩,M⟩,u⟩:=d;obtain⟨f1,f2⟩:=Vq M;have u:=oS u;simp at p;obtain⟨rfl,rfl⟩:=p;obtain⟨a,rfl⟩:=uW L;obtain⟨b,rfl⟩:=uW (show 0<=cn by omega);simp only[pI]at f1 f2|-;have o:a<=b:=by omega
   have wa:IntKind.i64.wrap _=a:=IntWalk.i64_in _ aa;have wb:IntKind.i64.wrap _=b:=IntWalk.i64_in _ aa;have G:bu j _ _:=sH (qX T);let C:Array _:=(Array.range (b*i.size)).map λk=>z.cells[k%z.cells.size]!;have r:C.toList=fH b z.cells.toList:=by show((Array.range (b*i.size)).map λk=>z.cells[k%z.cells.size]!).toList=_;rw[<-H];exact Xob z.cells b
   obtain⟨n,V,W,X⟩:=Lu (w1:=w.alloc _) h e _ _ (WH G a) C (λK v s=>by
    have q:K<a*z.cells.toList.length:=by
     rcases lT K (a*z.cells.toList.length)with g|g
     ·exact g
     ·rw[zk (by rw[Kv];exact g)]at s;cases s
    rw[Lv _ _ _ q]at s;rw[<-wJ,r,Lv _ _ _ (dU q (lU _ o))];exact s) rfl rfl rfl rfl
   have y:C.size=b*i.size:=by simp[C]
   refine⟨.slice (some ⟨w.heap.size,0,none⟩) a b,w.alloc _,n,?_,W,?_,X⟩
   ·have B:¬((b:Int)<0):=by omega
    have E:¬(281474976710656<(i.bytes)*(b:Int)):=by grind
    have A:¬((a:Int)<0):=aa;have D:¬(b<a):=aa;by_cases hn:b*i.size=0
    ·have O:b=0:=by
      rcases Nat.mul_eq_zero.1 hn with g|g
      ·exact g
      ·omega
     subst O;have N:a=0:=aa;subst N;have F:∀f:Nat->ae,Array.map f (Array.range 0)=#[]:=λf=>ar;have x:C=#[]:=by apply Array.eq_empty_of_size_eq_zero;rw[y];simp
     have Y:IntKind.i64.wrap 0=0:=IntWalk.i64_in _ aa;simp[Instr.makeSlice,run_underlying J,asInt,asIntOf,typeInfo,hi,Y,run_sizeOf hi,newRow,F,x]
    ·simp[Instr.makeSlice,run_underlying J,asInt,asIntOf,typeInfo,hi,wa,wb,B,E,A,D,run_sizeOf hi,AU hi U,newRow,hn];rfl
   ·refine .slice _ _ _ _ _ _ _ _ _ V u o ?_ (λ_=>⟨.inr ⟨rfl,ar,ar,aq⟩,λg=>?_⟩)
    ·grind
    grind
  grind
 grind
theorem Xxr{o:Nat}{j:az}{m:aj}{w w1:World}(h:Rel o j m w)(ty:TypeId)(cs c:List ae)(k:bu j cs c)(C:Array ae)(H:∀(i:Nat)(v:ae),c[i]?=some v->C[i]?=some v)
  (lo hi:Nat) (B:C.size<=lo) (u:w1.heap.size=w.heap.size+1) (d:w1.heap[w.heap.size]?=some (.cells C ty (lo,hi))) (q:∀n,n<w.heap.size->w1.heap[n]?=w.heap[n]?)
  (s:w1.os=w.os) (y:w1.tape=w.tape) (z:w1.output=w.output) :
  ∃g:az,g m.next=some ⟨w.heap.size,0,0,C.size,0,false⟩/\Rel o g (m.push (.cells cs 0 0 false none)) w1/\bW j m w g (m.push (.cells cs 0 0 false none)) w1:=by
 have e:w1.heap=w.heap.push (.cells C ty (lo,hi)):=by grind
 have a:∀f,j m.next≠some f:=λf F=>by have:=(h.blocks _ _ F).1;omega
 have l:j.le (j.bH m.next ⟨w.heap.size,0,0,C.size,0,false⟩):=λb p A=>⟨p,by rw[az.cN _ (λx=>a p aq),A],.inl rfl⟩
 have r:=KR h _ e s y z ⟨w.heap.size,0,0,C.size,0,false⟩ rfl (.cells cs 0 0 false none)
  ⟨rfl,rfl,ar,C,ty,lo,hi,d,rfl,λi v _ E=>by obtain⟨cv,I,G⟩:=k.get E;exact⟨cv,aq,G.mono l⟩,(λ_ i _ _ hi=>aq),λt D=>nomatch D⟩
 exact⟨_,az.dE _ _ _,r.1,r.2⟩
theorem Xdt:∀{cs:List ae} {l:List UInt8},ug cs=some l->∃a:List Int,cs=a.map (Value.int .u8)/\l=a.map λn=>UInt8.ofNat n.toNat
 |[],l,h=>by simp only[ug,cE]at h;simp_all
 |v::cs,l,h=>by
  unfold ug at h;split at h
  ·grind
  ·rename_i n r c;cases c;split at h
   ·rename_i f b;cases h;obtain⟨a,d,e⟩:=Xdt b;exact⟨n::a,aq,aq⟩
   grind
  grind
theorem bu.ints{j:az}:∀{a:List Int} {c:List ae},bu j (a.map (Value.int .u8)) c->c=a.map (Value.int .u8)
 |[],_,h=>by cases h;rfl
 |n::a,_,h=>by
  cases h with
  |cons _ f _ e d b =>cases d;rw[bu.ints b];rfl
theorem Xq7(a:List Int)(s:ByteArray):a.foldl (λr n=>r.push (UInt8.ofNat n.toNat)) s=⟨s.data++(a.map λn=>UInt8.ofNat n.toNat).toArray⟩:=by
 induction a generalizing s with
 |nil=>simp
 |cons n a b =>simp_all
theorem XfN{P:Program}{J:Nat}{j:az}{m S:aj}{w:World}(h:Rel J j m w){x K v:ae}(D:aG j x K){src dst:TypeId}(d:conv (yv P src dst) x m=some (v,S)) :
  ∃cv Z q,(convert src dst K).run P w=.ok cv Z/\Rel J q S Z/\aG q v cv/\bW j m w q S Z:=by
 unfold yv at d;split at d
 ·rename_i k0 k f hd;cases D<;>simp only[conv,cE,kN,reduceCtorEq]at d
  obtain⟨rfl,rfl⟩:=d;exact⟨_,w,j,by simp[convert,run_underlying,f,hd,Conv.intToInt],h,.int _ _,.refl _ _ _⟩
 ·rename_i f hd;cases D<;>simp only[conv,cE,kN,reduceCtorEq]at d
  obtain⟨rfl,rfl⟩:=d;exact⟨_,w,j,by simp[convert,run_underlying,f,hd],h,.string _,.refl _ _ _⟩
 ·rename_i e f hd;split at d
  ·rename_i F;cases D<;>simp only[conv,cE,kN,reduceCtorEq]at d
   rename_i s;obtain⟨rfl,rfl⟩:=d;have a0:s.size=s.data.toList.length:=bY;have H:=grownCap_ge w s.size 0 e;have a:(Lib.bytesCells w e s).size=grownCap w s.size 0 e:=by simp only[Lib.bytesCells,Y9,Array.size_map,Array.size_replicate];have:s.data.size=s.size:=rfl;omega
   obtain⟨q,q1,q2,q3⟩:=Xxr (w1:=Lib.bytesWorld w e s) h e (s.data.toList.map λb=>.int .u8 b.toNat) (s.data.toList.map λb=>.int .u8 b.toNat)
    (bu.ML _ _ rfl (λi v A=>⟨v,A,by
     rw[gX]at A;cases hu:s.data.toList[i]? with
     |none=>grind
     |some u=>rw[hu]at A;cases A;exact .int _ _⟩))
    (Lib.bytesCells w e s) (λi v A=>by
     have X:i<(s.data.toList.map λb=>Value.int .u8 b.toNat).length:=by grind
     rw[Lib.bytesCells,Nd aq,<-wJ]
     grind)
    _ _ aY (Lib.bytesWorld_size w e s) (Lib.bytesWorld_at_new w e s) (Lib.bytesWorld_at_old w e s)
    rfl rfl rfl
   refine⟨_,_,q,Lib.run_convert_string_bytes w src dst e s f hd F,q2,?_,q3⟩;exact .slice _ _ _ _ _ _ _ _ _ q1 aY H ar (λ_=>⟨.inr ⟨rfl,ar,ar,aq⟩,λhh=>aa⟩)
  trivial
 ·rename_i e f hd;split at d
  ·rename_i F;cases D<;>simp only[conv,cE,kN,reduceCtorEq]at d
   ·obtain⟨rfl,rfl⟩:=d;refine⟨_,w,j,by rw[run_convert_bytes_string w src dst e none 0 0 f F hd];rfl,h,?_,.refl _ _ _⟩;exact .string _
   ·rename_i b y es n t B O o pl M W hn hr hp;split at d
    ·rename_i cs a;split at d
     ·rename_i l Y;simp only[cE,kN]at d;obtain⟨rfl,rfl⟩:=d;obtain⟨G,e1,e2⟩:=Xdt Y;subst e1;have key:(loadCells ⟨B,O,none⟩ n).run P w=.ok (G.map (Value.int .u8)).toArray w:=by
       by_cases I:n=0
       ·subst I;rw[jF]at a;unfold iI at a;split at a
        ·split at a
         ·simp only[zo,cE]at a;rw[<-a];rfl
         grind
        ·cases a
       ·have r:∃c g ro p,m.get b=some (.cells c (t / 2) g ro p):=by
         rw[jF]at a;unfold iI at a;split at a
         ·rename_i c ver g ro p r;split at a
          ·rename_i N;simp only[bT,gq,cE]at N;exact⟨c,g,ro,p,by rw[r,N.1]⟩
          ·cases a
         ·cases a
        obtain⟨c,g,ro,p,r⟩:=r;obtain⟨_,o',L,T⟩:=h.blocks b pl M;rw[r]at L;cases L;have C:=T.1;obtain⟨E,_⟩:=hp C.symm;rcases E with E|⟨E,U,V,h7⟩
        ·omega
        have z:aG j _ _:=.ptr b y _ B O pl M aa (λ_=>⟨E,U,V⟩);obtain⟨R,k1,k2,Q⟩:=AV h z a;rw[bu.ints k1]at k2 Q;have:=run_loadCells_list (P:=P) w _ _ Q
        grind
      refine⟨_,w,j,by rw[run_convert_bytes_string w src dst e _ n o f F hd,run_bytesToString w _ _ _ G key],h,?_,.refl _ _ _⟩;rw[Xq7,e2];have e0:(ByteArray.empty.data++(G.map _).toArray)=(G.map λn=>UInt8.ofNat n.toNat).toArray:=Array.empty_append;rw[e0];exact .string _
     grind
    grind
  trivial
 ·rename_i k f hd;cases D<;>simp only[conv,cE,kN,reduceCtorEq]at d
  obtain⟨rfl,rfl⟩:=d;exact⟨_,w,j,by simp[convert,run_underlying,f,hd,Conv.intToString],h,.string _,.refl _ _ _⟩
 trivial
theorem Xyj{P:Program}{a c:Type}{w:World}(f:a->Sem c)(g:a->c)(b:Array a)(h:∀x∈b.toList,(f x).run P w=.ok (g x) w):(b.mapM f).run P w=.ok (b.map g) w:=by
 rw[Array.mapM_eq_mapM_toList];have key:∀(l:List a),(∀x∈l,(f x).run P w=.ok (g x) w)->(l.mapM f).run P w=.ok (l.map g) w:=by
  intro l
  induction l with
  |nil=>simp
  |cons x l d =>simp_all
 simp only[Sem.run_map,key _ h,Result.andThen_ok];congr 1
 grind
def placesOf(P:Program)(a:Array Field):Option (List (Nat × Nat)):=
 if a.toList.all λf=>(P.info? f.type).isSome then some (a.toList.map λf=>(f.offset,P.cellsOf f.type))else none
theorem run_places{P:Program}{w:World}{b:Array Field}{a:List (Nat × Nat)}(h:placesOf P b=some a) :
  (b.mapM λ(f:Field)=>(do pure (f.offset,<-sizeOf f.type):Sem (Nat × Nat))).run P w=.ok a.toArray w:=by
 unfold placesOf at h;split at h
 ·rename_i c;cases h;rw[Xyj _ (λf=>(f.offset,P.cellsOf f.type)) b (λf hf=>by
   have:=cL.1 c f hf;obtain⟨i,hi⟩:=M8.1 this;simp[run_sizeOf hi,Program.cellsOf,hi])]
  congr 1
  grind
 grind
theorem Xew{P:Program}{j:az}{w:World}{t:TypeId}{h:Array Field}{i:TypeInfo}{z:ae}(m:P.underlying t=some (.struct h))(hi:P.info? t=some i)(n:i.zero=some z)(l:qg z=true)
  {a:List (Nat × Nat)} (e:placesOf P h=some a) {ps b:List (Nat × ae)} (g:yc j ps b) {v:ae} (c:Xc z.cells.toList a ps=some v) :
  ∃cv,(Instr.build t b.toArray).run P w=.ok cv w/\aG j v cv:=by
 rw[Xvg]at c;unfold WD at c;split at c
 ·rename_i cs d;cases c;obtain⟨R,o,q⟩:=Wl (λk=>a[k]?) g (C:=z.cells) (sH (qX l)) d;refine⟨.agg R,?_,.agg _ _ aa⟩;have f:=run_places (w:=w) e;have p:Instr.fill (λx=>(a.toArray)[x]?) z.cells b=some R:=by simp_all
  simp only[Instr.build,Sem.run_bind,AU hi n,run_underlying m,Result.andThen_ok,f];simp[o]
 grind
theorem yn{P:Program}{j:az}{w:World}{t:TypeId}{i:TypeInfo}{d:TypeDesc}(hi:P.info? t=some i)(hd:P.underlying t=some d){cs b:Array ae}(h:bu j cs.toList b.toList){a:Nat}{v:ae}
  (c:partOf (rj d) i.size a cs=some v):∃cv,(part t b a).run P w=.ok cv w/\aG j v cv:=by
 unfold partOf at c;split at c
 ·rename_i e;cases c;refine⟨.agg (b.extract a (a+i.size)),by simp[part,KH hd,e,run_sizeOf hi],.agg _ _ ?_⟩;simp only[Array.toList_extract];exact(h.drop _).take _
 ·rename_i e;obtain⟨cv,f,g⟩:=h.get (by simpa using c);refine⟨cv,?_,g⟩;rw[wJ]at f;simp[part,KH hd,e,f]
theorem Xyn{P:Program}{j:az}{w:World}{t:TypeId}{c:Array Field}{k:Nat}{f:Field}{i:TypeInfo}{d:TypeDesc}(g:P.underlying t=some (.struct c))(hf:c[k]?=some f)(hi:P.info? f.type=some i)(hd:P.underlying f.type=some d)
  {x b v:ae} (l:aG j x b) (e:XD (rj d) i.size f.offset x=some v):∃cv,(Instr.field t b k).run P w=.ok cv w/\aG j v cv:=by
 unfold XD at e;cases l<;>try grind
 rename_i a o h;obtain⟨cv,m,n⟩:=yn (w:=w) hi hd h e;exact⟨cv,by simp[Instr.field,run_underlying g,hf,asAgg,m],n⟩
theorem Xl4{P:Program}{j:az}{w:World}{t:TypeId}{d:Array Field}{k:Nat}{f:Field}{i:TypeInfo}(l:P.underlying t=some (.struct d))(hf:d[k]?=some f)(hi:P.info? f.type=some i)(h:i.size≠0)
  {x c v:ae} (m:aG j x c) (a:Xm f.offset x=some v):∃cv,(Instr.fieldAt t c k).run P w=.ok cv w/\aG j v cv:=by
 rw[Xiu]at a;unfold U2 at a;cases m<;>simp only[reduceCtorEq,cE]at a;rename_i b y r B O pl e g o;subst a;refine⟨.pointer (some ⟨B,O+f.offset,none⟩),by simp[Instr.fieldAt,run_underlying l,hf,Instr.sureAddr,fieldPlace,run_sizeOf hi,h,Addr.rC],?_⟩;exact .ptr b _ r _ _ pl e g (λn=>aa)
theorem Xfv{P:Program}{j:az}{w:World}{t e:TypeId}{n:Nat}{i:TypeInfo}(l:P.underlying t=some (.array n e))(hi:P.info? e=some i)
  {x c g8 d v:ae} (m:aG j x c) (o:aG j g8 d) (a:vC n i.size x g8=some v):∃cv,(Instr.indexAt t c d).run P w=.ok cv w/\aG j v cv:=by
 unfold vC at a;cases m<;>try grind
 rename_i b y r B O pl g h s;cases o<;>try simp only[reduceCtorEq]at a
 rename_i k p;split at a
 ·rename_i f;simp only[bT,gq]at f;simp only[cE]at a;subst a;refine⟨.pointer (some ⟨B,O+p.toNat*i.size,none⟩),by simp[Instr.indexAt,run_underlying l,asIntOf,Instr.sureAddr,f,run_sizeOf hi,Addr.rC],?_⟩;exact .ptr b _ r _ _ pl g h (λq=>aa)
 grind
theorem Xgi{P:Program}{j:az}{w:World}{t e:TypeId}{i:TypeInfo}(r:P.underlying t=some (.slice e))(hi:P.info? e=some i)
  {x c g8 d v:ae} (s:aG j x c) (u:aG j g8 d) (a:Xd i.size x g8=some v):∃cv,(Instr.indexAt t c d).run P w=.ok cv w/\aG j v cv:=by
 rw[Xfh]at a;unfold UT at a;cases s<;>try grind
 rename_i b y A n E B O o pl m p hn q D;cases u<;>try simp only[reduceCtorEq]at a
 rename_i k z;split at a
 ·rename_i f;simp at f;obtain⟨⟨g,h⟩,l⟩:=f;subst l;simp at a;subst a;refine⟨.pointer (some ⟨B,O+z.toNat*i.size,none⟩),by simp[Instr.indexAt,run_underlying r,asIntOf,g,h,run_sizeOf hi,Addr.rC],?_⟩;refine .ptr b _ _ _ _ pl m q (λC=>?_);omega
 grind
theorem Xn0{P:Program}{j:az}{w:World}{t:TypeId}(l:P.underlying t=some .string)
  {x g g8 h v:ae} (m:aG j x g) (n:aG j g8 h) (a:Xi x g8=some v):∃cv,(Instr.index t g h).run P w=.ok cv w/\aG j v cv:=by
 rw[Xdx]at a;unfold Vn at a;cases m<;>try grind
 rename_i s;cases n<;>try simp only[reduceCtorEq]at a
 rename_i k c;split at a
 ·rename_i i;split at a
  ·rename_i b d;cases a;have e:s[c.toNat]?=some b:=by
    have:c.toNat<s.data.toList.length:=by grind
    have f:c.toNat<s.size:=oU;rw[dX this]at d;rw[getElem?_pos s c.toNat f];simp only[Array.getElem_toList,cE]at d;exact jQ some d
   refine⟨.int .u8 _,by simp[Instr.index,run_underlying l,asIntOf,i,e],.int _ _⟩
  grind
 grind
theorem Xpz{P:Program}{j:az}{w:World}{x c v:ae}{k:Nat}(e:aG j x c)(b:yd x k=some v):∃cv,(Instr.extract c k).run P w=.ok cv w/\aG j v cv:=by
 rw[Xme]at b;unfold Vx at b;cases e<;>try simp at b
 rename_i a g h;obtain⟨cv,d,f⟩:=h.get (by simpa using b);rw[wJ]at d;exact⟨cv,by simp[Instr.extract,d],f⟩
inductive qM (j:az):Option Value->Option Value->Prop where
 |none:qM j none none
 |some (v v':Value) (h:aG j v v'):qM j (some v) (some v')
theorem Xo8{P:Program}{j:az}{w:World}{x e:ae}(g:aG j x e){d a g8 r:Nat}(b:bound (some x) d a=some r)(i:a<=g8)(c:BoundsCode) :
  (Instr.sliceBound e g8 c).run P w=.ok r w/\r<=a:=by
 rw[V1]at b;unfold E2 at b;cases g<;>try simp only[reduceCtorEq]at b
 rename_i k n;split at b
 ·rename_i h;simp only[bT,gq]at h;cases b;have f:n<=(g8:Int):=by omega
  exact⟨by simp[Instr.sliceBound,asIntOf,h.1,f],aa⟩
 ·cases b
theorem Kp{P:Program}{j:az}{w:World}(a:Bool){len o:Nat}{lo hi lj b:Option ae}(e:qM j lo lj)(c:qM j hi b){h l:Nat}(k:bound hi len len=some h)(f:bound lo 0 h=some l)(r:len<=o) :
  (Instr.sliceBounds a len o lj b none).run P w=.ok (l,h,o) w/\l<=h/\h<=len:=by
 have p:∃X:Sem Nat,X.run P w=.ok h w/\h<=len/\(match b with|some v=>Instr.sliceBound v o (if a then .sliceAcap else .sliceAlen)|none=>pure len)=X:=by
  cases c with
  |none=>simp only[bound,cE]at k;simp_all
  |some v s i=>obtain⟨m,n⟩:=Xo8 (P:=P) (w:=w) i k r (if a then .sliceAcap else .sliceAlen);exact⟨_,m,n,rfl⟩
 obtain⟨X,x,g,t⟩:=p;have q:∃Y:Sem Nat,Y.run P w=.ok l w/\l<=h/\(match lj with|some v=>Instr.sliceBound v h .sliceB|none=>pure 0)=Y:=by
  cases e with
  |none=>simp only[bound,cE]at f;subst f;simp
  |some v s i=>obtain⟨m,n⟩:=Xo8 (P:=P) (w:=w) i f (c6 h) .sliceB;grind
 obtain⟨Y,y,d,u⟩:=q;refine⟨?_,d,g⟩;unfold Instr.sliceBounds;cases c<;>cases e<;>simp_all
theorem Xmu{P:Program}{j:az}{w:World}{t:TypeId}(k:P.underlying t=some .string){x f v:ae}{lo hi lj b:Option ae}(m:aG j x f)(d:qM j lo lj)(c:qM j hi b)
  (a:gH x lo hi=some v):∃cv,(Instr.sliceAt t f lj b none).run P w=.ok cv w/\aG j v cv:=by
 rw[U0]at a;unfold Vo at a;cases m<;>try simp only[reduceCtorEq]at a
 rename_i s;split at a
 ·rename_i h g;split at a
  ·rename_i l i;cases a;obtain⟨n,o,p⟩:=Kp (P:=P) (w:=w) false d c g i aY;refine⟨.string (s.extract l h),by simp[Instr.sliceAt,Instr.slice,run_underlying k,n],?_⟩;have e:s.extract l h=⟨((s.data.toList.take h).drop l).toArray⟩:=by
    apply ByteArray.ext;apply vc;rw[ByteArray.data_extract];simp[List.drop_take]
   rw[e];exact .string _
  grind
 grind
theorem Xq5{P:Program}{j:az}{w:World}{t e:TypeId}{i:TypeInfo}(A:P.underlying t=some (.slice e))(f:P.info? e=some i){x z v:ae}{lo hi lj c:Option ae}(H:aG j x z)(g:qM j lo lj)(d:qM j hi c)
  (a:qc i.size x lo hi=some v):∃cv,(Instr.sliceAt t z lj c none).run P w=.ok cv w/\aG j v cv:=by
 unfold qc at a;cases H<;>try simp only[reduceCtorEq]at a
 ·split at a
  ·rename_i h r;split at a
   ·rename_i l s;cases a;obtain⟨u,I,J⟩:=Kp (P:=P) (w:=w) true g d r s aY;obtain rfl:h=0:=by omega
    obtain rfl:l=0:=aa;exact⟨.slice _ 0 0,by simp[Instr.sliceAt,Instr.slice,run_underlying A,u,run_sizeOf f],.qx⟩
   grind
  ·cases a
 ·rename_i b y M n L B O o pl C q hn N F;split at a
  ·rename_i h r;split at a
   ·rename_i l s;split at a
    ·rename_i k;simp only[cE]at k;subst k;simp at a;subst a;obtain⟨u,I,J⟩:=Kp (P:=P) (w:=w) true g d r s hn;refine⟨.slice (some ⟨B,if o=l then O else O+l*i.size,none⟩) (h-l) (o-l),?_,?_⟩
     ·simp only[Instr.sliceAt,Instr.slice,Sem.run_bind,run_underlying A,Result.andThen_ok,u,run_sizeOf f,Sem.run_pure,Option.map_some,Addr.rC];split<;>rfl
     ·refine .slice _ _ _ _ _ _ _ _ pl C q aa aq (λD=>?_);have G:L / 2=pl.ver:=by grind
      obtain⟨m,Q⟩:=F G;refine⟨?_,λE=>?_⟩
      ·by_cases p:o=l
       ·omega
       ·rcases m with m|⟨m,R,S,K⟩
        ·omega
        ·refine .inr ⟨m,aa,aq,?_⟩;rw[af p,FW,<-rU,show l+(o-l)=o by omega];exact K
      grind
    grind
   grind
  grind
theorem Xli{x:Nat}{j:az}{m:aj}{w:World}(s:Rel x j m w){b y r B O n size l h:Nat}{cs:List ae}(d:aG j (.pointer (some ⟨b,y,some r⟩)) (.pointer (some ⟨B,O,none⟩)))
  (f:j0 m ⟨b,y,some r⟩ (n*size)=some cs) (v:1<=size) (D:l<=h) (A:h<=n) :
  aG j (.slice (some ⟨b,y+l*size,some size⟩) (h-l) (if h=n then 2*r+1 else 2*r)) (.slice (some ⟨B,if n=l then O else O+l*size,none⟩) (h-l) (n-l)):=by
 obtain⟨k,L,M,J⟩:=AV s d f;have p:∃c e ro i,m.get b=some (.cells c r e ro i):=by
  rw[jF]at f;unfold iI at f;split at f
  ·grind
  ·cases f
 obtain⟨c,e,ro,i,p⟩:=p;obtain⟨pl,F,K,V,G,g,H⟩:=XS s d p rfl;simp only[Addr.mk.injEq]at g;obtain⟨g,I,_⟩:=g;simp only at G I;obtain⟨_,_,_,C,ty,lo,hi,o,z,_⟩:=H;refine .slice _ _ _ _ _ _ _ _ pl F v aa aq (λ_=>⟨?_,λt=>?_⟩)
 ·by_cases q:n=l
  ·omega
  ·have u:0<n*size:=Nat.mul_pos aa v;have E:O+(n*size-1)<C.size:=by
    have a:=J (n*size-1) k[n*size-1] (dX aa);rw[Addr.rC,g,Mk o]at a;obtain⟨t,_⟩:=Y8.1 a;exact t
   refine .inr ⟨g,aa,aq,?_⟩;rw[af q,FW,<-rU,show l+(n-l)=n by omega];omega
 grind
theorem Xm3{P:Program}{A:Nat}{j:az}{m:aj}{w:World}(C:Rel A j m w){t e:TypeId}{n:Nat}{i:TypeInfo}(g:P.underlying t=some (.array n e)\/∃a,P.underlying t=some (.pointer a)/\P.underlying a=some (.array n e))(f:P.info? e=some i)
  {x u v:ae} {lo hi lj d:Option ae} (I:aG j x u) (p:qM j lo lj) (o:qM j hi d)
  (c:vF n i.size x lo hi m=some v):∃cv,(Instr.sliceAt t u lj d none).run P w=.ok cv w/\aG j v cv:=by
 unfold vF at c;split at c
 ·rename_i b y r;split at c
  ·cases c
  ·rename_i cs k;split at c
   ·rename_i h E;split at c
    ·rename_i l F;split at c
     ·rename_i q;cases c;have q:=oS q;cases I with
      |ptr _ _ _ B O pl D H G =>
      obtain⟨z,J,K⟩:=Kp (P:=P) (w:=w) false p o E F aY;refine⟨_,?_,Xli C (.ptr b y r B O pl D H G) k q J K⟩;rcases g with g|⟨a,g,s⟩
      ·simp only[Instr.sliceAt,Sem.run_bind,run_underlying g,Result.andThen_ok,Instr.sureAddr,z,run_sizeOf f,Sem.run_pure,Addr.rC];split<;>rfl
      ·simp only[Instr.sliceAt,Instr.slice,Sem.run_bind,run_underlying g,run_underlying s,Result.andThen_ok,asAddr,z,run_sizeOf f,Sem.run_pure,Addr.rC];split<;>rfl
     grind
    grind
   grind
 grind
theorem run_getObj_map{P:Program}{w:World}{r:Nat}{b:Array MapEntry}{a:Nat}(h:w.heap[r]?=some (.map b a)):(getObj r).run P w=.ok (.map b a) w:=by simp only[getObj,Sem.run,h]
theorem W6{P:Program}{u:Nat}{j:az}{m:aj}{w:World}(D:Rel u j m w){t ty:TypeId}{d:TypeDesc}(i:P.underlying t=some d)(hd:d=.string\/(∃e,d=.slice e)\/(∃k e,d=.map k e)){x q v:ae}(H:aG j x q)
  (f:match d,x with|.string,.string _=>true|.slice _,.slice ..=>true|.map ..,.map _=>true|_,_=>false)
  (g:BI x m=some v):∃cv,(Builtin.len_ #[t] ty #[q]).run P w=.ok cv w/\aG j v cv:=by
 unfold BI at g;cases H<;>try simp at g
 ·rename_i s;rcases hd with rfl|⟨e,rfl⟩|⟨k,e,rfl⟩<;>simp only[reduceCtorEq]at f;cases g;exact⟨_,by simp[Builtin.len_,run_underlying i,goInt],.int _ _⟩
 ·rcases hd with rfl|⟨e,rfl⟩|⟨k,e,rfl⟩<;>simp only[reduceCtorEq]at f;cases g;exact⟨_,by simp[Builtin.len_,run_underlying i,goInt],.int _ _⟩
 ·rcases hd with rfl|⟨e,rfl⟩|⟨k,e,rfl⟩<;>simp only[reduceCtorEq]at f;cases g;exact⟨_,by simp[Builtin.len_,run_underlying i,goInt],.int _ _⟩
 ·rcases hd with rfl|⟨e,rfl⟩|⟨k,e,rfl⟩<;>simp only[reduceCtorEq]at f;cases g;exact⟨_,by simp[Builtin.len_,run_underlying i,goInt],.int _ _⟩
 ·rename_i b R pl E G;rcases hd with rfl|⟨e,rfl⟩|⟨k,e,rfl⟩<;>simp only[reduceCtorEq]at f;split at g
  ·rename_i y l F;cases g;obtain⟨_,J,r,z⟩:=D.blocks b pl E;rw[F]at r;cases r;obtain⟨A,_,n,B,C⟩:=z;have h:y.length=n.size:=by
    have key:∀{a:List (ae × ae × Nat)} {c:List MapEntry},gu j a c->a.length=c.length:=by
     intro a c p
     induction p with
     |nil=>rfl
     |cons _ _ _ _ _ _ _ _ _ _ I=>simp[I]
    have:=key C;simpa using this
   have o:=G A;subst o;refine⟨.int _ _,?_,by rw[h];exact .int _ _⟩;simp[Builtin.len_,run_underlying i,run_getObj_map B,goInt]
  grind
theorem Eo(s:ByteArray):s.toList=s.data.toList:=ByteArray.toList_eq s
theorem WU{P:Program}{j:az}{w:World}(g d:Nat)(hf:g<=d)(p:∀(d:Nat)(t:TypeId) (x B z A:ae) (b:Bool),g<=d->aG j x z->aG j B A->bS (gI P g t) x B=some b->(Op.equalIn d t z A).run P w=.ok b w) :
  ∀(k:List Field) {v y l m:Array ae} {b:Bool},bu j v.toList l.toList->bu j y.toList m.toList ->
  oA ((k.filter (·.name≠ "_")).map λf=>match P.info? f.type,P.underlying f.type with|some i,some e=>(f.offset,i.size,rj e,gI P g f.type)|_,_=>(0,0,true,.no)) v y=some b ->
  (Op.eqFields d l m k).run P w=.ok b w
 |[],_,_,_,_,_,_,_,h=>by simp only[List.filter_nil,FV,oA,cE]at h;subst h;rfl
 |f::k,v,y,l,m,b,q,s,h=>by
  by_cases hn:f.name= "_"
  ·have o:(f::k).filter (λf=>decide (f.name≠ "_"))=k.filter (λf=>decide (f.name≠ "_")):=by grind
   rw[o]at h;simp only[Op.eqFields,hn,qI,uX,dV];exact WU _ d hf p k q s h
  ·have o:(f::k).filter (λf=>decide (f.name≠ "_"))=f::k.filter (λf=>decide (f.name≠ "_")):=by grind
   rw[o,lx]at h;cases hi:P.info? f.type with
   |none=>rw[hi]at h;trivial
   |some i =>
    cases hd:P.underlying f.type with
    |none=>rw[hi,hd]at h;trivial
    |some e =>
     rw[hi,hd]at h;simp only[oA]at h;split at h
     ·rename_i a c H J;obtain⟨K,D,E⟩:=yn (w:=w) hi hd q H;obtain⟨cc,F,G⟩:=yn (w:=w) hi hd s J;split at h
      ·rename_i C;have n:=p d _ _ _ _ _ _ hf E G C;have u:=WU _ d hf p k q s h;simp only[Op.eqFields,qI,hn,Zb,dW,Sem.run_bind,D,F,n,Result.andThen_ok,iQ,dp,dV,u]
      ·rename_i r C;have I:b=false:=by grind
       subst I;have n:=p d _ _ _ _ _ _ hf E G h;simp only[Op.eqFields,qI,hn,Zb,dW,Sem.run_bind,D,F,n,Result.andThen_ok,pJ,Sem.run_pure]
     grind
theorem Xhb{P:Program}{j:az}{w:World}(f d:Nat)(hf:f<=d)(o:∀(d:Nat)(t:TypeId) (x y u v:ae) (b:Bool),f<=d->aG j x u->aG j y v->bS (gI P f t) x y=some b->(Op.equalIn d t u v).run P w=.ok b w)
  {e:TypeId} {i:TypeInfo} {D:TypeDesc} (hi:P.info? e=some i) (hd:P.underlying e=some D):∀(n:List Nat) {q s g l:Array ae} {b:Bool},bu j q.toList g.toList->bu j s.toList l.toList ->
  oA (n.map λk=>(k*i.size,i.size,rj D,gI P f e)) q s=some b->(Op.eqItems d e i.size g l n).run P w=.ok b w
 |[],_,_,_,_,_,_,_,h=>by simp only[FV,oA,cE]at h;subst h;rfl
 |k::n,q,s,g,l,b,A,B,h=>by
  simp only[lx,oA]at h;split at h
  ·rename_i a c H J;obtain⟨K,C,E⟩:=yn (w:=w) hi hd A H;obtain⟨cc,F,G⟩:=yn (w:=w) hi hd B J;split at h
   ·rename_i z;have m:=o d e _ _ _ _ _ hf E G z;have p:=Xhb _ d hf o hi hd n A B h;simp only[Op.eqItems,Sem.run_bind,C,F,m,Result.andThen_ok,iQ,dp,dV,p]
   ·rename_i r z;have I:b=false:=by grind
    subst I;have m:=o d e _ _ _ _ _ hf E G h;simp only[Op.eqItems,Sem.run_bind,C,F,m,Result.andThen_ok,pJ,dW,Sem.run_pure]
  grind
set_option maxHeartbeats 1000000 in
theorem WW{P:Program}{j:az}{w:World}:∀(f d:Nat)(t:TypeId) (x u r s:ae) (b:Bool),f<=d->aG j x r->aG j u s->bS (gI P f t) x u=some b->(Op.equalIn d t r s).run P w=.ok b w:=by
 intro f
 induction f with
 |zero=>intro d t x u r s b _ _ _ h;trivial
 |succ f C =>
  intro d t x u r s b hf l m h;obtain⟨d,rfl⟩:∃e,d=e+1:=⟨d-1,aa⟩
  unfold gI at h;cases g:P.underlying t with
  |none=>rw[g]at h;trivial
  |some D =>
   rw[g]at h;cases D<;>simp only at h<;>try trivial
   case bool =>unfold bS at h;split at h<;>(try contradiction)<;>(try (cases l;cases m;cases h;simp[Op.equalIn,run_underlying g];done))
   case int k =>
    unfold bS at h;split at h<;>(try contradiction)
    cases l;cases m;split at h
    ·rename_i H;cases h;simp[Op.equalIn,run_underlying g,H]
    grind
   case string =>
    unfold bS at h;split at h<;>(try contradiction)
    cases l;cases m;cases h;rw[run_equalIn_string w d t _ _ g,Eo,Eo]
   case pointer e =>
    unfold bS at h;split at h<;>(try contradiction)
    ·cases l;cases m<;>cases h<;>simp[Op.equalIn,run_underlying g]
    ·cases l;cases m;cases h;simp[Op.equalIn,run_underlying g]
   case slice e =>
    unfold bS at h;split at h<;>(try contradiction)
    ·cases l;cases m<;>cases h<;>simp[Op.equalIn,run_underlying g]
    ·cases l;cases m;cases h;simp[Op.equalIn,run_underlying g]
   case map k e =>
    unfold bS at h;split at h<;>(try contradiction)
    ·cases l;cases m<;>cases h<;>simp[Op.equalIn,run_underlying g]
    ·cases l;cases m;cases h;simp[Op.equalIn,run_underlying g]
   case func a c v =>unfold bS at h;split at h<;>(try contradiction)<;>(cases l;cases m;cases h;simp[Op.equalIn,run_underlying g])
   case interface L =>
    unfold bS at h;split at h<;>(try contradiction)<;>(try (cases l;cases m;cases h;simp[Op.equalIn,run_underlying g];done))
    cases l;cases m;split at h
    ·cases h
    ·rename_i A;cases h;simp[Op.equalIn,run_underlying g,A]
   case array n e =>
    cases hi:P.info? e with
    |none=>rw[hi]at h;simp only[bS,reduceCtorEq]at h
    |some i =>
     cases hd:P.underlying e with
     |none=>rw[hi,hd]at h;simp only[bS,reduceCtorEq]at h
     |some D =>
      rw[hi,hd]at h;simp only at h;unfold bS at h;split at h<;>(try contradiction)
      rename_i y J K o;cases o;cases l;cases m;rename_i E p F q;have G:P.cellsOf e=i.size:=by simp[Program.cellsOf,hi]
      rw[run_equalIn_array w d _ _ g hi,G];exact Xhb f d aa C hi hd (List.range n) p q h
   case struct B =>
    split at h
    ·grind[bS,reduceCtorEq]
    ·rename_i I;unfold bS at h;split at h<;>(try contradiction)
     rename_i y J K o;cases o;cases l;cases m;rename_i E p F q;have z:P.fieldsOf t=B:=by simp[Program.fieldsOf,g]
     rw[run_equalIn_struct w d t _ _ aq aq,z];exact WU f d aa C B.toList p q h
theorem Xu8{a b:ae}(h:uT a b=true):a=b:=by
 unfold uT at h
 grind
theorem Xsk:∀{a b:List ae},wI a b=true->a=b
 |[],[],_=>rfl
 |[],_::_,h=>ve
 |_::_,[],h=>ve
 |a::l,b::r,h=>by simp only[wI,bT]at h;rw[Xu8 h.1,Xsk h.2]
theorem XaK{a b:ae}(h:pG a b=true):a=b:=by
 unfold pG at h;split at h
 ·rename_i x c;have:=Xsk h;simp_all
 ·exact Xu8 h
theorem Xo7{j:az}{a b d:ae}(h:uT a b=true)(c:aG j a d):d=a:=by
 unfold uT at h;split at h
 ·cases c;rfl
 ·cases c;rfl
 ·cases c;rfl
 grind
theorem Xp3{j:az}:∀{a b d:List ae},wI a b=true->bu j a d->d=a
 |[],[],_,_,c=>by cases c;rfl
 |[],_::_,_,h,_=>ve
 |_::_,[],_,h,_=>ve
 |a::l,b::r,_,h,c=>by
  simp only[wI,bT]at h;cases c with
  |cons v i l g f e=>rw[Xo7 h.1 f,Xp3 h.2 e]
theorem Xs1{j:az}{a b c:ae}(h:pG a b=true)(d:aG j a c):c=a:=by
 unfold pG at h;split at h
 ·cases d with
  |agg a f e =>have:=Xp3 h e;simp_all
 ·exact Xo7 h d
theorem Xhi{a b:ae}(n:Nat)(h:uT a b=true):Instr.sameBits n a b=true:=by
 unfold uT at h;split at h
 ·simpa[Instr.sameBits]using h
 ·simp at h;simp[Instr.sameBits,h.1,h.2]
 ·simp at h;simp only[Instr.sameBits,h,beq_toListBytes,tI]
 grind
theorem Xgq(n:Nat):∀{a b:List ae},wI a b=true->a.length=b.length/\((a.zip b).all λ(x,c)=>Instr.sameBits n x c)=true
 |[],[],_=>⟨rfl,rfl⟩
 |[],_::_,h=>ve
 |_::_,[],h=>ve
 |a::l,b::r,h=>by simp only[wI,bT]at h;obtain⟨d,e⟩:=Xgq n h.2;exact⟨by simp[d],by simp only[List.zip_cons_cons,km,Xhi n h.1,gY];exact e⟩
theorem Xqo{a b:ae}(h:pG a b=true):Instr.sameBits 10000 a b=true:=by
 unfold pG at h;split at h
 ·rename_i x d;obtain⟨c,e⟩:=Xgq 9999 h;simp at c;unfold Instr.sameBits
  grind
 ·exact Xhi _ h
theorem Xgb{P:Program}{j:az}{w:World}(F:Bool):∀(b n:Nat)(t:TypeId) (k s:ae),b<=n->aG j k s->bS (gI P b t) k k=some true->(Instr.checkKey F n t s).run P w=.ok () w:=by
 intro b
 induction b with
 |zero=>intro n t k s _ _ h;trivial
 |succ b B =>
  intro n t k s hn r h;obtain⟨n,rfl⟩:∃e,n=e+1:=⟨n-1,aa⟩
  unfold gI at h;cases g:P.underlying t with
  |none=>rw[g]at h;trivial
  |some D =>
   rw[g]at h;cases D<;>simp only at h<;>try trivial
   case interface J =>
    unfold bS at h;split at h<;>(try contradiction)
    ·cases r;simp[Instr.checkKey,run_underlying g]
    grind
   case struct G =>
    split at h
    ·trivial
    ·unfold bS at h;split at h<;>(try contradiction)
     rename_i e1 e2;cases e1;cases e2;cases r with
     |agg a E q =>
     simp only[Instr.checkKey,Sem.run_bind,run_underlying g,Result.andThen_ok];rw[<-Array.forIn_toList];clear g;generalize G.toList=l at h
     induction l with
     |nil=>simp
     |cons f l d =>
      by_cases o:f.name= "_"
      ·have m:(f::l).filter (λf=>decide (f.name≠ "_"))=l.filter (λf=>decide (f.name≠ "_")):=by grind
       rw[m]at h;have:=d h;simp only[Zc,Sem.run_bind,o,qI,uX,dV,Sem.run_pure,Result.andThen_ok]at this|-;trivial
      ·have m:(f::l).filter (λf=>decide (f.name≠ "_"))=f::l.filter (λf=>decide (f.name≠ "_")):=by simp[o]
       rw[m,lx]at h;cases hi:P.info? f.type with
       |none=>rw[hi]at h;trivial
       |some i =>
        cases hd:P.underlying f.type with
        |none=>rw[hi,hd]at h;trivial
        |some e =>
         rw[hi,hd]at h;simp only[oA]at h;split at h
         ·rename_i A H c p;cases c.symm.trans p;obtain⟨u,y,z⟩:=yn (w:=w) hi hd q c;split at h
          ·rename_i x;have v:=B n _ A u aa z x;have:=d h;simp only[Zc,Sem.run_bind,qI,o,Zb,dW,y,v,Sem.run_pure,Result.andThen_ok]at this|-;trivial
          trivial
         trivial
   case array len e =>
    cases hi:P.info? e with
    |none=>rw[hi]at h;trivial
    |some i =>
     cases hd:P.underlying e with
     |none=>rw[hi,hd]at h;trivial
     |some D =>
      rw[hi,hd]at h;simp only at h;unfold bS at h;split at h<;>(try contradiction)
      rename_i e1 e2;cases e1;cases e2;cases r with
      |agg a E q =>
      rw[Instr.checkKey];simp only[Sem.run_bind,run_underlying g,Result.andThen_ok];simp only[Std.Legacy.Range.forIn_eq_forIn_range',Std.Legacy.Range.size,Nat.sub_zero,Nat.add_one_sub_one,Nat.div_one];rw[List.range_eq_range']at h;generalize List.range' 0 len=C at h
      induction C with
      |nil=>simp
      |cons I C d =>
       simp only[lx,oA]at h;split at h
       ·rename_i A H c p;cases c.symm.trans p;obtain⟨u,y,z⟩:=yn (w:=w) hi hd q c;split at h
        ·rename_i x;have v:=B n e A u aa z x;have:=d h;simp only[Zc,Sem.run_bind,run_sizeOf hi,Result.andThen_ok,y,v,Sem.run_pure];trivial
        trivial
       trivial
   all_goals
    first
    |(cases r<;>simp[Instr.checkKey,run_underlying g];done)
    |(cases r<;>simp only[bS,reduceCtorEq]at h<;>simp[Instr.checkKey,run_underlying g])
theorem gu.get{j:az}:∀{a:List (ae × ae × Nat)} {c:List MapEntry},gu j a c->∀{i:Nat} {e:ae × ae × Nat},a[i]?=some e->∃b,c[i]?=some b/\aG j e.1 b.key/\aG j e.2.1 b.val/\b.born=e.2.2
 |_,_,.nil,i,e,h=>by simp at h
 |_,_,.cons k v m p n l o f g d,0,e,h=>by simp at h;subst h;simp_all
 |_,_,.cons k v m p n l o f g d,i+1,e,h=>by simpa using gu.get d aq
theorem gu.append{j:az}:∀{a b:List (ae × ae × Nat)} {c d:List MapEntry},gu j a c->gu j b d->gu j (a++b) (c++d)
 |_,_,_,_,.nil,h=>h
 |_,_,_,_,.cons k v i m n l o e g f,h=>.cons k v i m n _ _ e g (gu.append f h)
theorem gu.set{j:az}:∀{a:List (ae × ae × Nat)} {c:List MapEntry},gu j a c->∀(i:Nat)(k v b d:ae) (n:Nat),aG j k b->aG j v d->gu j (a.set i (k,v,n)) (c.set i { key:=b,val:=d,born:=n })
 |_,_,.nil,_,_,_,_,_,_,_,_=>.nil
 |_,_,.cons _ _ _ _ _ _ _ _ _ g,0,k,v,b,d,n,e,h=>.cons k v b d n _ _ e h g
 |_,_,.cons q v0 o p n0 l r f m g,i+1,k,v,b,d,n,e,h=>.cons q v0 o p n0 _ _ f m (gu.set g i k v b d n e h)
def Found(a:List MapEntry)(c:Nat):Option Nat->Option (Nat × ae)->Prop
 |none,r=>r=none
 |some i,r=>∃b,c<=i/\a[i-c]?=some b/\r=some (i,b.val)
theorem Found.tail{e:MapEntry}{a:List MapEntry}{b:Nat}{r:Option Nat}{x:Option (Nat × ae)}(h:Found a (b+1) r x):Found (e::a) b r x:=by
 cases r with
 |none=>exact h
 |some i =>obtain⟨c,f,g,d⟩:=h;exact⟨c,aa,aq,d⟩
theorem Xkj{P:Program}{j:az}{w:World}{a:Nat}(hf:a<=10000){t:TypeId}{k o:ae}(g:aG j k o):∀{p:List (ae × ae × Nat)} {b:List MapEntry},gu j p b->∀(e:Nat) {r:Option Nat},
  om (gI P a t) k p e=some r->∃x,(Instr.findAsking t o b e).run P w=.ok x w/\Found b e r x
 |_,_,.nil,e,r,h=>by simp only[om,cE]at h;subst h;exact⟨none,rfl,rfl⟩
 |_,_,.cons y v1 i m n l z d v u,e,r,h=>by
  simp only[om]at h;split at h
  ·rename_i f;cases h;have c:=WW (w:=w) _ Op.maxDepth t _ _ _ _ _ hf g d f;exact⟨some _,by simp[Instr.findAsking,Op.equal,c],⟨{ key:=i,val:=m,born:=n },c6 _,ar,rfl⟩⟩
  ·rename_i f;have c:=WW (w:=w) _ Op.maxDepth t _ _ _ _ _ hf g d f;obtain⟨x,q,s⟩:=Xkj (w:=w) hf g u _ h;exact⟨x,by simp[Instr.findAsking,Op.equal,c,q],s.tail⟩
  grind
theorem Xz1{P:Program}{j:az}{a:Nat}{t:TypeId}{D:TypeDesc}(v:P.underlying t=some D){k q:ae}(p:aG j k q):∀{u:List (ae × ae × Nat)} {f:List MapEntry},gu j u f->∀(m:Nat) {r:Option Nat} {x:Option (Nat × ae)},
  om (gI P a t) k u m=some r->Instr.findNow D q f m=some x->Found f m r x
 |_,_,.nil,m,r,x,h,e=>by simp only[om,cE]at h;subst h;simp only[Instr.findNow,cE]at e;exact e.symm
 |_,_,.cons A v1 o s n l B g z y,m,r,x,h,e=>by
  have same:∀b,Instr.sameNow D q o=some b->∀c,bS (gI P a t) k A=some c->c=b:=by
   intro b i c d;cases a with
   |zero=>trivial
   |succ a =>
    unfold gI at d;rw[v]at d;unfold Instr.sameNow at i;split at i
    ·simp only at d;cases p;cases g;simp only[bS]at d
     grind
    ·simp only at d;cases p;cases g;simp only[bS,cE]at d i;rw[<-i,<-d,beq_toListBytes,Eo,Eo]
    ·simp only at d;cases p;cases g;simp only[bS,cE]at d i
     grind
    grind
  simp only[om]at h;simp only[Instr.findNow]at e;split at h
  ·rename_i w;cases h;split at e
   ·cases e;exact⟨{ key:=o,val:=s,born:=n },c6 _,ar,rfl⟩
   ·grind
   grind
  ·rename_i w;split at e
   ·grind
   ·exact(Xz1 v p y _ h e).tail
   grind
  grind
theorem Ev{P:Program}{j:az}{w:World}{b:Nat}(hf:b<=10000){t:TypeId}{D:TypeDesc}(e:P.underlying t=some D){k c:ae}(g:aG j k c){d:List (ae × ae × Nat)}{a:List MapEntry}(f:gu j d a){r:Option Nat}
  (h:om (gI P b t) k d 0=some r):∃x,(Instr.findKey t c a).run P w=.ok x w/\Found a 0 r x:=by
 unfold Instr.findKey;simp only[Sem.run_bind,run_underlying e,Result.andThen_ok];cases hn:Instr.findNow D c a 0 with
 |none=>exact Xkj hf g f 0 h
 |some x=>exact⟨x,rfl,Xz1 e g f 0 h hn⟩
theorem Xf4{j:az}{z v cv:ae}(a:aG j z z)(ok:Bool):aG j (EV z ok none) (if ok=true then .tuple #[z,.bool false]else z)/\(aG j v cv->aG j (EV z ok (some v)) (if ok=true then .tuple #[cv,.bool true]else cv)):=by
 cases ok
 ·exact⟨a,λh=>h⟩
 ·exact⟨.tuple _ _ (.cons _ _ _ _ a (.cons _ _ _ _ (.bool _) .nil)),λh=>.tuple _ _ (.cons _ _ _ _ h (.cons _ _ _ _ (.bool _) .nil))⟩
theorem Xv3{P:Program}{M:Nat}{j:az}{m:aj}{w:World}(S:Rel M j m w){t kt e:TypeId}{L:TypeInfo}{z:ae}{D:TypeDesc}{c:Nat}(hf:c<=10000)(C:P.underlying t=some (.map kt e))(y:P.underlying kt=some D)
  (hi:P.info? e=some L) (K:L.zero=some z) (J:qg z=true) (ok:Bool) {x F k q v:ae} (V:aG j x F) (p:aG j k q) (a:uu (gI P c kt) z ok x k m=some v) :
  ∃cv,(Instr.lookup t F q ok).run P w=.ok cv w/\aG j v cv:=by
 unfold uu at a;simp only[AW]at a;simp only[Zd]at a;obtain⟨I,a⟩:=a;simp at I;have g:bS (gI P c kt) k k=some true:=by
  have:=I.2;split at this
  ·grind
  ·grind
 have h:=λN=>Xgb (w:=w) N _ _ kt k q hf p g;obtain⟨l,_⟩:=Xf4 (v:=z) (cv:=z) (qX (j:=j) J) ok;cases V<;>try simp only[reduceCtorEq]at a
 ·simp only[cE]at a;subst a;have d:=h true;obtain⟨x,n,o⟩:=Ev (w:=w) hf y p (.nil) rfl;cases o;refine⟨_,?_,l⟩;simp[Instr.lookup,run_underlying C,d,n,AU hi K]
 ·rename_i b R pl T B;split at a
  ·rename_i es r U;obtain⟨_,o',G,O⟩:=S.blocks b pl T;rw[U]at G;cases G;obtain⟨Q,_,s,H,u⟩:=O;obtain rfl:=B Q;have d:=h s.isEmpty;split at a
   ·rename_i f;obtain⟨x,n,o⟩:=Ev (w:=w) hf y p u f;cases o;simp at a;subst a;refine⟨_,?_,l⟩;simp[Instr.lookup,run_underlying C,run_getObj_map H,d,n,AU hi K]
   ·rename_i i f;obtain⟨x,n,o⟩:=Ev (w:=w) hf y p u f;obtain⟨Z,k3,E,W⟩:=o;split at a
    ·rename_i en A;simp at a;subst a;obtain⟨e2,X,q2,Y,q4⟩:=u.get A;simp only[Nat.sub_zero]at E;rw[X]at E;cases E;subst W;refine⟨_,?_,(Xf4 (qX J) ok).2 Y⟩;simp[Instr.lookup,run_underlying C,run_getObj_map H,d,n]
    grind
   grind
  grind
theorem run_setObj_map{P:Program}{w:World}{r:Nat}{b:Array MapEntry}{a:Nat}(h:w.heap[r]?=some (.map b a))(y:Obj):(setObj r y).run P w=.ok () { w with heap:=w.heap.setIfInBounds r y }:=by grind[setObj,Sem.run]
theorem heap_set{w:World}{r:Nat}{a y:Obj}(h:w.heap[r]?=some a):(w.heap.setIfInBounds r y)[r]?=some y:=by grind
theorem WA{d:Nat}{j:az}{m:aj}{w:World}(h:Rel d j m w){b:Nat}{pl:Pl}(f:j b=some pl)(c:pl.ro=false)(O:Obj)(y:dQ)
  (g:iF j { w with heap:=w.heap.setIfInBounds pl.aF O } pl y) :
  Rel d j (m.put b y) { w with heap:=w.heap.setIfInBounds pl.aF O }/\bW j m w j (m.put b y) { w with heap:=w.heap.setIfInBounds pl.aF O }:=by
 have e:j.bH b pl=j:=by
  funext x;unfold az.bH;split
  ·grind
  ·rfl
 have a:=EG (w1:={ w with heap:=w.heap.setIfInBounds pl.aF O }) h b pl pl f c rfl (.inl rfl) ar (λB hB=>aq) rfl rfl rfl y aq;rw[e]at a;trivial
theorem Xdw{P:Program}{O:Nat}{j:az}{m S:aj}{w:World}(F:Rel O j m w){t kt e:TypeId}{D:TypeDesc}{d:Nat}(hf:d<=10000)(W:P.underlying t=some (.map kt e))(V:P.underlying kt=some D)
  {x T k h v cv:ae} (hx:aG j x T) (q:aG j k h) (X:aG j v cv) (c:vE (gI P d kt) x k v m=some S) :
  ∃Z Q,(Instr.mapUpdate t T h cv).run P w=.ok () Z/\Rel O Q S Z/\bW j m w Q S Z:=by
 unfold vE at c;simp only[AW]at c;simp only[Zd]at c;obtain⟨C,c⟩:=c;simp at C;have o:bS (gI P d kt) k k=some true:=by grind
 have s:=Xgb (w:=w) false _ _ kt k h hf q o;have y:=Xs1 C.1 q;cases hx<;>try simp only[reduceCtorEq]at c
 rename_i b R pl G I;split at c
 ·rename_i es a hm;obtain⟨_,o',U,h3⟩:=F.blocks b pl G;rw[hm]at U;cases U;obtain⟨E,g,f,p,r⟩:=h3;obtain rfl:=I E;split at c
  ·rename_i n;obtain⟨x,L,M⟩:=Ev (w:=w) hf V q r n;cases M;simp at c;subst c;have:=WA F G g _ (.map (es++[(k,v,a)]) (a+1))
    ⟨E,g,_,heap_set p,by rw[Array.toList_push];exact r.append (.cons _ _ _ _ _ _ _ q X .nil)⟩
   refine⟨_,j,?_,this.1,this.2⟩;simp[Instr.mapUpdate,run_underlying W,run_getObj_map p,s,L,run_setObj_map p]
  ·rename_i i n;obtain⟨x,L,M⟩:=Ev (w:=w) hf V q r n;obtain⟨B,_,N,k5⟩:=M;split at c
   ·rename_i en H;split at c
    ·rename_i l;simp at c;subst c;obtain⟨e2,Y,q2,q3,q4⟩:=r.get H;simp only[Nat.sub_zero]at N;rw[Y]at N;cases N;subst k5;have a1:i<f.size:=by
      grind
     have A:f[i]?=some B:=by rw[<-wJ];exact Y
     have u:B.key=h:=by
      have h1:B.key=en.1:=by
       have K:pG en.1 en.1=true:=by have:=XaK l;rw[this];exact C.1
       exact Xs1 K q2
      rw[h1,XaK l,y]
     have J:Instr.sameBits 10000 B.key h=true:=by rw[u,y];exact Xqo C.1
     have z:(f.modify i λe=>{ e with key:=h,val:=cv }).toList=f.toList.set i { key:=h,val:=cv,born:=en.2.2 }:=by
      apply fk;intro i6;rw[wJ,F9];by_cases a0:i=i6
      ·grind
      ·grind
     have:=WA F G g _ (.map _ a)
      ⟨E,g,_,heap_set p,by rw[z];exact r.set i k v h cv en.2.2 q X⟩
     refine⟨_,j,?_,this.1,this.2⟩;simp[Instr.mapUpdate,run_underlying W,run_getObj_map p,s,L,A,Instr.keyThatStays,J,run_setObj_map p]
    grind
   grind
  grind
 grind
theorem Xrc{P:Program}{b:Nat}{j:az}{m:aj}{w:World}(d:Rel b j m w)(t:TypeId):∃cv Z a,(Instr.makeMap t none).run P w=.ok cv Z/\Rel b a (A4 m).2 Z/\aG a (A4 m).1 cv/\bW j m w a (A4 m).2 Z:=by have c:=KR d _ (w1:=w.alloc _) rfl rfl rfl rfl ⟨w.heap.size,0,0,0,0,false⟩ rfl (.map [] 0) ⟨rfl,rfl,#[],Array.getElem?_push_size,.nil⟩;refine⟨.map (some w.heap.size),w.alloc _,_,?_,c.1,.map _ _ _ (az.dE _ _ _) (λ_=>rfl),c.2⟩;rfl
theorem Xne{P:Program}{c:Nat}{j:az}{m S:aj}{w:World}(f:Rel c j m w){t:TypeId}(g:P.underlying t=some .string){x d v:ae}(h:aG j x d)(b:yb x m=some (v,S)) :
  ∃cv Z a,(Instr.range t d).run P w=.ok cv Z/\Rel c a S Z/\aG a v cv/\bW j m w a S Z:=by
 unfold yb at b;cases h<;>try grind
 rename_i s;simp at b;obtain⟨rfl,rfl⟩:=b;have e:=KR f _ (w1:=w.alloc _) rfl rfl rfl rfl ⟨w.heap.size,0,0,0,0,false⟩ rfl (.dM s 0) ⟨rfl,rfl,rfl,rfl,Array.getElem?_push_size⟩;refine⟨.pointer (some ⟨w.heap.size,0,none⟩),w.alloc _,_,?_,e.1,.ptr _ _ _ _ _ _ (az.dE _ _ _) ar (λ_=>⟨rfl,ar,ar⟩),e.2⟩;simp[Instr.range,run_underlying g]
theorem Xqj{P:Program}{l:Nat}{j:az}{m S:aj}{w:World}(i:Rel l j m w){ty:TypeId}{x n v:ae}(F:aG j x n)(a:uk x m=some (v,S)) :
  ∃cv Z g,(Instr.next n true ty).run P w=.ok cv Z/\Rel l g S Z/\aG g v cv/\bW j m w g S Z:=by
 unfold uk at a;split at a
 ·rename_i b sp;cases F with
  |ptr _ _ r B O pl p G D =>
  split at a
  ·rename_i s pos C;obtain⟨_,H,o,q⟩:=i.blocks b pl p;rw[C]at o;cases o;obtain⟨t,e,u,z,h⟩:=q;obtain⟨k,_,E⟩:=D aa;have A:O=0:=by omega
   subst k A;have c:(getObj pl.aF).run P w=.ok (.stringIter s pos) w:=by simp only[getObj,Sem.run,h]
   have f:∀y,(setObj pl.aF y).run P w=.ok () { w with heap:=w.heap.setIfInBounds pl.aF y }:=λy=>by simp only[setObj,Sem.run,h]
   split at a
   ·rename_i d;simp at a;obtain⟨rfl,rfl⟩:=a;have:=WA i p e _ (.dM s (pos+(Utf8.decode s pos).2)) ⟨t,e,u,z,heap_set h⟩;refine⟨.tuple #[.bool _,.int _ pos,.int _ _],_,j,?_,this.1,.tuple _ _ (.cons _ _ _ _ (.bool _) (.cons _ _ _ _ (.int _ _) (.cons _ _ _ _ (.int _ _) .nil))),this.2⟩;simp[Instr.next,c,d,f,goInt]
   ·rename_i d;simp at a;obtain⟨rfl,rfl⟩:=a;exact⟨.tuple _,w,j,by simp[Instr.next,c,d],i,.tuple _ _ (.cons _ _ _ _ (.bool _) .nil),.refl _ _ _⟩
  grind
 grind
end Go.Ab
end
