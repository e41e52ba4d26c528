/-
  An evaluator over abstract memories, and that what it answers the machine answers. No conditions.
-/
import Derived.Test.YtodhdplpcelokaaGreatDoorAb2
import Derived.LaidEql
import Derived.Scope
import Derived.Defers

set_option linter.all false
set_option maxRecDepth 100000
noncomputable section
namespace Go.Ab
def isConst(x:Operand):Bool:=match x with|.const _=>true|_=>false
theorem Xo6:∀(a b:List UInt8),yF a b=Op.bytesLess a b
 |[],[]=>rfl
 |_::_,[]=>rfl
 |[],_::_=>rfl
 |a::x,b::c=>by simp[yF,Op.bytesLess,Xo6]
theorem Vj{P:Program}{j:az}{w:World}(d:BinOp)(t:TypeId)(h i:Operand){x g8 f k:ae}(m:aG j x f)(l:aG j g8 k)(g:(isConst h||isConst i)=true\/¬(x=.nilIface/\g8=.nilIface))
  (e:P.eqGuardType P.depth t=false\/(d≠.eql/\d≠.neq)\/∀a,f≠.agg a):(eqGuard d t h i f k).run P w=.ok () w:=by
 unfold eqGuard;by_cases c:d=.eql\/d=.neq
 case neg =>cases d<;>first|(exact absurd (Or.inl rfl) c)|(exact absurd (Or.inr rfl) c)|simp
 cases m with
 |nilIface =>
  cases l with
  |nilIface =>
   rcases g with g|g
   ·rcases c with rfl|rfl<;>cases h<;>cases i<;>simp_all[isConst]
   ·grind
  |_=>rcases c with rfl|rfl<;>simp
 |agg a n p =>
  cases l with
  |agg b o q =>
   rcases e with e|e|e
   ·rcases c with rfl|rfl<;>simp[e]
   ·rcases c with rfl|rfl
    ·trivial
    trivial
   ·grind
  |_=>rcases c with rfl|rfl<;>simp
 |_=>rcases c with rfl|rfl<;>simp
theorem US{P:Program}{w:World}{t:TypeId}{x g8:ae}{b:Bool}(h:(Op.equal t x g8).run P w=.ok b w)
  (e:∀k n,x≠.int k n) (hf:∀k n,x≠.float k n) (c:∀k a b,x≠.complex k a b) (d:∀s,x≠.string s) :
  (binOp .eql t x g8).run P w=.ok (.bool b) w/\(binOp .neq t x g8).run P w=.ok (.bool (!b)) w:=by
 cases x<;>first
  |grind
  |grind
  |grind
  |grind
  |(constructor<;>(unfold binOp;cases g8<;>simp[h]))
theorem XfL{p:gE}{k:IntKind}{n:Int}{g8:ae}{b:Bool}(h:bS p (.int k n) g8=some b):∃a c,g8=.int a c:=by cases p<;>cases g8<;>first|exact⟨_,_,rfl⟩|(simp only[bS,reduceCtorEq]at h)
theorem XgZ{p:gE}{s:ByteArray}{g8:ae}{b:Bool}(h:bS p (.string s) g8=some b):∃u,g8=.string u:=by cases p<;>cases g8<;>first|exact⟨_,rfl⟩|trivial
theorem Xt3{p:gE}{k:FloatKind}{n:Nat}{g8:ae}{b:Bool}(h:bS p (.float k n) g8=some b):False:=by grind[bS,reduceCtorEq]
set_option maxHeartbeats 1000000 in
theorem Xz9{P:Program}{j:az}{w:World}{l:Nat}(hf:l<=10000)(e:BinOp)(t:TypeId)(o p:Operand){x g8 f q v:ae}(i:aG j x f)(r:aG j g8 q)
  (d:bin e (isConst o||isConst p) (!P.eqGuardType P.depth t) (gI P l t) x g8=some v) :
  ∃cv,(do eqGuard e t o p f q;binOp e t f q:Sem ae).run P w=.ok cv w/\aG j v cv:=by
 have key:∀{cv:ae},((isConst o||isConst p)=true\/¬(x=.nilIface/\g8=.nilIface))->(P.eqGuardType P.depth t=false\/(e≠.eql/\e≠.neq)\/∀a,f≠.agg a)->(binOp e t f q).run P w=.ok cv w ->
   (do eqGuard e t o p f q;binOp e t f q:Sem _).run P w=.ok cv w:=λI J K=>by
  simp only[Sem.run_bind,Vj e t o p i r I J,Result.andThen_ok,K]
 rw[lH]at d;unfold mq at d;split at d
 ·rename_i k a H b;cases i;cases r;split at d
  ·cases d
  ·rename_i g;cases d;exact⟨_,key (.inr (λh=>by cases h.1)) (.inr (.inr (λa h=>by cases h))) (by simp[binOp,Op.shift,g]),.int _ _⟩
 ·rename_i k a H b;cases i;cases r;split at d
  ·cases d
  ·rename_i g;cases d;exact⟨_,key (.inr (λh=>by cases h.1)) (.inr (.inr (λa h=>by cases h))) (by simp[binOp,Op.shift,g]),.int _ _⟩
 ·rename_i k a H b O Q;cases i;cases r;split at d
  ·cases d
  ·rename_i C;have C:=Classical.not_not.1 C;subst C;cases e<;>simp only[reduceCtorEq]at d
   case add=>cases d;exact⟨_,key (.inr (λh=>by cases h.1)) (.inr (.inr (λa h=>by cases h))) Zn,.int _ _⟩
   case sub=>cases d;exact⟨_,key (.inr (λh=>by cases h.1)) (.inr (.inr (λa h=>by cases h))) Zn,.int _ _⟩
   case mul=>cases d;exact⟨_,key (.inr (λh=>by cases h.1)) (.inr (.inr (λa h=>by cases h))) Zn,.int _ _⟩
   case quo =>
    split at d
    ·cases d
    ·rename_i g;cases d;exact⟨_,key (.inr (λh=>by cases h.1)) (.inr (.inr (λa h=>by cases h))) (by simp[binOp,Op.intDiv,g]),.int _ _⟩
   case rem =>
    split at d
    ·cases d
    ·rename_i g;cases d;exact⟨_,key (.inr (λh=>by cases h.1)) (.inr (.inr (λa h=>by cases h))) (by simp[binOp,Op.intDiv,g]),.int _ _⟩
   case and=>cases d;exact⟨_,key (.inr (λh=>by cases h.1)) (.inr (.inr (λa h=>by cases h))) Nz,.int _ _⟩
   case or=>cases d;exact⟨_,key (.inr (λh=>by cases h.1)) (.inr (.inr (λa h=>by cases h))) Nz,.int _ _⟩
   case xor=>cases d;exact⟨_,key (.inr (λh=>by cases h.1)) (.inr (.inr (λa h=>by cases h))) Nz,.int _ _⟩
   case andNot=>cases d;exact⟨_,key (.inr (λh=>by cases h.1)) (.inr (.inr (λa h=>by cases h))) Nz,.int _ _⟩
   all_goals (cases d;exact⟨_,key (.inr (λh=>by cases h.1)) (.inr (.inr (λa h=>by cases h))) (by simp[binOp,Op.intCmp,]),.bool _⟩)
 ·rename_i a b;cases i;cases r;cases e<;>simp only[reduceCtorEq]at d
  case add =>
   split at d
   ·rename_i T;cases d;have:¬(9223372036854775807<((a.size+b.size:Nat):Int)):=by omega
    exact⟨_,key (.inr (λh=>by cases h.1)) (.inr (.inr (λa h=>by cases h))) (by simp only[binOp,Op.stringOp];rw[af oU];rfl),.string _⟩
   grind
  all_goals (cases d;refine⟨_,key (.inr (λh=>by cases h.1)) (.inr (.inr (λa h=>by cases h))) bY,?_⟩;simp only[Eo,Xo6];exact .bool _)
 all_goals (try (cases d;done))
 all_goals
  rename_i R S;simp only[Zd]at d;obtain⟨A,d⟩:=d;simp only[bT,Nf (isConst o||isConst p),Nf (!P.eqGuardType _ t)]at A;split at d
  ·rename_i b g;cases d;have B:=WW (w:=w) _ Op.maxDepth t _ _ _ _ _ hf i r g;have z:(isConst o||isConst p)=true\/¬(x=.nilIface/\g8=.nilIface):=by
    rcases A.2 with h|h
    ·grind
    ·refine .inr (λN=>?_);obtain⟨rfl,rfl⟩:=N;trivial
   have F:∀k n,f≠.int k n:=λk n h=>by
    subst h;cases i;obtain⟨U,V,rfl⟩:=XfL g
    grind
   have G:∀s,f≠.string s:=λs h=>by
    subst h;cases i;obtain⟨u,rfl⟩:=XgZ g
    grind
   have E:∀k n,f≠.float k n:=λk n h=>by subst h;cases i;exact Xt3 g
   have D:∀k a c,f≠.complex k a c:=λk a c h=>by subst h;cases i
   have m:=US (by unfold Op.equal;exact B) F E D G;have M:P.eqGuardType P.depth t=false\/∀a,f≠.agg a:=by
    rcases A.1 with h|h
    ·grind
    ·right;intro a L;subst L;cases i;trivial
   have y:∀e,P.eqGuardType P.depth t=false\/(e≠BinOp.eql/\e≠BinOp.neq)\/∀a,f≠.agg a:=λe=>by grind
   first
    |exact⟨_,key z (y _) m.1,.bool _⟩
    |exact⟨_,key z (y _) m.2,.bool _⟩
  grind
theorem XmB{P:Program}{j:az}{w:World}(d:UnOp){x c v:ae}(b:aG j x c)(a:un d x=some v):∃cv,(Op.unary d c).run P w=.ok cv w/\aG j v cv:=by
 unfold un at a;split at a
 ·cases b;cases a;exact⟨_,bY,.int _ _⟩
 ·cases b;cases a;exact⟨_,bY,.int _ _⟩
 ·cases b;cases a;exact⟨_,bY,.bool _⟩
 grind
theorem Xgw{P:Program}{a:Nat}{t:TypeId}(h:gI P a t=.ptr):∃e,P.underlying t=some (.pointer e):=by
 cases a with
 |zero=>cases h
 |succ d =>
  simp only[gI]at h
  grind
theorem Xpi{B0:Nat}{j:az}{m:aj}{w:World}(o:Rel B0 j m w){a b:Addr}{g cb:ae}(p:aG j (.pointer (some a)) g)(q:aG j (.pointer (some b)) cb){r:Bool}(f:yB m a b=some r):g=cb/\r=true/\∃A,g=.pointer (some A):=by
 unfold yB at f;split at f
 ·rename_i s;split at f
  ·rename_i c ver _ _ _ l;split at f
   ·rename_i k;cases f;simp at k;obtain⟨⟨i,C⟩,D⟩:=k;have h:a=b:=by cases a;cases b;simp_all
    subst h;cases p with
    |ptr n y r B O pl e F E =>
    cases q with
    |ptr _ _ _ x z v d u t =>
    rw[e]at d;cases d;obtain⟨_,H,g2,g3⟩:=o.blocks n pl e;simp only at l i;rw[l]at g2;cases g2;have G:r=pl.ver:=by simp_all[g3.1,i]
    grind
   grind
  grind
 grind
theorem Xe3{P:Program}(w:World){b c:TypeId}(a:Addr)(f:P.underlying b=some (.pointer c)){i6:TypeInfo}(e:P.info? c=some i6):(Op.equal b (.pointer (some a)) (.pointer (some a))).run P w=.ok true w:=by
 have h:∀d:Nat,(Op.equalIn (d+1) b (.pointer (some a)) (.pointer (some a))).run P w=.ok true w:=λd=>by simp[Op.equalIn,run_underlying f,sizeOf,typeInfo,e,run_sameAddr_same]
 simp[Op.equal,Op.maxDepth,h _]
def wc(P:Program)(t:TypeId):Bool:=match P.underlying t with|some (.pointer e)=>(P.info? e).isSome|_=>false
theorem XiP{P:Program}{B0:Nat}{j:az}{m:aj}{w:World}(B:Rel B0 j m w){c:Nat}(hf:c<=10000)(z:BinOp)(t:TypeId)(C:wc P t=true)(k l:Operand){x g8 n o v:ae}(f:aG j x n)(g:aG j g8 o)
  (d:BL m z (isConst k||isConst l) (!P.eqGuardType P.depth t) (gI P c t) x g8=some v) :
  ∃cv,(do eqGuard z t k l n o;binOp z t n o:Sem ae).run P w=.ok cv w/\aG j v cv:=by
 unfold BL at d;split at d
 ·rename_i a b u;split at d
  ·rename_i r y;cases d;obtain⟨e1,e2,A,D⟩:=Xpi B f g y;subst e2;obtain⟨e,p⟩:=Xgw u;obtain⟨i,s⟩:∃i,P.info? e=some i:=by
    simp_all[wc,M8.1]
   refine⟨.bool _,?_,.bool _⟩;have q:=Vj (P:=P) (w:=w) .eql t k l f g (.inr (λh=>by cases h.1)) (.inr (.inr (λa h=>aq)));have:=US (Xe3 w A p s) ar ar ar ar;simp_all
  grind
 ·rename_i a b u;split at d
  ·rename_i r y;cases d;obtain⟨e1,e2,A,D⟩:=Xpi B f g y;subst e2;obtain⟨e,p⟩:=Xgw u;obtain⟨i,s⟩:∃i,P.info? e=some i:=by
    simp_all[wc,M8.1]
   refine⟨.bool false,?_,.bool _⟩;have q:=Vj (P:=P) (w:=w) .neq t k l f g (.inr (λh=>by cases h.1)) (.inr (.inr (λa h=>aq)));have:=US (Xe3 w A p s) ar ar ar ar;simp_all
  grind
 ·exact Xz9 hf _ t k l f g d
abbrev Env:=Nat->ae
abbrev fo:=FuncId->List ae->aj->Option (ae × aj)
abbrev Rs:=ae × aj
def ob{a b:Type}(x:Option a)(k:a->Option b):Option b:=Option.rec none k x
theorem LZ{a b:Type}(x:Option a)(k:a->Option b):ob x k=match x with|some v=>k v|none=>none:=by cases x<;>rfl
def bm{a:Type}(x:Option aj)(k:aj->Option a):Option a:=match x with|some m=>k m|none=>none
def bp{a:Type}(x:Option (ae × aj))(k:ae->aj->Option a):Option a:=Option.rec none (λp=>Prod.rec k p) x
def bH(n:Nat)(E:Env)(d:Nat)(v:ae):Env:=λi=>bif Nat.beq i d&&Nat.blt d n then v else E i
def put(n:Nat)(E:Env)(dst:Option Nat)(v:ae):Env:=match dst with|some d=>bH n E d v|none=>E
def dD(E:Env)(x:Operand):ae:=
 match x with
 |.tmp t=>E t
 |.const v=>v
 |.global _=>XzW
 |.func f=>.func (.func f) #[] #[]
def Fg(x:Operand):Bool:=match x with|.const v=>qg v|.global _=>false|_=>true
def ti(P:Program)(t:TypeId):Option (TypeInfo × TypeDesc):=
 match P.info? t with
 |some i=>match P.underlying t with|some d=>some (i,d)|none=>none
 |none=>none
def tz(P:Program)(t:TypeId):Option (TypeInfo × ae):=
 match P.info? t with
 |some i=>match i.zero with|some z=>if qg z&&Nat.beq z.cells.size i.size then some (i,z)else none|none=>none
 |none=>none
def EZ:Nat:=20
def LU(kind:Nat)(x:ae)(m:aj):Option ae:=
 match kind,x with
 |0,.string s=>some (.int .i64 s.size)
 |1,.slice _ n _=>some (.int .i64 n)
 |2,.map r=>BI (.map r) m
 |_,_=>none
def aM:=@LU
theorem Xvv(kind:Nat)(x:ae)(m:aj):aM kind x m=LU kind x m:=rfl
def aI(x:Option ae)(m:aj):Option (ae × aj):=Option.rec none (λv=>some (v,m)) x
theorem XkV(x:Option ae)(m:aj):aI x m=match x with|some v=>some (v,m)|none=>none:=by cases x<;>rfl
def bP(x:Option aj):Option (ae × aj):=Option.rec none (λm=>some (undef,m)) x
theorem XkZ(x:Option aj):bP x=match x with|some m=>some (undef,m)|none=>none:=by cases x<;>rfl
def vG(P:Program)(b:Builtin)(d:Array TypeId)(args:List ae)(m:aj):Option (ae × aj):=
 match b,args,d.toList with
 | .len,[x],[t]=>match P.underlying t with
  |some .string=>aI (aM 0 x m) m
  |some (.slice _)=>aI (aM 1 x m) m
  |some (.map _ _)=>aI (aM 2 x m) m
  |some (.array n _)=>some (.int .i64 n,m)
  |some (.pointer a)=>match P.underlying a with|some (.array n _)=>some (.int .i64 n,m)|_=>none
  |_=>none
 | .append,[s,x],[t,f]=>match P.underlying t with
  | some (.slice e)=>match tz P e with
   | some (i,_)=>match P.underlying f with
    |some .string=>if i.size=1 then fP e i.size i.bytes s x m else none
    |some (.slice _)=>dn e i.size i.bytes s x m
    |_=>none
   |none=>none
  |_=>none
 |.max,[x,c],_=>aI (wy x c) m
 |.min,[x,c],_=>aI (Mb x c) m
 |_,_,_=>none
def UG(P:Program)(t:TypeId):Option (Nat × TypeId):=
 match P.underlying t with
 |some (.array n e)=>some (n,e)
 |some (.pointer a)=>match P.underlying a with|some (.array n e)=>some (n,e)|_=>none
 |_=>none
def eI(P:Program)(f:Operand->ae)(m:aj)(y:Oper):Option (ae × aj):=
 match y.op with
 |.move x=>some (f x,m)
 |.assign x=>some (f x,m)
 |.pick c a b=>pk (f c) (f a) (f b) m
 |.alloc t=>match tz P t with|some (_,z)=>some (kY t z.cells.toList m)|none=>none
 |.box t x=>some (kY t (f x).cells.toList m)
 | .build t parts=>match tz P t with
  | some (_,z)=>match P.underlying t with
   | some (.struct h)=>match placesOf P h with
    |some u=>aI (Xc z.cells.toList u (parts.toList.map λ(i,x)=>(i,f x))) m
    |none=>none
   |_=>none
  |none=>none
 | .buildSlice t len parts=>match P.underlying t with
  | some (.slice e)=>match tz P e with
   |some (i,z)=>if Nat.ble (len*i.size) 16777216 then X8 e z.cells.toList i.size len (parts.toList.map λ(i,x)=>(i,f x)) m else none
   |none=>none
  |_=>none
 |.load t a=>match ti P t with|some (i,d)=>aI (X9 (rj d) i.size (f a) m) m|none=>none
 |.store t a v=>match P.info? t with|some i=>bP (Xe i.size (f a) (f v) m)|none=>none
 |.nilCheck x=>aI (Xu (f x)) m
 |.binOp p t x j _=>bif wc P t then aI (BL m p (isConst x||isConst j) (!P.eqGuardType P.depth t) (gI P EZ t) (f x) (f j)) m else aI (bin p (isConst x||isConst j) (!P.eqGuardType P.depth t) (gI P EZ t) (f x) (f j)) m
 |.unOp p _ x=>aI (un p (f x)) m
 |.convert s d x=>conv (yv P s d) (f x) m
 |.makeInterface t x=>match P.underlying t with|some (.interface _)=>none|some _=>some (.iface t (f x),m)|none=>none
 |.makeFunc fn first o=>some (.func fn ⟨first.toList.map f⟩ ⟨o.toList.map f⟩,m)
 |.makeMap _ r=>match r with|none=>some (A4 m)|some _=>none
 | .makeSlice t l c=>match P.underlying t with
  | some (.slice e)=>match tz P e with
   |some (i,z)=>xQ e z.cells.toList i.size i.bytes (f l) (f c) m
   |none=>none
  |_=>none
 | .slice t x lo hi mx=>match P.underlying t with
  |some .string=>match mx with|none=>aI (gH (f x) (lo.map f) (hi.map f)) m|some _=>none
  | some (.slice e)=>match P.info? e with
   | some i=>match mx with
    |none=>aI (qc i.size (f x) (lo.map f) (hi.map f)) m
    |some _=>none
   |none=>none
  | _=>match UG P t with
   | some (n,e)=>match P.info? e with
    |some i=>match mx with|none=>aI (vF n i.size (f x) (lo.map f) (hi.map f) m) m|some _=>none
    |none=>none
   |none=>none
 | .fieldAddr t x k=>match P.underlying t with
  | some (.struct h)=>match h[k]? with
   | some g=>match P.info? g.type with
    |some i=>if Nat.ble 1 i.size then aI (Xm g.offset (f x)) m else none
    |none=>none
   |none=>none
  |_=>none
 | .field t x k=>match P.underlying t with
  | some (.struct h)=>match h[k]? with
   | some g=>match ti P g.type with
    |some (i,d)=>aI (XD (rj d) i.size g.offset (f x)) m
    |none=>none
   |none=>none
  |_=>none
 | .indexAddr t x i=>match P.underlying t with
  |some (.array n e)=>match P.info? e with|some q=>aI (vC n q.size (f x) (f i)) m|none=>none
  |some (.slice e)=>match P.info? e with|some q=>aI (Xd q.size (f x) (f i)) m|none=>none
  |_=>none
 | .index t x i=>match P.underlying t with
  |some .string=>aI (Xi (f x) (f i)) m
  |_=>none
 | .lookup t x k ok=>match P.underlying t with
  | some (.map kt e)=>match tz P e with
   | some (_,z)=>match P.underlying kt with
    |some _=>aI (uu (gI P EZ kt) z ok (f x) (f k) m) m
    |none=>none
   |none=>none
  |_=>none
 | .mapUpdate t x k v=>match P.underlying t with
  | some (.map kt _)=>match P.underlying kt with
   |some _=>bP (vE (gI P EZ kt) (f x) (f k) (f v) m)
   |none=>none
  |_=>none
 | .insert t x k v=>match P.underlying t with
  | some (.map kt _)=>match P.underlying kt with
   |some _=>bP (vE (gI P EZ kt) (f x) (f k) (f v) m)
   |none=>none
  |_=>none
 |.range t x=>match P.underlying t with|some .string=>yb (f x) m|_=>none
 |.next x true=>uk (f x) m
 |.extract x i=>aI (yd (f x) i) m
 |.call { callee:=.builtin b,args,argTypes }=>vG P b argTypes (args.toList.map f) m
 |_=>none
def o9(g:fo)(a:ae)(args:List ae)(m:aj):Option (ae × aj):=
 match a with
 |.func (.func f) first o=>g f (first.toList++args++o.toList) m
 |_=>none
def pE{e:Type}(P:Program)(x:Option (ae × aj))(f:Operand->ae)(m:aj)(y:Oper)(k:ae->aj->Option e):Option e:=
 match y.op with
 |.move d=>k (f d) m
 |.assign d=>k (f d) m
 |.pick c a b=>YD (f c) (f a) (f b) m k
 |.makeInterface t d=>match P.underlying t with|some (.interface _)=>none|some _=>k (.iface t (f d)) m|none=>none
 |.makeFunc fn a c=>k (.func fn ⟨a.toList.map f⟩ ⟨c.toList.map f⟩) m
 |_=>bp x k
def ng(P:Program)(g:fo)(f:Operand->ae)(m:aj)(y:Oper):Option (ae × aj):=
 match y.op with
 |.call { callee:=.value x,args,.. }=>o9 g (f x) (args.toList.map f) m
 |_=>eI P f m y
theorem Xnr{e:Type}(P:Program)(f:Operand->ae)(m:aj)(y:Oper)(k:ae->aj->Option e):pE P (eI P f m y) f m y k=bp (eI P f m y) k:=by
 obtain⟨dst,d,ty,pos,after,guard⟩:=y;cases d<;>first|rfl|skip
 case pick c a b =>show YD (f c) (f a) (f b) m k=bp (pk (f c) (f a) (f b) m) k;rw[XlP];unfold pk;split<;>rfl
 case makeInterface t g =>simp only[pE,eI];split<;>rfl
theorem Xkr{i:Type}(P:Program)(g:fo)(f:Operand->ae)(m:aj)(y:Oper)(k:ae->aj->Option i):pE P (ng P g f m y) f m y k=bp (ng P g f m y) k:=by
 have e:(∀x a b,y.op≠.call ⟨.value x,a,b⟩)->ng P g f m y=eI P f m y:=λh=>by
  unfold ng;split
  ·rename_i x a b d;exact absurd d (h _ _ _)
  ·rfl
 by_cases h:∃x a b,y.op=.call ⟨.value x,a,b⟩
 ·obtain⟨x,a,b,h⟩:=h;unfold pE;rw[h]
 ·rw[e (λx a b c=>h ⟨x,a,b,c⟩)];exact Xnr P f m y k
theorem fA{x:Option ae}{m:aj}{v:ae}{S:aj}(h:aI x m=some (v,S)):x=some v/\S=m:=by
 cases x with
 |none=>cases h
 |some u=>simp only[XkV,cE,kN]at h;grind
theorem V2{x:Option aj}{v:ae}{S:aj}(h:bP x=some (v,S)):x=some S/\v=undef:=by
 cases x with
 |none=>cases h
 |some u=>simp only[XkZ,cE,kN]at h;grind
theorem Wr{P:Program}{t:TypeId}{i:TypeInfo}{d:TypeDesc}(h:ti P t=some (i,d)):P.info? t=some i/\P.underlying t=some d:=by
 unfold ti at h
 grind
theorem yq{P:Program}{t:TypeId}{i:TypeInfo}{z:ae}(h:tz P t=some (i,z)):P.info? t=some i/\i.zero=some z/\qg z=true/\z.cells.size=i.size:=by
 unfold tz at h;split at h
 ·rename_i b hi;split at h
  ·rename_i c a;split at h
   ·simp_all
   grind
  grind
 grind
def NG(P:Program)(a:Operand->ae)(y:Oper)(w:World)(cv:ae)(Z:World):Prop:=
 (execOp a y).run P w=.ok (.value cv) Z\/(cv=undef/\(execOp a y).run P w=.ok .skip Z)
theorem xR{j:az}:aG j undef undef:=.tuple _ _ .nil
theorem EJ{j:az}{f a:Operand->ae}:∀(l:List Operand),(∀x∈l,aG j (f x) (a x))->bu j (l.map f) (l.map a)
 |[],_=>.nil
 |x::l,h=>.cons _ _ _ _ (h x ar) (EJ l (λb c=>h b (by simp[c])))
theorem Vh{j:az}{f g:Operand->ae}:∀(ps:List (Nat × Operand)),(∀x∈ps.map (·.2),aG j (f x) (g x))->yc j (ps.map λ(i,x)=>(i,f x)) (ps.map λ(i,x)=>(i,g x))
 |[],_=>.nil
 |(i,x)::ps,h=>.cons i _ _ _ _ (h x ar) (Vh ps (λa b=>h a aq))
theorem XdZ{j:az}{f g:Operand->ae}(y:Option Operand)(h:∀x,y=some x->aG j (f x) (g x)):qM j (y.map f) (y.map g):=by
 cases y with
 |none=>exact .none
 |some x=>exact .some _ _ (h x rfl)
theorem Xmf{P:Program}{j:az}{w:World}{b:Operand->ae}{y:Oper}{g8:Operand}(i:y.op=.nilCheck g8){x v:ae}(e:aG j x (b g8))(d:Xu x=some v):∃cv,(execOp b y).run P w=.ok (.value cv) w/\aG j v cv:=by
 rw[Xk3]at d;unfold Vf at d;generalize g:b g8=c at e;refine⟨c,?_,?_⟩
 ·unfold execOp;rw[i];simp only[g];cases e<;>(try simp only[reduceCtorEq]at d)<;>(try rfl)
  rename_i f a cc k l m h;cases f<;>first|rfl|trivial
 ·grind
theorem Wg{P:Program}{B0:Nat}{j:az}{m:aj}{w:World}(c:Rel B0 j m w){t ty:TypeId}{k:Nat}{d:TypeDesc}(g:P.underlying t=some d)(f:(k=0/\d=.string)\/(k=1/\∃e,d=.slice e)\/(k=2/\∃a e,d=.map a e))
  {x l v:ae} (i:aG j x l) (b:aM k x m=some v):∃cv,(Builtin.len_ #[t] ty #[l]).run P w=.ok cv w/\aG j v cv:=by
 have hd:d=.string\/(∃e,d=.slice e)\/(∃k e,d=.map k e):=by grind
 rw[Xvv]at b;unfold LU at b;split at b
 ·rcases f with⟨_,rfl⟩|⟨h,_⟩|⟨h,_⟩
  ·exact W6 c g hd i rfl b
  ·cases h
  grind
 ·rcases f with⟨h,_⟩|⟨_,e,rfl⟩|⟨h,_⟩
  ·cases h
  ·exact W6 c g hd i rfl b
  grind
 ·rcases f with⟨h,_⟩|⟨h,_⟩|⟨_,a,e,rfl⟩
  ·cases h
  ·cases h
  ·exact W6 c g hd i rfl b
 grind
theorem bu.one{j:az}{x:ae}{l:List ae}(h:bu j [x] l):∃a,l=[a]/\aG j x a:=by
 cases h with
 |cons _ e _ d c b=>cases b;grind
theorem bu.two{j:az}{x g8:ae}{l:List ae}(h:bu j [x,g8] l):∃b a,l=[b,a]/\aG j x b/\aG j g8 a:=by
 cases h with
 |cons _ f _ g d c =>obtain⟨a,rfl,e⟩:=c.one;exact⟨f,a,rfl,d,e⟩
theorem Xla{P:Program}{B0:Nat}{j:az}{m S:aj}{w:World}(o:Rel B0 j m w){b:Builtin}{l:Array TypeId}{ty:TypeId}{cs:Array Bool}{args Y:List ae}{v:ae}(r:bu j args Y)
  (g:vG P b l args m=some (v,S)) :
  ∃cv Z H1,(builtin b l ty cs Y.toArray).run P w=.ok (.value cv) Z/\Rel B0 H1 S Z/\aG H1 v cv/\bW j m w H1 S Z:=by
 unfold vG at g;split at g
 ·rename_i x t c;have c:l=#[t]:=by apply vc;exact c
  subst c;obtain⟨p,rfl,k⟩:=r.one;have fin:∀{cv:ae},(Builtin.len_ #[t] ty #[p]).run P w=.ok cv w->aG j v cv->S=m->∃cv Z H1,(builtin .len #[t] ty cs #[p]).run P w=.ok (.value cv) Z/\Rel B0 H1 S Z/\aG H1 v cv/\bW j m w H1 S Z:=fun{cv} f q A=>by subst A;exact⟨cv,w,j,by simp[builtin,f],o,q,.refl _ _ _⟩
  split at g
  ·rename_i h;obtain⟨f,q⟩:=fA g;obtain⟨cv,u,y⟩:=Wg (ty:=ty) o h (.inl ⟨rfl,rfl⟩) k f
   grind
  ·rename_i e h;obtain⟨f,q⟩:=fA g;obtain⟨cv,u,y⟩:=Wg (ty:=ty) o h (.inr (.inl ⟨rfl,e,rfl⟩)) k f
   grind
  ·rename_i a e h;obtain⟨f,q⟩:=fA g;obtain⟨cv,u,y⟩:=Wg (ty:=ty) o h (.inr (.inr ⟨rfl,a,e,rfl⟩)) k f
   grind
  ·rename_i n e h;simp at g;obtain⟨rfl,rfl⟩:=g;refine fin ?_ (.int _ _) rfl;simp[Builtin.len_,run_underlying h,goInt]
  ·rename_i a h;split at g
   ·rename_i n e C;simp at g;obtain⟨rfl,rfl⟩:=g;refine fin ?_ (.int _ _) rfl;simp[Builtin.len_,run_underlying h,run_underlying C,goInt]
   grind
  grind
 ·rename_i s x t F c;have c:l=#[t,F]:=by apply vc;exact c
  subst c;obtain⟨G,p,rfl,L,k⟩:=r.two;split at g
  ·rename_i e h;split at g
   ·rename_i i z D;obtain⟨Q,R,U,T⟩:=yq D;have fin:∀d,P.underlying F=some d->(d=.string\/∃H,d=.slice H)->((∃b,x=.string b)->i.size=1)->fP e _ _ s x m=some _ ->
      ∃cv Z H1,(builtin .append #[t,F] ty cs #[G,p]).run P w=.ok (.value cv) Z/\Rel B0 H1 S Z/\aG H1 v cv/\bW j m w H1 S Z:=λd f q A K=>by
     obtain⟨cv,Z,H1,u,y,N,O⟩:=Xqe (ty:=ty) o L k h f q Q R T A K;exact⟨cv,Z,H1,by simp[builtin,u],y,N,O⟩
    split at g
    ·grind
    ·rename_i H M;unfold dn at g;split at g
     ·cases g
     simp_all
    grind
   grind
  grind
 ·rename_i x J c;obtain⟨p,I,rfl,k,E⟩:=r.two;obtain⟨f,rfl⟩:=fA g;unfold wy at f;split at f
  ·cases k;cases E;split at f
   ·rename_i B;subst B;cases f;exact⟨_,w,j,bY,o,.int _ _,.refl _ _ _⟩
   grind
  grind
 ·rename_i x J c;obtain⟨p,I,rfl,k,E⟩:=r.two;obtain⟨f,rfl⟩:=fA g;unfold Mb at f;split at f
  ·cases k;cases E;split at f
   ·rename_i B;subst B;cases f;exact⟨_,w,j,bY,o,.int _ _,.refl _ _ _⟩
   grind
  grind
 grind
theorem Xqk{P:Program}{t:TypeId}{n:Nat}{e:TypeId}(h:UG P t=some (n,e)):P.underlying t=some (.array n e)\/∃a,P.underlying t=some (.pointer a)/\P.underlying a=some (.array n e):=by
 unfold UG at h
 grind
set_option maxHeartbeats 2000000 in
theorem Wh{P:Program}{B0:Nat}{j:az}{m S:aj}{w:World}(H:Rel B0 j m w){f L:Operand->ae}(y:Oper)(hf:∀x∈y.op.operands.toList,aG j (f x) (L x)){v:ae}
  (h:eI P f m y=some (v,S)):∃cv Z H1,NG P L y w cv Z/\Rel B0 H1 S Z/\aG H1 v cv/\bW j m w H1 S Z:=by
 obtain⟨dst,op,ty,pos,after,guard⟩:=y;have p:∀{cv:ae},(execOp L ⟨dst,op,ty,pos,after,guard⟩).run P w=.ok (.value cv) w->aG j v cv->S=m->∃cv Z H1,NG P L ⟨dst,op,ty,pos,after,guard⟩ w cv Z/\Rel B0 H1 S Z/\aG H1 v cv/\bW j m w H1 S Z:=fun{cv} B C h3=>by subst h3;exact⟨cv,w,j,.inl B,H,C,.refl _ _ _⟩
 unfold eI at h;cases op<;>simp only at h
 case move x =>simp at h;obtain⟨rfl,rfl⟩:=h;exact p (by simp[execOp]) (hf x dY) rfl
 case assign x =>simp at h;obtain⟨rfl,rfl⟩:=h;exact p (by simp[execOp]) (hf x dY) rfl
 case pick c a b =>
  have hc:=hf c dY;have ha:=hf a dY;have hb:=hf b dY;unfold pk at h;split at h
  ·rename_i V;rw[V]at hc;simp at h;obtain⟨rfl,rfl⟩:=h;generalize U:L c=cc at hc;cases hc;exact p (by simp[execOp,U,asBool]) ha rfl
  ·rename_i V;rw[V]at hc;simp at h;obtain⟨rfl,rfl⟩:=h;generalize U:L c=cc at hc;cases hc;exact p (by simp[execOp,U,asBool]) hb rfl
  grind
 case alloc t =>
  split at h
  ·rename_i i z G;obtain⟨N,O,R,q4⟩:=yq G;cases h;obtain⟨cv,Z,H1,q,A,F,J⟩:=Xwl H N O R;exact⟨cv,Z,H1,.inl (by simp[execOp,q]),A,F,J⟩
  grind
 case box t x =>cases h;obtain⟨cv,Z,H1,q,A,F,J⟩:=XiS (P:=P) H (t:=t) (hf x dY);exact⟨cv,Z,H1,.inl (by simp[execOp,q]),A,F,J⟩
 case build t parts =>
  have a2:=Vh parts.toList (λx M=>hf x (by simp[Op.operands,M]));have I:(parts.map λ(i,x)=>(i,L x))=(parts.toList.map λ(i,x)=>(i,L x)).toArray:=by apply vc;simp
  split at h
  ·rename_i i z G;obtain⟨N,O,R,q4⟩:=yq G;split at h
   ·rename_i fs E;split at h
    ·rename_i a9 a6;obtain⟨B,C⟩:=fA h;obtain⟨cv,q,A⟩:=Xew (w:=w) E N O R a6 a2 B;exact p (by simp only[execOp,I,Sem.run_bind,q,Result.andThen_ok,Sem.run_pure]) A C
    grind
   grind
  grind
 case buildSlice t len parts =>
  have a2:=Vh (j:=j) (f:=f) (g:=L) parts.toList (λx M=>hf x (by simp[Op.operands,M]));have I:(parts.map λ(i,x)=>(i,L x))=(parts.toList.map λ(i,x)=>(i,L x)).toArray:=by apply vc;simp
  split at h
  ·rename_i e E;split at h
   ·rename_i i z G;obtain⟨N,O,R,q4⟩:=yq G;split at h
    ·rename_i a7;obtain⟨cv,Z,H1,q,A,F,J⟩:=Xig H E N O R q4 len (oS a7) a2 h;exact⟨cv,Z,H1,.inl (by simp only[execOp,I,Sem.run_bind,q,Result.andThen_ok,Sem.run_pure]),A,F,J⟩
    grind
   grind
  grind
 case load t a =>
  split at h
  ·rename_i i d a3;obtain⟨N,O⟩:=Wr a3;obtain⟨B,C⟩:=fA h;obtain⟨cv,q,A⟩:=Xoq H (hf a dY) N O B;exact p (by simp[execOp,q]) A C
  grind
 case store t a x =>
  split at h
  ·rename_i i hi;obtain⟨B,rfl⟩:=V2 h;obtain⟨Z,H1,q,A,F⟩:=Xuh H (hf a dY) (hf x dY) hi B;exact⟨undef,Z,H1,.inr ⟨rfl,by simp[execOp,q]⟩,A,xR,F⟩
  grind
 case nilCheck x =>
  obtain⟨B,C⟩:=fA h;obtain⟨cv,q,A⟩:=Xmf (P:=P) (w:=w) (y:=⟨dst,.nilCheck x,ty,pos,after,guard⟩) rfl (hf x dY) B
  grind
 case binOp b t x T yt =>
  cases a1:wc P t
  ·rw[a1]at h;obtain⟨B,C⟩:=fA h;obtain⟨cv,q,A⟩:=Xz9 (w:=w) ak b t x T (hf x dY) (hf T dY) B;refine p ?_ A C;simp at q;simp only[execOp,Sem.run_bind,q,Result.andThen_ok,Sem.run_pure]
  ·rw[a1]at h;obtain⟨B,C⟩:=fA h;obtain⟨cv,q,A⟩:=XiP H ak b t a1 x T (hf x dY) (hf T dY) B;refine p ?_ A C;simp at q;simp only[execOp,Sem.run_bind,q,Result.andThen_ok,Sem.run_pure]
 case unOp u t x =>obtain⟨B,C⟩:=fA h;obtain⟨cv,q,A⟩:=XmB (P:=P) (w:=w) u (hf x dY) B;exact p (by simp[execOp,q]) A C
 case convert s d x =>obtain⟨cv,Z,H1,q,A,F,J⟩:=XfN H (hf x dY) h;exact⟨cv,Z,H1,.inl (by simp[execOp,q]),A,F,J⟩
 case makeInterface t x =>
  split at h
  ·cases h
  ·rename_i d a8 hd;simp at h;obtain⟨rfl,rfl⟩:=h;refine p ?_ (.iface _ _ _ (hf x dY)) rfl;simp only[execOp,Instr.makeInterface,Sem.run_bind,run_underlying hd,Result.andThen_ok];rfl
  grind
 case makeFunc fn first o =>
  simp at h;obtain⟨rfl,rfl⟩:=h;refine p bY (.func _ _ _ _ _ ?_ ?_) rfl
  ·rw[Za];exact EJ _ (λx M=>hf x (by simp[Op.operands,M]))
  ·rw[Za];exact EJ _ (λx M=>hf x (by simp[Op.operands,M]))
 case makeMap t r =>
  split at h
  ·cases h;obtain⟨cv,Z,H1,q,A,F,J⟩:=Xrc (P:=P) H t;exact⟨cv,Z,H1,.inl (by simp[execOp,q]),A,F,J⟩
  grind
 case makeSlice t l c =>
  split at h
  ·rename_i e E;split at h
   ·rename_i i z G;obtain⟨N,O,R,q4⟩:=yq G;obtain⟨cv,Z,H1,q,A,F,J⟩:=Xlb H E N O R q4 (hf l dY) (hf c dY) h;exact⟨cv,Z,H1,.inl (by simp[execOp,q]),A,F,J⟩
   grind
  grind
 case slice t x lo hi mx =>
  have M:=hf x dY;have a0:=XdZ lo (λT hy=>hf T (by subst hy;simp[Op.operands]));have X:=XdZ hi (λT hy=>hf T (by subst hy;simp[Op.operands]));split at h
  ·rename_i E;split at h
   ·obtain⟨B,C⟩:=fA h;obtain⟨cv,q,A⟩:=Xmu (w:=w) E M a0 X B;exact p (by simp[execOp,q]) A C
   grind
  ·rename_i e E;split at h
   ·rename_i i Y;split at h
    ·obtain⟨B,C⟩:=fA h;obtain⟨cv,q,A⟩:=Xq5 (w:=w) E Y M a0 X B;exact p (by simp[execOp,q]) A C
    grind
   grind
  ·split at h
   ·rename_i n e a5;split at h
    ·rename_i i Y;split at h
     ·obtain⟨B,C⟩:=fA h;obtain⟨cv,q,A⟩:=Xm3 H (Xqk a5) Y M a0 X B;exact p (by simp[execOp,q]) A C
     grind
    grind
   grind
 case fieldAddr t x k =>
  split at h
  ·rename_i fs E;split at h
   ·rename_i fl W;split at h
    ·rename_i i hi;split at h
     ·rename_i hs;have hs:=oS hs;obtain⟨B,C⟩:=fA h;obtain⟨cv,q,A⟩:=Xl4 (w:=w) E W hi aa (hf x dY) B;exact p (by simp[execOp,q]) A C
     grind
    grind
   grind
  grind
 case field t x k =>
  split at h
  ·rename_i fs E;split at h
   ·rename_i fl W;split at h
    ·rename_i i d a3;obtain⟨N,O⟩:=Wr a3;obtain⟨B,C⟩:=fA h;obtain⟨cv,q,A⟩:=Xyn (w:=w) E W N O (hf x dY) B;exact p (by simp[execOp,q]) A C
    grind
   grind
  grind
 case indexAddr t x i =>
  split at h
  ·rename_i n e E;split at h
   ·rename_i ie hi;obtain⟨B,C⟩:=fA h;obtain⟨cv,q,A⟩:=Xfv (w:=w) E hi (hf x dY) (hf i dY) B;exact p (by simp[execOp,q]) A C
   grind
  ·rename_i e E;split at h
   ·rename_i ie hi;obtain⟨B,C⟩:=fA h;obtain⟨cv,q,A⟩:=Xgi (w:=w) E hi (hf x dY) (hf i dY) B;exact p (by simp[execOp,q]) A C
   grind
  grind
 case index t x i =>
  split at h
  ·rename_i E;obtain⟨B,C⟩:=fA h;obtain⟨cv,q,A⟩:=Xn0 (w:=w) E (hf x dY) (hf i dY) B;exact p (by simp[execOp,q]) A C
  grind
 case lookup t x k ok =>
  split at h
  ·rename_i kt e E;split at h
   ·rename_i i z G;obtain⟨N,O,R,q4⟩:=yq G;split at h
    ·rename_i D hD;obtain⟨B,C⟩:=fA h;obtain⟨cv,q,A⟩:=Xv3 H ak E hD N O R ok (hf x dY) (hf k dY) B;exact p (by simp[execOp,q]) A C
    grind
   grind
  grind
 case mapUpdate t x k u =>
  split at h
  ·rename_i kt e E;split at h
   ·rename_i D hD;obtain⟨B,rfl⟩:=V2 h;obtain⟨Z,H1,q,A,F⟩:=Xdw H ak E hD (hf x dY) (hf k dY) (hf u dY) B;exact⟨undef,Z,H1,.inr ⟨rfl,by simp[execOp,q]⟩,A,xR,F⟩
   grind
  grind
 case insert t x k u =>
  split at h
  ·rename_i kt e E;split at h
   ·rename_i D hD;obtain⟨B,rfl⟩:=V2 h;obtain⟨Z,H1,q,A,F⟩:=Xdw H ak E hD (hf x dY) (hf k dY) (hf u dY) B;exact⟨undef,Z,H1,.inr ⟨rfl,by simp[execOp,q]⟩,A,xR,F⟩
   grind
  grind
 case range t x =>
  split at h
  ·rename_i E;obtain⟨cv,Z,H1,q,A,F,J⟩:=Xne H E (hf x dY) h;exact⟨cv,Z,H1,.inl (by simp[execOp,q]),A,F,J⟩
  grind
 case next x b =>
  cases b
  ·cases h
  ·obtain⟨cv,Z,H1,q,A,F,J⟩:=Xqj (P:=P) H (ty:=ty) (hf x dY) h;exact⟨cv,Z,H1,.inl (by simp[execOp,q]),A,F,J⟩
 case extract x k =>obtain⟨B,C⟩:=fA h;obtain⟨cv,q,A⟩:=Xpz (P:=P) (w:=w) (hf x dY) B;exact p (by simp[execOp,q]) A C
 case call c =>
  obtain⟨Q,K,a4⟩:=c;cases Q
  case builtin b =>have ha:=EJ K.toList (λx M=>hf x (by simp[Op.operands,Call.operands,M]));obtain⟨cv,Z,H1,q,A,F,J⟩:=Xla (ty:=ty) (cs:=K.map fun|.const _=>true|_=>false) H ha h;refine⟨cv,Z,H1,.inl ?_,A,F,J⟩;have I:K.map L=(K.toList.map L).toArray:=aq;simp only[execOp,resolve,Sem.run_bind,Sem.run_pure,Result.andThen_ok,invoke,I];exact q
  all_goals cases h
 all_goals cases h
end Go.Ab
namespace Go.Ab
open Go.RowKit (Below)
variable {B0 R d n:Nat}{P:Program}{A w Z:World}{a:Act}{args Y:List Value}{cv v:Value}{dst:Option Nat}{f:FuncId}{fn:Func}{m S:Mem}{y:Oper}{F:Array Oper}{E:Env}{j H1:az}
structure eS (D:List Deferred) (A:World) (n:Nat) (j:az) (E:Env) (m:Mem) (a:Act) (w:World):Prop where
 rel:Rel A.heap.size j m w
 below:Below A.heap.size A w
 env:∀i,aG j (E i) (a.tmps.getD i undef)
 size:a.tmps.size=n
 defers:a.defers=D
 low:m.low<=m.next
theorem Ky(h:Rel B0 j m w)(hb:Below B0 A w)(s:bW j m w H1 S Z):Below B0 A Z where
 os:=s.os.trans hb.os
 tape:=s.tape.trans hb.tape
 output:=s.output.trans hb.output
 size:=aO hb.size s.size
 block:=λk hk=>by rw[s.frame k (dU hk h.size) (λb pl hx hr=>by have:=h.base b pl hx hr;omega)];exact hb.block k hk
def E1(P:Program)(f:FuncId)(Y:List ae)(w:World)(R:ae->World->Prop):Prop:=
 ((callFunc f Y.toArray).run P w=.ok (.enter f Y.toArray) w/\Calls P f Y.toArray w λe Z=>∃v,e=.returned v/\R v Z) \/
 (∃v Z,(callFunc f Y.toArray).run P w=.ok (.value v) Z/\R v Z)
def tQ(B0:Nat)(j:az)(m:aj)(w:World)(v:ae)(S:aj)(cv:ae)(Z:World):Prop:=
 ∃H1,Rel B0 H1 S Z/\aG H1 v cv/\bW j m w H1 S Z
def mg(P:Program)(A:World)(g:fo):Prop:=
 ∀(j:az)(m:aj) (w:World) (f:FuncId) (args Y:List ae) (v:ae) (S:aj),Rel A.heap.size j m w->Below A.heap.size A w->bu j args Y->g f args m=some (v,S) ->
  E1 P f Y w (tQ A.heap.size j m w v S)
theorem Xql{K:Act->World->Prop}{i8:Exit->Act->World->Prop}{R:ae->World->Prop}(h:E1 P f Y w R)(d:∀cv Z,R cv Z->K (a.put y.dst cv) Z):y.upon P a K i8 ((callFunc f Y.toArray).run P w):=by
 rcases h with⟨b,c⟩|⟨v,Z,b,c⟩
 ·rw[b];refine c.mono λe Z g=>?_
  grind
 ·rw[b];exact d v Z c
theorem Xou{g:fo}(hT:mg P A g)(C:Rel A.heap.size j m w)(hB:Below A.heap.size A w){f:Operand->ae}(y:Oper)(hf:∀x∈y.op.operands.toList,aG j (f x) (a.eval x))(q:ng P g f m y=some (v,S)){K:Act->World->Prop}{i8:Exit->Act->World->Prop}(B:∀cv Z,tQ A.heap.size j m w v S cv Z->K (a.put y.dst cv) Z):y.wp P a w K i8:=by
 have r:eI P f m y=some _->y.wp P a w K i8:=λh=>by
  obtain⟨cv,Z,E,d,s,G,H⟩:=Wh C y hf h;have D:=B cv Z ⟨E,s,G,H⟩;unfold Oper.wp;rcases d with d|⟨rfl,d⟩
  ·rw[d];exact D
  ·rw[d];exact D
 unfold ng at q;split at q
 ·rename_i x c M i;have z:=hf x (by rw[i];simp[Op.operands,Call.operands]);have I:=EJ c.toList (λF L=>hf F (by simp[i,Op.operands,Call.operands,L]));unfold o9 at q;split at q
  ·rename_i l first o u
   rw[u]at z;generalize t:a.eval x=N at z;cases z with
   |func _ _ _ b k d s =>
   have n:=(d.append I).append s;have J:=hT j m w l _ _ v S C hB n q;have:=Xql (i8:=i8) J B;unfold Oper.wp;have e:(execOp a.eval y).run P w=(callFunc l (b.toList++c.toList.map a.eval++k.toList).toArray).run P w:=by
    have p:(b.toList++c.toList.map a.eval++k.toList).toArray=b++c.map a.eval++k:=by apply vc;simp
    rw[p];simp only[execOp,i,resolve,Deferred.ofValue,t,Sem.run_bind,Sem.run_pure,Result.andThen_ok,invoke]
   grind
  grind
 grind
theorem dE(h:E d=v):bH n E d v=E:=by
 funext i;unfold bH;cases a:Nat.beq i d&&Nat.blt d n
 ·rfl
 simp_all
theorem Xw6(h:∀i,aG j (E i) (a.tmps.getD i undef))(e:a.tmps.size=n)(dst:Option Nat)(f:aG j v cv):∀i,aG j (put n E dst v i) ((a.put dst cv).tmps.getD i undef):=by
 intro i;cases dst with
 |none=>exact h i
 |some d =>
  simp only[put,bH,Act.put];cases c:Nat.beq i d&&Nat.blt d n
  ·simp only[cond_false];have:(a.tmps.setIfInBounds d cv).getD i undef=a.tmps.getD i undef:=by
    by_cases hid:i=d
    ·subst hid;have b:¬i<n:=λb=>by
      have:(Nat.beq i i&&Nat.blt i n)=true:=by simp only[bT];exact⟨tH i,by simp[Nat.blt];omega⟩
      grind
     grind
    ·simp
     grind
   grind
  simp_all
theorem KL:(a.put dst v).tmps.size=a.tmps.size:=by cases dst<;>simp[Act.put]
theorem put_defers:(a.put dst v).defers=a.defers:=by cases dst<;>rfl
theorem XgT(h:∀i,aG j (E i) (a.tmps.getD i undef)){l:List Operand}(b:l.all Fg=true):∀x∈l,aG j (dD E x) (a.eval x):=by
 intro x c;have:=cL.1 b x c;cases x with
 |tmp t=>exact h t
 |const v=>exact qX this
 |global g=>trivial
 |func f=>exact .func _ _ _ _ _ .nil .nil
theorem eS.after{D:List Deferred}(h:eS D A n j E m a w)(e:tQ A.heap.size j m w v S cv Z) :
  ∃H1,eS D A n H1 (put n E dst v) S (a.put dst cv) Z/\bW j m w H1 S Z:=by
 obtain⟨H1,c,d,b⟩:=e;exact⟨H1,⟨c,Ky h.rel h.below b,Xw6 (λi=>(h.env i).mono b.le) h.size dst d,by rw[KL];exact h.size,by rw[put_defers];exact h.defers,aO b.low (aO h.low b.next)⟩,b⟩
theorem eS.skip{D:List Deferred}(h:eS D A n j E m a w)(dst:Option Nat):eS D A n j (put n E dst undef) m (a.put dst undef) w:=⟨h.rel,h.below,Xw6 h.env h.size dst xR,by rw[KL];exact h.size,by rw[put_defers];exact h.defers,h.low⟩
variable {D:List Deferred}
def ru(P:Program)(g:fo)(n:Nat)(F:Array Oper):List Oper->Nat->List Nat->Env->aj->(Env->aj->Option Rs)->Option Rs
 |[],_,_,E,m,k=>k E m
 |y::os,i,a,E,m,k =>
  match y.op.operands.toList.all Fg with
  |false=>none
  |true =>
   match y.guard with
   |none=>pE P (ng P g (dD E) m y) (dD E) m y λv m=>ru P g n F os (i+1) a (put n E y.dst v) m k
   | some (c,b)=>match(F[c]?).bind (·.dst)with
    |none=>none
    |some d =>
     match a.contains c with
     |true=>brs (E d) (ru P g n F os (i+1) (i::a) (put n E y.dst undef) m k)
     | false=>ke (E d)
      (match b with
       |true=>pE P (ng P g (dD (bH n E d (.bool true))) m y) (dD (bH n E d (.bool true))) m y λv m=>ru P g n F os (i+1) a (put n (bH n E d (.bool true)) y.dst v) m k
       |false=>ru P g n F os (i+1) (i::a) (put n (bH n E d (.bool true)) y.dst undef) m k)
      (match b with
       |true=>ru P g n F os (i+1) (i::a) (put n (bH n E d (.bool false)) y.dst undef) m k
       |false=>pE P (ng P g (dD (bH n E d (.bool false))) m y) (dD (bH n E d (.bool false))) m y λv m=>ru P g n F os (i+1) a (put n (bH n E d (.bool false)) y.dst v) m k)
theorem Wt{b:Type}{x:Option (ae × aj)}{k:ae->aj->Option b}{r:b}(h:bp x k=some r):∃v m,x=some (v,m)/\k v m=some r:=by
 cases x with
 |none=>cases h
 |some a=>exact⟨a.1,a.2,rfl,h⟩
theorem Xr9(h:∀i,aG j (E i) (a.tmps.getD i undef)){i6:Nat}(hd:(F[i6]?).bind (·.dst)=some d) :
  (∀b,E d=.bool b->yielded F a.tmps i6=some b)/\(E d=.tuple #[]->yielded F a.tmps i6=none):=by
 have f:=h d;constructor
 ·intro b k;rw[k]at f;generalize e:a.tmps.getD d _=c at f;cases f;have:a.tmps[d]?=some (.bool b):=by
   rw[tM]at e;cases g:a.tmps[d]? with
   |none=>rw[g]at e;cases e
   |some l=>grind
  simp[yielded,hd,this]
 ·intro k;rw[k]at f;generalize e:a.tmps.getD d _=c at f;cases f;rw[tM]at e;cases g:a.tmps[d]? with
  |none=>simp[yielded,hd,g]
  |some l=>rw[g]at e;simp at e;simp[yielded,hd,g,e]
theorem V8{P:Program}{A:World}{g:fo}(hT:mg P A g){n:Nat}{F:Array Oper}{i8:Exit->Act->World->Prop}{k:Env->aj->Option Rs}{r:Rs}{Q:az}{G:aj}{Y:World} :
  ∀(l:List Oper)(i:Nat) (H:List Nat) (j:az) (E:Env) (m:aj) (a:Act) (w:World),(∀s,l[s]?=F[i+s]?)->eS D A n j E m a w->bW Q G Y j m w->ru P g n F l i H E m k=some r ->
   (∀H1 I S U Z,eS D A n H1 I S U Z->bW Q G Y H1 S Z->k I S=some r->i8 .normal U Z)->wpOps P F i8 (List.range' i l.length) a w
 |[],i,H,j,E,m,a,w,_,p,K,b,J=>by simp only[ru]at b;exact J j E m a w p K b
 |y::os,i,H,j,E,m,a,w,V,p,K,b,J=>by
  have W:F[i]?=some y:=by have:=V 0;simpa using this.symm
  have z:∀s,os[s]?=F[i+1+s]?:=λs=>by
   have:=V (s+1)
   grind
  simp only[iq,Ni];simp only[ru,Xkr]at b;split at b
  case h_1=>cases b
  case h_2 N =>
  have x:∀{h:Env},eS D A n j h m a w->(bp _ _)=some r->Region.wanted y (yielded F a.tmps)=true ->
    wpOps P F i8 (i::List.range' _ _) a w:=fun{h} e L R=>by
   obtain⟨v,S,h1,h2⟩:=Wt L;simp only[wpOps,W,R,dW];refine .inl (Xou hT e.rel e.below y (XgT e.env N) h1 λcv Z o=>?_);obtain⟨H1,M,O⟩:=e.after (dst:=y.dst) o;exact V8 hT os (i+1) H H1 _ S _ Z z M (K.trans O) h2 J
  have f:∀{h:Env},eS D A n j h m a w->ru P g n F os _ _ _ m k=some r->Region.wanted y (yielded F a.tmps)=false ->
    wpOps P F i8 (i::List.range' _ _) a w:=fun{h} e L R=>by
   simp only[wpOps,W,R,dp,dV];exact V8 hT os (i+1) (i::H) j _ m _ w z (e.skip y.dst) K L J
  split at b
  ·rename_i t;exact x p b (by simp[Region.wanted,t])
  ·rename_i s a1 t;split at b
   ·cases b
   ·rename_i d hd;obtain⟨q,T⟩:=Xr9 p.env hd;split at b
    ·unfold brs at b;split at b
     ·rename_i c;exact f p b (by simp[Region.wanted,t,T c])
     trivial
    ·rw[Xzu]at b;split at b
     ·rename_i c;rw[dE c]at b;split at b
      ·exact x p b (by simp[Region.wanted,t,q _ c])
      ·exact f p b (by simp[Region.wanted,t,q _ c])
     ·rename_i c;rw[dE c]at b;split at b
      ·exact f p b (by simp[Region.wanted,t,q _ c])
      ·exact x p b (by simp[Region.wanted,t,q _ c])
     trivial
structure Ks where
 nx:Env->Mem->Option Rs
 ex:Nat->Env->Mem->Option Rs
 rt:Env->Mem->Option Rs
abbrev rz:=Array Oper->Env->aj->(Env->aj->Option Rs)->Option Rs
def Bl(a:Env->aj->Ks->Option Rs):Nat->Env->aj->Ks->Option Rs
 |0,_,_,_=>none
 |i+1,E,m,k=>a E m { nx:=λE m=>Bl a i E m k,ex:=k.ex,rt:=k.rt }
def ev(P:Program)(g:fo)(R:Nat)(d:rz)(n:Nat):Code->Env->aj->Ks->Option Rs
 |.skip,E,m,k=>k.nx E m
 |.label _,E,m,k=>k.nx E m
 |.region _ F e,E,m,k=>match e with|true=>d F E m k.nx|false=>ru P g n F F.toList 0 [] E m k.nx
 |.seq a b,E,m,k=>ev P g R d n a E m { nx:=λE m=>ev P g R d n b E m k,ex:=k.ex,rt:=k.rt }
 |.cond c a b,E,m,k=>ke (dD E c) (ev P g R d n a E m k) (ev P g R d n b E m k)
 |.block id c,E,m,k=>ev P g R d n c E m { nx:=k.nx,ex:=λi E m=>bif Nat.beq i id then k.nx E m else k.ex i E m,rt:=k.rt }
 |.loop c,E,m,k=>Bl (λE m k=>ev P g R d n c E m k) R E m k
 |.exit id,E,m,k=>k.ex id E m
 |.ret,E,m,k=>k.rt E m
 |.scope c,E,m,k=>ev P g R d n c E m k
 |_,_,_,_=>none
def Wo(P:Program)(A:World)(n:Nat)(e:rz):Prop:=
 ∀(D:List Deferred)(id:Nat) (F:Array Oper) (j:az) (E:Env) (m:aj) (a:Act) (w:World) (k:Env->aj->Option Rs) (r:Rs) (d:Exit->Act->World->Prop),eS D A n j E m a w->e F E m k=some r ->
  (∀H1 b S c Z,eS D A n H1 b S c Z->bW j m w H1 S Z->k b S=some r->d .normal c Z)->(Code.region id F true).wp P d a w
structure KOk (D:List Deferred) (A:World) (n:Nat) (k:Ks) (r:Rs) (Q:az) (G:Mem) (w0:World) (i8:Exit->Act->World->Prop):Prop where
 nx:∀j E m a w,eS D A n j E m a w->bW Q G w0 j m w->k.nx E m=some r->i8 .normal a w
 ex:∀id j E m a w,eS D A n j E m a w->bW Q G w0 j m w->k.ex id E m=some r->i8 (.exit id) a w
 rt:∀j E m a w,eS D A n j E m a w->bW Q G w0 j m w->k.rt E m=some r->i8 .ret a w
theorem Xy5(n:Nat):List.range n=List.range' 0 n:=List.range_eq_range'
theorem XmS{g:fo}(hT:mg P A g){O:rz}(U:Wo P A n O){r:Rs} :
  ∀(c:Code)(j:az) (E:Env) (m:aj) (a:Act) (w:World) (k:Ks) (I:Exit->Act->World->Prop) (Q:az) (G:aj) (B:World),eS D A n j E m a w->bW Q G B j m w->ev P g R O n c E m k=some r->KOk D A n k r Q G B I->c.wp P I a w:=by
 intro c
 induction c with
 |skip=>intro j E m a w k I Q G B s z h o;exact wp_skip (o.nx j E m a w s z h)
 |label l=>intro j E m a w k I Q G B s z h o;exact wp_label (o.nx j E m a w s z h)
 |region id F M =>
  intro j E m a w k I Q G B s z h o;cases M
  ·simp only[ev]at h;refine wp_region ?_;have:=V8 hT _ 0 [] j E m a w (λW=>ar) s z h (λC d S H Z u y p=>o.nx C d S H Z u y p);rw[Xy5]
   grind
  ·simp only[ev]at h;exact U D id F j E m a w _ r I s h (λC d S H Z u y p=>o.nx C d S H Z u (z.trans y) p)
 |seq x T K L =>
  intro j E m a w k I Q G B s z h o;simp only[ev]at h;refine wp_seq (K j E m a w _ _ Q G B s z h ⟨?_,?_,?_⟩)
  ·intro C d S H Z u y p;exact L C d S H Z k I Q G B u y p o
  ·intro id C d S H Z u y p;exact o.ex id C d S H Z u y p
  ·intro C d S H Z u y p;exact o.rt C d S H Z u y p
 |cond c x T K L =>
  intro j E m a w k I Q G B s z h o;simp only[ev]at h;have key:∀b,dD E c=.bool b->a.eval c=.bool b:=λb J=>by
   cases c with
   |tmp t =>have:=s.env t;simp only[dD]at J;rw[J]at this;simp only[Act.eval];generalize a.tmps.getD t _=q at this;cases this;rfl
   |const v=>exact J
   |global g=>trivial
   |func f=>cases J
  rw[Xzu]at h;split at h
  ·rename_i J;exact wp_cond_true (key _ J) (K j E m a w k I Q G B s z h o)
  ·rename_i J;exact wp_cond_false (key _ J) (L j E m a w k I Q G B s z h o)
  trivial
 |block id x N =>
  intro j E m a w k I Q G B s z h o;simp only[ev]at h;refine wp_block (N j E m a w _ _ Q G B s z h ⟨?_,?_,?_⟩)
  ·intro C d S H Z u y p;exact o.nx C d S H Z u y p
  ·intro i C d S H Z u y p;simp only[sN]at p;simp only[Exit.inBlock];split at p
   ·rename_i e;rw[ah e];exact o.nx C d S H Z u y p
   ·rename_i e;rw[af e];exact o.ex i C d S H Z u y p
  ·intro C d S H Z u y p;exact o.rt C d S H Z u y p
 |loop x N =>
  intro j E m a w k I Q G B s z h o;simp only[ev]at h;refine wp_loop_rounds R ?_;have key:∀(i:Nat)(j:az) (E:Env) (m:aj) (a:Act) (w:World),eS D A n j E m a w->bW Q G B j m w->Bl (λE m k=>ev P g R O n x E m k) i E m k=some r->Code.rounds P x I i a w:=by
   intro i
   induction i with
   |zero=>intro j E m a w s z h;cases h
   |succ i V =>
    intro j E m a w s z h;simp only[Bl]at h;rw[rounds_succ];refine N j E m a w _ _ Q G B s z h ⟨?_,?_,?_⟩
    ·assumption
    ·intro id C d S H Z u y p;exact o.ex id C d S H Z u y p
    ·intro C d S H Z u y p;exact o.rt C d S H Z u y p
  grind
 |scope x N =>intro j E m a w k I Q G B s z h o;simp only[ev]at h;exact wp_scope_straight (N j E m a w k _ Q G B s z h ⟨λj E m a w u y p=>o.nx j E m a w u y p,λid j E m a w u y p=>o.ex id j E m a w u y p,λj E m a w u y p=>o.rt j E m a w u y p⟩)
 |exit id=>intro j E m a w k I Q G B s z h o;exact wp_exit (o.ex id j E m a w s z h)
 |ret=>intro j E m a w k I Q G B s z h o;exact wp_ret (o.rt j E m a w s z h)
 |rangeFunc _ _ _ _=>intro j E m a w k I Q G B s z h o;trivial
 |goto _=>intro j E m a w k I Q G B s z h o;trivial
 |refuse _=>intro j E m a w k I Q G B s z h o;trivial
def refs(n:Nat):Nat->ae->Bool
 |0,_=>false
 | d+1,v=>match v with
  |.bool _|.int _ _|.string _|.float _ _|.nilFunc|.nilIface|.pointer none|.slice none _ _|.map none=>true
  |.pointer (some a)=>Nat.blt a.block n
  |.slice (some a) _ _=>Nat.blt a.block n
  |.map (some b)=>Nat.blt b n
  |.func _ f c=>f.toList.all (refs n d)&&c.toList.all (refs n d)
  |.iface _ v=>refs n d v
  |.agg cs=>cs.toList.all (refs n d)
  |.tuple cs=>cs.toList.all (refs n d)
  |_=>false
theorem Xyt(h:∀b,b<n->H1 b=j b):∀(d:Nat) {v cv:ae},refs n d v=true->aG H1 v cv->aG j v cv:=by
 intro d
 induction d with
 |zero=>intro v cv e;cases e
 |succ d z =>
  have all:∀{l cl:List ae},l.all (refs n d)=true->bu H1 l cl->bu j l cl:=by
   intro l
   induction l with
   |nil=>intro cl _ i;cases i;exact .nil
   |cons x l u =>
    intro cl e i;simp only[km,bT]at e;cases i with
    |cons _ H _ G s i=>exact .cons _ _ _ _ (z e.1 s) (u e.2 i)
  intro v cv e s;have lt:∀b,Nat.blt b n=true->b<n:=λb p=>oU;cases s<;>simp only[refs]at e
  case bool=>exact .bool _
  case int=>exact .int _ _
  case float=>exact .float _ _
  case string=>exact .string _
  case nilPtr=>exact .nilPtr
  case ptr b y r B O pl p f m=>exact .ptr b y r B O pl aq f m
  case qx=>exact .qx
  case slice b y A k t B O o pl p q D f m=>exact .slice b y A k t B O o pl aq q D f m
  case yX=>exact .yX
  case map b R pl p m=>exact .map b R pl aq m
  case func fn a c w F g C =>simp only[bT]at e;exact .func _ _ _ _ _ (all e.1 g) (all e.2 C)
  case nilFunc=>exact .nilFunc
  case iface t x I E=>exact .iface _ _ _ (z e E)
  case nilIface=>exact .nilIface
  case agg a w g=>exact .agg _ _ (all e g)
  case tuple a w g=>exact .tuple _ _ (all e g)
theorem iF.back{j H1:az}(h:∀b pl,j b=some pl->H1 b=some pl){w Z:World}{pl:Pl}{y:dQ}(p:iF j w pl y)(k:iF H1 Z pl y):iF j Z pl y:=by
 cases y with
 |cells c ver F ro g =>obtain⟨_,_,_,C,ty,lo,hi,_,_,q,_⟩:=p;obtain⟨a,d,e,x,g,t,r,f,l,m,z⟩:=k;refine⟨a,d,e,x,g,t,r,f,l,λi v hi u=>?_,z⟩;obtain⟨J,_,G⟩:=q i v hi u;obtain⟨A,H,I⟩:=m i v hi u;exact⟨A,H,G.back h I⟩
 |map K n =>obtain⟨_,_,E,_,q⟩:=p;obtain⟨a,d,o,e,f⟩:=k;exact⟨a,d,o,e,q.back h f⟩
 |dM s pos=>exact k
 |B2 _ _ _ _ =>obtain⟨_,_,_,_,D,q,_⟩:=p;obtain⟨a,d,e,f,B,l,m⟩:=k;exact⟨a,d,e,f,B,q.back h l,m⟩
def aD(m:aj)(l:Nat):aj:={ next:=m.next,low:=l,tr:=m.tr }
def E7(m:aj):aj:=Mem.rec (motive:=λ_=>aj) (λn _ t=>E4 n λn=>⟨n,n,t⟩) m
theorem Xtm(m:aj):E7 m=aD m m.next:=by
 cases m with
 |mk n l t =>show E4 n (λn=>(⟨n,n,t⟩:aj))=_;rw[Xrj];rfl
theorem U4(h:Rel B0 j m w)(l:Nat):Rel B0 j (aD m l) w:=⟨h.blocks,h.inj,h.base,h.size,h.fresh⟩
def qt(m:aj)(v:ae)(m1:aj):ae × aj:=
 bif Nat.ble m.next m1.low&&refs m.next 8 v then(v,m)else(v,aD m1 (min m.low m1.low))
def gc:=@qt
theorem sT(m:aj)(v:ae)(m1:aj):gc m v m1=qt m v m1:=rfl
theorem XmK{m1:aj}(h:Rel B0 j m w)(i:Rel B0 H1 m1 Z)(l:aG H1 v cv)(a:bW j (aD m m.next) w H1 m1 Z) :
  tQ B0 j m w (gc m v m1).1 (gc m v m1).2 cv Z:=by
 rw[sT];unfold qt;cases g:Nat.ble m.next m1.low&&refs m.next 8 v
 ·simp only[cond_false];refine⟨H1,U4 i _,l,⟨a.le,a.next,by simp[aD];omega,λb e f=>?_,a.os,a.tape,a.output,a.size,a.frame,a.oE,a.un⟩⟩;have:=a.same b (by simp[aD]at e;omega) f;exact this
 ·simp only[cond_true];simp only[bT]at g;have k:=oS g.1;have same:∀b,b<m.next->m1.get b=m.get b/\H1 b=j b:=λb c=>a.same b aa c;have d:∀b pl,j b=some pl->H1 b=some pl:=λb pl c=>by rw[(same b (h.blocks b pl c).1).2];exact c
  refine⟨j,⟨λb pl c=>?_,h.inj,h.base,aO h.size a.size,h.fresh⟩,Xyt (λb c=>(same b c).2) 8 g.2 l,⟨.refl j,c6 _,c6 _,λ_ _ _=>⟨rfl,rfl⟩,a.os,a.tape,a.output,a.size,a.frame,λb pl c q=>.inl ⟨b,pl,c,q,rfl⟩,λ_ _ h=>⟨h,rfl⟩⟩⟩;obtain⟨n,y,o,r⟩:=h.blocks b pl c;obtain⟨_,t,p,s⟩:=i.blocks b pl (d b pl c);rw[(same b n).1,o]at p;cases p;exact⟨n,y,o,r.back d s⟩
def yy(P:Program):List ResultVar->Env->aj->Option (List ae)
 |[],_,_=>some []
 |.tmp t::r,E,m=>ob (yy P r E m) λl=>some (E t::l)
 | .cell a t::r,E,m=>match ti P t with
  |some (i,d)=>ob (X9 (rj d) i.size (E a) m) λv=>ob (yy P r E m) λl=>some (v::l)
  |none=>none
def bZ(l:List ae):ae:=match l with|[v]=>v|l=>.tuple ⟨l⟩
def uG(P:Program)(fn:Func)(E:Env)(m:aj):Option Rs:=ob (yy P fn.results.toList E m) λl=>some (bZ l,m)
def qs(args:List ae):Env:=λi=>(args[i]?).getD undef
def np(P:Program)(g:fo)(R:Nat)(a:Nat->rz)(fn:Func)(args:List ae)(m:aj):Option Rs:=
 match fn.body with
 |none=>none
 |some c=>if Nat.ble args.length fn.ntmps then ev P g R (a fn.ntmps) fn.ntmps c (qs args) m { nx:=uG P fn,ex:=λ_ _ _=>none,rt:=uG P fn }else none
def Lg(P:Program)(R:Nat)(a:fo->Nat->rz)(g:fo):fo:=λf args m =>
 match P.funcs[f]? with
 |none=>none
 |some fn=>if fn.name== "runtime.NumGoroutine" then none else
  match np P g R (a g) fn args (aD m m.next)with
  |some (v,b)=>some (gc m v b)
  |none=>none
def Bq(a:Array ae)(r:ResultVar):Sem ae:=
 match r with
 |.tmp t=>pure (a.getD t undef)
 |.cell x t=>do loadVar t (<-asAddr (a.getD x undef))
theorem Xrb(fn:Func)(a:Array ae):results fn a=(fn.results.mapM (Bq a) >>= λvs=>pure (if h:vs.size=1 then vs[0]else .tuple vs)):=by rfl
theorem V4{P:Program}{A:World}{n:Nat}{j:az}{E:Env}{m:aj}{a:Act}{w:World}(h:eS D A n j E m a w):∀{rs:List ResultVar} {l:List ae},yy P rs E m=some l ->
    ∃cl,(rs.mapM (Bq a.tmps)).run P w=.ok cl w/\bu j l cl
  |[],l,b=>by simp only[yy,cE]at b;subst b;exact⟨[],ar,.nil⟩
  |.tmp t::rs,l,b=>by
    simp only[yy,LZ]at b;split at b
    . rename_i y c;cases b;obtain⟨cl,k,o⟩:=V4 h c;exact⟨_::cl,by simp only[List.mapM_cons,Bq,Sem.run_bind,Sem.run_pure,Result.andThen_ok,k],.cons _ _ _ _ (h.env t) o⟩
    . cases b
  |.cell x t::rs,l,b=>by
    simp only[yy,LZ]at b;split at b
    . rename_i i d f;obtain⟨z,B⟩:=Wr f;split at b
      . rename_i v g;split at b
        . rename_i y c;cases b;obtain⟨cl,k,o⟩:=V4 h c;have e:=h.env x;obtain⟨cv,p,s⟩:=Xoq (P:=P) h.rel e z B g;refine⟨cv::cl,?_,.cons _ _ _ _ s o⟩;have u:(Bq a.tmps (.cell x t)).run P w=.ok cv w:=by
            unfold Bq;generalize r:a.tmps.getD x undef=q at e p;generalize E x=C at e g;cases e<;>first
              |(simp only[EB,Bn,reduceCtorEq]at g;done)
              | (simp only[Instr.loadAt,Instr.sureAddr,Sem.run_bind,Sem.run_pure,Result.andThen_ok]at p
                 simp only[r,asAddr,Sem.run_bind,Sem.run_pure,Result.andThen_ok];exact p)
          simp only[List.mapM_cons,Sem.run_bind,Sem.run_pure,u,Result.andThen_ok,k]
        . cases b
      . cases b
    . cases b
theorem Xqr(h:eS D A n j E m a w){r:Rs}(b:uG P fn E m=some r) :
  ∃cv,(results fn a.tmps).run P w=.ok cv w/\aG j r.1 cv/\r.2=m:=by
 unfold uG at b;rw[LZ]at b;split at b
 ·rename_i l c;cases b;obtain⟨cl,k,o⟩:=V4 h c;have g:(fn.results.mapM (Bq a.tmps)).run P w=.ok cl.toArray w:=by
   simp[Array.mapM_eq_mapM_toList,Sem.run_map,k,Result.andThen_ok]
  refine⟨if h:cl.toArray.size=1 then cl.toArray[0]else .tuple cl.toArray,?_,?_,rfl⟩
  ·rw[Xrb];simp only[Sem.run_bind,g,Result.andThen_ok,Sem.run_pure]
  ·clear c;cases o with
   |nil=>exact .tuple _ _ .nil
   |cons v q l s f c =>
    cases c with
    |nil=>exact f
    |cons u p l2 e i d =>have:¬(q::p::e).toArray.size=1:=ar;rw[dif_neg this];exact .tuple _ _ (.cons _ _ _ _ f (.cons _ _ _ _ i d))
 ·cases b
theorem Xso(d:Rel A.heap.size j m w)(hB:Below A.heap.size A w)(f:m.low<=m.next)(b:bu j args Y)(c:args.length<=n) :
  eS [] A n j (qs args) m { tmps:=Y.toArray++Array.replicate (n-Y.toArray.size) undef,defers:=[] } w:=by
 have e:=b.length;refine⟨d,hB,λi=>?_,cF,rfl,f⟩;simp only[qs,tM];rw[Array.getElem?_append];cases a:args[i]? with
 |none =>have hi:args.length<=i:=aq;rw[af cF];rw[Array.getElem?_replicate];split<;>exact xR
 |some x =>
  obtain⟨k,g,h⟩:=b.get a;have hi:i<Y.length:=by grind
  rw[ah aa];simp only[List.getElem?_toArray,g,Option.getD_some];exact h
theorem Xqm{g:fo}(hT:mg P A g){B:fo->Nat->rz}(I:∀n,Wo P A n (B g n)):mg P A (Lg P R B g):=by
 intro j m w f q Y v S C hB E e;unfold Lg at e;split at e
 ·cases e
 ·rename_i fn s;split at e
  ·cases e
  ·rename_i z;split at e
   ·rename_i u y p;simp only[cE]at e;have L:v=(gc m u y).1:=by rw[e]
    have K:S=(gc m u y).2:=by rw[e]
    subst L K;unfold np at p;split at p
    ·cases p
    ·rename_i c F;split at p
     ·rename_i d;have d:=oS d;refine .inl ⟨by simp[callFunc,s,show ¬fn.name= "runtime.NumGoroutine" from by simpa using z,F],?_⟩;have J:=E.length;have t:(aD m m.next).low<=(aD m m.next).next:=c6 _;have r:eS [] A fn.ntmps j (qs q) (aD m m.next) { tmps:=Y.toArray++Array.replicate (fn.ntmps-Y.toArray.size) undef,defers:=[] } w:=
       Xso (U4 C _) hB t E d
      have fin:∀D i b a k Z,eS D A fn.ntmps i b a k Z->bW j (aD m m.next) w i a Z->uG P fn b a=some (u,y) ->
        ∃cv,(results fn k.tmps).run P Z=.ok cv Z/\∃x,Ending.returned cv=.returned x/\tQ A.heap.size j m w (gc m u y).1 (gc m u y).2 x Z:=λD i b a k Z h o l=>by
       obtain⟨cv,M,G,H⟩:=Xqr h l;simp only at G H;subst H;exact⟨cv,M,cv,rfl,XmK C h.rel G o⟩
      refine calls_of_wp s F ?_;refine XmS hT (I fn.ntmps) c j _ _ _ w _ _ j (aD m m.next) w r (.refl _ _ _) p ⟨?_,?_,?_⟩
      ·intro i b a k Z h o l;exact⟨h.defers,fin _ i b a k Z h o l⟩
      ·intro id i b a k Z h o l;cases l
      ·intro i b a k Z h o l;exact⟨h.defers,fin _ i b a k Z h o l⟩
     ·cases p
   ·cases e
end Go.Ab
end
