/-
  An evaluator over abstract memories, and that what it answers the machine answers. No conditions.
-/
import Derived.Test.YtodhdplpcelokaaGreatDoorAb4
import Derived.KernelRfl
import Derived.Lib.AtoiAll
import Derived.Lib.ParseIntB
import Derived.Lib.ItoaNum
import Derived.Lib.LaidTab
import Derived.Lib.Join
import Derived.Lib.Fields
import Derived.Laws.Externs
import Derived.Lib.Index
import Derived.Lib.Bytealg
import Derived.IntWalk

set_option linter.all false
set_option maxRecDepth 100000
noncomputable section
namespace Go.Ab
open Go
variable {B B0 b bytes e fro zb3 id y r size ver:Nat}{T:TypeId}{W:List Nat}{a ga:Addr}{args c' Y l new:List Value}{c x g8:Code}{cs:Array Value}{cv v:Value}{f U:FuncId}{fn:Func}{k:IntKind}{m S m1 m2:Mem}{mx:Int}{ro zb4:Bool}{ty ty2:Option Nat}{w:World}{j:az}
structure Gt where
 dN:fo
 bx:Nat
section
variable {P:Program}{g:fo}{R:Nat}{dr:rz}{n:Nat}
theorem tr{a:Type}{A B C:Env->aj->a}(h:∀E m,A E m=B E m)(k:∀E m,B E m=C E m:=by intro _ _;kernel_rfl):∀E m,A E m=C E m:=λE m=>(h E m).trans (k E m)
theorem aJ{K:Ks}{f:Env->aj->Option Rs}(h:∀E m,ev P g R dr n g8 E m K=f E m:=by intro _ _;kernel_rfl):∀E m,ev P g R dr n (.seq x g8) E m K=ev P g R dr n x E m ⟨f,K.ex,K.rt⟩:=by intro E m;have:(λE m=>ev P g R dr n g8 E m K)=f:=aq;show ev P g R dr n x E m _=_;rw[this]
theorem XrZ{K:Ks}:∀E m,ev P g R dr n (.seq x g8) E m K=ev P g R dr n x E m ⟨λE m=>ev P g R dr n g8 E m K,K.ex,K.rt⟩:=λ_ _=>rfl
theorem lR{K:Ks}:∀E m,ev P g R dr n x E m K=ev P g R dr n x E m K:=λ_ _=>rfl
theorem kD{c:Operand}{K:Ks}{f h:Env->aj->Option Rs}(hf:∀E m,ev P g R dr n x E m K=f E m:=by intro _ _;kernel_rfl)(a:∀E m,ev P g R dr n g8 E m K=h E m:=by intro _ _;kernel_rfl) :
  ∀E m,ev P g R dr n (.cond c x g8) E m K=ke (dD E c) (f E m) (h E m):=by
 intro E m;rw[<-hf,<-a];rfl
theorem Xo{K:Ks}{f:Env->aj->Option Rs}(h:∀E m,ev P g R dr n c E m ⟨K.nx,λi E m=>bif Nat.beq i id then K.nx E m else K.ex i E m,K.rt⟩=f E m:=by intro _ _;kernel_rfl) :
  ∀E m,ev P g R dr n (.block id c) E m K=f E m:=h
theorem XK{K:Ks}{f:Env->aj->Option Rs}(h:∀E m,ev P g R dr n c E m K=f E m):∀E m,ev P g R dr n (.scope c) E m K=f E m:=h
theorem bK{K:Ks}(F:Nat->Env->aj->Option Rs)(a:∀E m,F 0 E m=none)(b:∀i,∀E m,ev P g R dr n c E m ⟨F i,K.ex,K.rt⟩=F (i+1) E m) :
  ∀E m,ev P g R dr n (.loop c) E m K=F R E m:=by
 have key:∀i E m,Bl (λE m k=>ev P g R dr n c E m k) i E m K=F i E m:=by
  intro i
  induction i with
  |zero=>intro E m;rw[a];rfl
  |succ i d =>intro E m;rw[<-b];have:(λE m=>Bl (λE m k=>ev P g R dr n c E m k) i E m K)=F i:=aq;show ev P g R dr n c E m _=_;rw[this]
 exact key R
end
theorem Xx{P:Program}{g:fo}{R:Nat}{dr:Nat->rz}(a:fn.body=some c)(b:Nat.ble args.length fn.ntmps=true){r:Env->aj->Option Rs}(h:∀E m,ev P g R (dr fn.ntmps) fn.ntmps c E m ⟨uG P fn,λ_ _ _=>none,uG P fn⟩=r E m)(m:aj):np P g R dr fn args m=r (qs args) m:=by
 unfold np;rw[a];simp only[b,dW]
 grind
theorem Xk{P:Program}{g:fo}{R:Nat}{dr:Nat->rz}(a:fn.body=some c)(b:Nat.ble args.length fn.ntmps=true){r:Env->aj->Option Rs}(m:aj)(h:∀E m,ev P g R (dr fn.ntmps) fn.ntmps c E m ⟨uG P fn,λ_ _ _=>none,uG P fn⟩=r E m:=by intro _ _;kernel_rfl):np P g R dr fn args m=r (qs args) m:=Xx a b h m
open Go.RowKit (Below)
structure Entry (P:Program) where
 f:FuncId
 fn:Func
 hf:P.funcs[f]?=some fn
 hn:(fn.name== "runtime.NumGoroutine")=false
 h:Gt->List Value->Mem->Option Rs
 ok:∀M' args m r,h M' args m=some r->np P M'.dN M'.bx (px P M'.dN) fn args m=some r
abbrev Over:=FuncId->List ae->aj->Option Rs
def zd{P:Program}(fns:Tr (Entry P))(b:Over)(R:Nat):Nat->fo:=
 Nat.rec (motive:=λ_=>fo) (λf args m=>b f args m) (λ_ c f args m=>Option.rec (Option.rec none (λe=>Bool.rec none (Option.rec none (λp=>Prod.rec (λv m1=>some (gc m v m1)) p) (e.h ⟨c,R⟩ args (E7 m))) (Nat.beq e.f f)) (fns.get (Nat.succ f))) (λr=>some r) (b f args m))
theorem VH{P:Program}(fns:Tr (Entry P))(a:Over)(R n:Nat)(f:FuncId)(args:List ae)(m:aj):zd fns a R (n+1) f args m=match a f args m with
  |some r=>some r
  | none=>match fns.get (f+1)with
   |none=>none
   | some e=>match Nat.beq e.f f with
    |false=>none
    | true=>match e.h ⟨zd fns a R n,R⟩ args (aD m m.next)with
     |some (v,m1)=>some (gc m v m1)
     |none=>none:=by
 rw[<-Xtm];show(Option.rec (Option.rec none (λe=>Bool.rec none (Option.rec none (λp=>Prod.rec (λv m1=>some (gc m v m1)) p) (e.h ⟨zd fns a R n,R⟩ args (E7 m))) (Nat.beq e.f f)) (fns.get (Nat.succ f))) (λr=>some r) (a f args m):Option Rs)=_;cases a f args m with
 |some r=>rfl
 |none =>
  show(Option.rec none _ (fns.get (f+1)):Option Rs)=_;cases fns.get (f+1)with
  |none=>rfl
  |some e =>
   show(Bool.rec none (Option.rec none (λp=>Prod.rec (λv m1=>some (gc m v m1)) p) (e.h ⟨zd fns a R n,R⟩ args (E7 m))) (Nat.beq e.f f):Option Rs)=_;simp only;cases Nat.beq e.f f with
   |false=>rfl
   |true =>
    simp only;cases e.h ⟨zd fns a R n,R⟩ args (E7 m)with
    |none=>rfl
    |some p=>rfl
def ia(P:Program)(A:World)(a:Over):Prop:=mg P A (λf args m=>a f args m)
theorem Xzx{P:Program}(h:P.follows .mixedOrders=true){A:World}{fns:Tr (Entry P)}{i:Over}{R:Nat}(c:ia P A i):∀n,mg P A (zd fns i R n)
 |0=>c
 |n+1=>by
  intro j m w f args Y v S d hB g a;rw[VH]at a;split at a
  ·rename_i r l;cases a;exact c j m w f args Y v S d hB g l
  ·split at a
   ·cases a
   ·rename_i e q;split at a
    ·cases a
    ·rename_i k;have b:=wM k;have p:=Xzx h (fns:=fns) (R:=R) c n;refine XsB h (R:=R) p j m w f args Y v S d hB g ?_;split at a
     ·rename_i u m1 o;have:=e.ok _ _ _ _ o;unfold Lg;rw[<-b,e.hf];simp only[e.hn,dp,dV];rw[this];exact a
     ·cases a
def XX(s:Gt->ae->aj->Option Rs):Gt->List ae->aj->Option Rs:=λa args m=>match args with|[b]=>s a b m|_=>none
theorem cg{P:Program}{s:Gt->ae->aj->Option Rs}(e:∀(a:Gt)(b:ae) (m:aj),np P a.dN a.bx (px P a.dN) fn [b] m=s a b m):∀a args m r,XX s a args m=some r->np P a.dN a.bx (px P a.dN) fn args m=some r:=by
 intro a args m r h;unfold XX at h;split at h
 ·grind
 ·cases h
def XY(s:Gt->ae->ae->aj->Option Rs):Gt->List ae->aj->Option Rs:=λa args m=>match args with|[b,c]=>s a b c m|_=>none
theorem cT{P:Program}{s:Gt->ae->ae->aj->Option Rs}(e:∀(a:Gt)(b:ae) (c:ae) (m:aj),np P a.dN a.bx (px P a.dN) fn [b,c] m=s a b c m):∀a args m r,XY s a args m=some r->np P a.dN a.bx (px P a.dN) fn args m=some r:=by
 intro a args m r h;unfold XY at h;split at h
 ·grind
 ·cases h
def XZ(s:Gt->ae->ae->ae->aj->Option Rs):Gt->List ae->aj->Option Rs:=λa args m=>match args with|[b,c,d]=>s a b c d m|_=>none
theorem mU{P:Program}{s:Gt->ae->ae->ae->aj->Option Rs}(e:∀(a:Gt)(b:ae) (c:ae) (d:ae) (m:aj),np P a.dN a.bx (px P a.dN) fn [b,c,d] m=s a b c d m):∀a args m r,XZ s a args m=some r->np P a.dN a.bx (px P a.dN) fn args m=some r:=by
 intro a args m r h;unfold XZ at h;split at h
 ·grind
 ·cases h
def Ya(s:Gt->ae->ae->ae->ae->aj->Option Rs):Gt->List ae->aj->Option Rs:=λa args m=>match args with|[b,c,d,e]=>s a b c d e m|_=>none
theorem E9{P:Program}{s:Gt->ae->ae->ae->ae->aj->Option Rs}(e:∀(a:Gt)(b:ae) (c:ae) (d:ae) (f:ae) (m:aj),np P a.dN a.bx (px P a.dN) fn [b,c,d,f] m=s a b c d f m):∀a args m r,Ya s a args m=some r->np P a.dN a.bx (px P a.dN) fn args m=some r:=by
 intro a args m r h;unfold Ya at h;split at h
 ·grind
 ·cases h
open Go.RowKit (Below)
variable {P:Program}{A:World}
theorem enters(hf:P.funcs[f]?=some fn)(b:fn.body=some c)(hn:(fn.name== "runtime.NumGoroutine")=false)(args:Array ae)(w:World):(callFunc f args).run P w=.ok (.enter f args) w:=by have a:¬fn.name= "runtime.NumGoroutine":=aq;simp[callFunc,hf,a,b]
theorem Xry{Z:World}(c:Rel B0 j m w)(a:Below w.heap.size w Z):Rel B0 j m Z/\bW j m w j m Z:=by
 have d:∀b pl,j b=some pl->pl.aF<w.heap.size:=λb pl h=>by obtain⟨_,y,_,e⟩:=c.blocks b pl h;exact e.there
 refine⟨⟨λb pl h=>?_,c.inj,c.base,aO c.size a.size,c.fresh⟩,⟨.refl j,c6 _,c6 _,λ_ _ _=>⟨rfl,rfl⟩,a.os,a.tape,a.output,a.size,λB hB _=>a.block B hB,λb pl h i=>.inl ⟨b,pl,h,i,rfl⟩,λ_ _ h=>⟨h,rfl⟩⟩⟩;obtain⟨f,y,g,e⟩:=c.blocks b pl h;exact⟨f,y,g,e.of_heap (a.block _ (d b pl h))⟩
theorem Ep(c:(callFunc f Y.toArray).run P w=.ok (.enter f Y.toArray) w)(b:Calls P f Y.toArray w λe Z=>e=.returned cv/\Below w.heap.size w Z)(a:Rel A.heap.size j m w)(i:aG j v cv):E1 P f Y w (tQ A.heap.size j m w v m):=by
 refine .inl ⟨c,b.mono λe Z h=>⟨cv,h.1,j,?_⟩⟩;obtain⟨d,g⟩:=Xry a h.2
 grind
theorem xP(c:(callFunc f Y.toArray).run P w=.ok (.enter f Y.toArray) w)(b:Calls P f Y.toArray w λe Z=>e=.returned cv/\Z=w)(a:Rel A.heap.size j m w)(d:aG j v cv):E1 P f Y w (tQ A.heap.size j m w v m):=Ep c (b.mono λe Z h=>⟨h.1,by simp[h.2,Below.refl]⟩) a d
theorem XqO(hB:Below A.heap.size A w)(h:A.cell? a=some v):w.cell? a=some v:=by
 have b:a.block<A.heap.size:=by
  rcases lT a.block A.heap.size with c|c
  ·exact c
  ·unfold World.cell? at h
   grind
 rw[<-h];exact hB.cell b
def orElse(a b:Over):Over:=λf args m=>match a f args m with|some r=>some r|none=>b f args m
theorem Xri{a b:Over}(h:ia P A a)(i:ia P A b):ia P A (orElse a b):=by
 intro j m w f d Y v S g hB e c;simp only[orElse]at c;split at c
 ·rename_i r k;cases c;exact h j m w f _ _ v S g hB e k
 ·exact i j m w f _ _ v S g hB e c
theorem bu.strings{s:ByteArray}{c:List ae}(h:bu j (.string s::l) c):∃c',c=.string s::c'/\bu j l c':=by
 cases h with
 |cons _ e _ d a b=>cases a;grind
theorem bu.My{n:Int}{c:List ae}(h:bu j (.int k n::l) c):∃c',c=.int k n::c'/\bu j l c':=by
 cases h with
 |cons _ e _ d a b=>cases a;grind
theorem bu.wD{c:List ae}(h:bu j [] c):c=[]:=by cases h;rfl
def Wc(U:FuncId)(a:List UInt8->List UInt8->Int):Over:=λf args m=>match args with
 |[.string s,.string sub]=>if f=U/\s.size<4294967281 then some (.int .i64 (a s.data.toList sub.data.toList),m)else none
 |_=>none
theorem Xq6{b:List UInt8->List UInt8->Int}(hf:P.funcs[U]?=some fn)(o:fn.body=some c)(hn:(fn.name== "runtime.NumGoroutine")=false)(d:A.cell? ga=some (.int .i64 mx))(p:∀(s sub:ByteArray)(w:World),s.size<4294967281->w.cell? ga=some (.int .i64 mx)->Calls P U #[.string s,.string sub] w λe Z=>e=.returned (.int .i64 (b s.data.toList sub.data.toList))/\Z=w):ia P A (Wc U b):=by
 intro j m w f g Y v S n hB l a;simp only[Wc]at a;split at a
 ·rename_i s sub;split at a
  ·rename_i h;obtain⟨rfl,q⟩:=h;simp at a;obtain⟨rfl,rfl⟩:=a;obtain⟨r,rfl,i⟩:=l.strings;obtain⟨t,rfl,k⟩:=i.strings;cases k.wD;exact xP (enters hf o hn _ _) (p s sub w q (XqO hB d)) n (.int _ _)
  grind
 grind
def XL(U:FuncId)(k:IntKind)(a:List UInt8->Int->Option ae):Over:=λf args m=>match args with
 |[.string s,.int b c]=>if f=U/\b=k then match a s.data.toList c with|some v=>some (v,m)|none=>none else none
 |_=>none
theorem Xru{b:List UInt8->Int->Option ae}(hf:P.funcs[U]?=some fn)(p:fn.body=some c)(hn:(fn.name== "runtime.NumGoroutine")=false)(q:∀(s:ByteArray)(n:Int) (v:ae) (w:World),b s.data.toList n=some v->qg v=true/\Calls P U #[.string s,.int k n] w λe Z=>e=.returned v/\Z=w):ia P A (XL U k b):=by
 intro j m w f d Y v S o hB l a;simp only[XL]at a;split at a
 ·rename_i s B n;split at a
  ·rename_i h;obtain⟨rfl,rfl⟩:=h;split at a
   ·rename_i u r;simp at a;obtain⟨rfl,rfl⟩:=a;obtain⟨y,rfl,g⟩:=l.strings;obtain⟨z,rfl,i⟩:=g.My;cases i.wD;obtain⟨t,x⟩:=q s n u w r;exact xP (enters hf p hn _ _) x o (qX t)
   grind
  grind
 grind
def WS(U:FuncId)(qo:List UInt8->UInt8->Nat):Over:=λf args m=>match args with
 |[.string s,.string sub]=>if f=U then match sub.data.toList with|[b]=>some (.int .i64 (qo s.data.toList b),m)|_=>none else none
 |_=>none
theorem Xr7{qo:List UInt8->UInt8->Nat}(hf:P.funcs[U]?=some fn)(o:fn.body=some c)(hn:(fn.name== "runtime.NumGoroutine")=false)(p:∀(s:ByteArray)(b:UInt8) (w:World),Calls P U #[.string s,.string ⟨#[b]⟩] w λe Z=>e=.returned (.int .i64 (qo s.data.toList b))/\Z=w):ia P A (WS U qo):=by
 intro j m w f g Y v S n hB l a;simp only[WS]at a;split at a
 ·rename_i s sub;split at a
  ·rename_i h;subst h;split at a
   ·rename_i b d;simp at a;obtain⟨rfl,rfl⟩:=a;obtain⟨q,rfl,i⟩:=l.strings;obtain⟨r,rfl,k⟩:=i.strings;cases k.wD;have e:sub=⟨#[b]⟩:=by
     apply ByteArray.ext;apply vc;exact d
    rw[e];exact xP (enters hf o hn _ _) (p s b w) n (.int _ _)
   grind
  grind
 grind
open Go.RowKit (Below)
open Go.RowKit (Below)
open Go.RowKit (Below)
theorem Wa(hB:Below A.heap.size A w){n:String}(h:A.var? P n=some cs):w.var? P n=some cs:=by
 unfold World.var? at h|-;cases b:P.globalNamed n with
 |none=>grind
 |some g =>
  rw[b]at h;simp at h|-;have a:g<A.heap.size:=by grind
  rw[hB.block g a];exact h
theorem Xxv{w1:World}(h:Rel B0 j m w)(e:Below w.heap.size w w1)(pl:Pl)(q:w.heap.size<=pl.aF)(y:dQ)(n:iF (j.bH m.next pl) w1 pl y) :
  Rel B0 (j.bH m.next pl) (m.push y) w1/\bW j m w (j.bH m.next pl) (m.push y) w1:=by
 have i:∀s,j m.next≠some s:=λs E=>by have:=(h.blocks _ _ E).1;omega
 have r:j.le (j.bH m.next pl):=λb p n=>⟨p,by rw[az.cN pl (λx=>i p aq),n],.inl rfl⟩
 have k:=λB hB=>e.block B hB;refine⟨⟨λb p c=>?_,λb t p A c f u v=>?_,λb p c u=>?_,aO h.size e.size,λb n=>by rw[Mem.bV,af (by simp at n;omega)];exact h.fresh b (by simp at n;omega)⟩,?_⟩
 ·by_cases a:b=m.next
  ·subst a;rw[az.dE]at c;cases c;exact⟨ar,y,pR,n⟩
  ·rw[az.cN pl a]at c;obtain⟨F,z,C,l⟩:=h.blocks b p c;refine⟨cF,z,by rw[Mem.bV,af (bq a)];exact C,?_⟩;exact(l.mono r).of_heap (k _ l.there)
 ·by_cases a:b=m.next
  ·by_cases d:t=m.next
   ·omega
   ·subst a;rw[az.dE]at c;rw[az.cN pl d]at f;cases c;obtain⟨_,z,_,l⟩:=h.blocks t A f;have:=l.there;omega
  ·by_cases d:t=m.next
   ·subst d;rw[az.dE]at f;rw[az.cN pl a]at c;cases f;obtain⟨_,z,_,l⟩:=h.blocks b p c;have:=l.there;omega
   ·rw[az.cN pl a]at c;rw[az.cN pl d]at f;exact h.inj b t p A c f u v
 ·by_cases a:b=m.next
  ·subst a;rw[az.dE]at c;cases c;exact aO h.size q
  ·rw[az.cN pl a]at c;exact h.base b p c u
 ·refine⟨r,ar,ar,λb _ o=>?_,e.os,e.tape,e.output,e.size,λB hB _=>k B hB,λb p c u=>?_,λb D o=>?_⟩
  ·have g:b≠m.next:=by omega
   exact⟨by rw[Mem.bV,af (bq g)],az.cN pl g⟩
  ·by_cases a:b=m.next
   ·subst a;rw[az.dE]at c
    grind
   ·rw[az.cN pl a]at c
    grind
  ·have g:b≠m.next:=by omega
   exact⟨by rwa[az.cN pl g],by rw[Mem.bV,af (bq g)]⟩
theorem Kz{x:ae}(o:(callFunc f Y.toArray).run P w=.ok (.enter f Y.toArray) w)(p:qg x=true)(n:Calls P f Y.toArray w λe Z=>∃N,e=.returned (.tuple #[x,.iface T (.pointer (some ⟨N,0,none⟩))])/\w.heap.size<=N/\(∃C ty,Z.heap[N]?=some (.cells C ty (0,0)))/\Below w.heap.size w Z)(k:Rel A.heap.size j m w) :
  E1 P f Y w (tQ A.heap.size j m w (.tuple #[x,.iface T (.pointer (some ⟨m.next,0,some 0⟩))]) (m.push (.cells [] 0 0 false none))):=by
 refine .inl ⟨o,n.mono λe Z h=>?_⟩;obtain⟨N,rfl,g,⟨C,ty,d⟩,l⟩:=h;refine⟨_,rfl,j.bH m.next ⟨N,0,0,C.size,0,false⟩,?_⟩;have a:iF (j.bH m.next ⟨N,0,0,C.size,0,false⟩) Z ⟨N,0,0,C.size,0,false⟩ (.cells [] 0 0 false none):=by refine⟨rfl,rfl,c6 _,C,ty,0,0,d,rfl,λi v _ h=>?_,λ_ i _ _ _=>aa,λt h=>by cases h⟩;simp at h
 obtain⟨b,c⟩:=Xxv k l _ g _ a;refine⟨b,.tuple _ _ (.cons _ _ _ _ (qX p) (.cons _ _ _ _ (.iface _ _ _ (.ptr _ 0 0 N 0 _ (az.dE _ _ _) aY λ_=>⟨rfl,c6 _,rfl⟩)) .nil)),c⟩
def wB:Nat->Nat->List UInt8->List UInt8
 |0,_,a=>a
 |f+1,n,a=>match Nat.blt n 10 with|true=>UInt8.ofNat (48+n)::a|false=>wB f (n / 10) (UInt8.ofNat (48+n%10)::a)
theorem XA:∀(f n:Nat)(a:List UInt8),n<10^f->1<=f->wB f n a=Lib.decDigits n++a
 |0,_,_,_,h=>aa
 |f+1,n,a,h,_=>by
  rw[Lib.decDigits];by_cases hn:n<10
  ·have:Nat.blt n 10=true:=by simp_all
   simp only[wB,this,dif_pos hn];rfl
  ·have:Nat.blt n 10=false:=by
    cases b:Nat.blt n 10
    ·rfl
    ·simp[Nat.blt]at b;omega
   have hf:1<=f:=by grind
   simp only[wB,this,dif_neg hn];rw[XA f _ _ aa hf];simp
def XbM(n:Int):List UInt8:=match n with|.ofNat k=>wB 20 k []|.negSucc k=>45::wB 20 (k+1) []
theorem Xo4{n:Int}(a:-9223372036854775808<=n)(b:n<=9223372036854775807):XbM n=Lib.itoa n:=by
 cases n with
 |ofNat k =>have c:(k:Int)<=9223372036854775807:=b;show wB 20 k []=Lib.itoa (k);rw[XA 20 k [] aa aa,lC,Lib.itoa,af aa,pI]
 |negSucc k =>
  have e:Int.negSucc k=-((k)+1):=aa;have c:-((k:Int)+1)≥-9223372036854775808:=by rw[<-e];exact a
  show 45::wB 20 _ []=Lib.itoa _;rw[XA 20 _ [] aa aa,lC,Lib.itoa,ah aa];rfl
def rq(n:Int):Bool:=match n with|.ofNat k=>Nat.blt k 9223372036854775808|.negSucc k=>Nat.blt k 9223372036854775808
theorem KC{n:Int}(h:rq n=true):-9223372036854775808<=n/\n<=9223372036854775807:=by
 cases n with
 |ofNat k =>
  simp[rq,Nat.blt]at h
  grind
 |negSucc k =>simp[rq,Nat.blt]at h;omega
def W1(U:FuncId):Over:=λf args m=>match args with
 |[.int .i64 n]=>if f=U/\rq n=true then some (.string ⟨(XbM n).toArray⟩,m)else none
 |_=>none
theorem Xtk(hf:P.funcs[U]?=some fn)(p:fn.body=some c)(hn:(fn.name== "runtime.NumGoroutine")=false)(b:Lib.TabIs P A "internal/strconv.uint64pow10" .u64 Lib.pow10Tab)(q:∀(n:Int)(w:World),-9223372036854775808<=n->n<=9223372036854775807->Lib.TabIs P w "internal/strconv.uint64pow10" .u64 Lib.pow10Tab->Calls P U #[.int .i64 n] w λe Z=>e=.returned (.string ⟨(Lib.itoa n).toArray⟩)/\Below w.heap.size w Z):ia P A (W1 U):=by
 intro j m w f d Y v S o hB l a;simp only[W1]at a;split at a
 ·rename_i n;split at a
  ·rename_i h;obtain⟨rfl,hi⟩:=h;simp at a;obtain⟨rfl,rfl⟩:=a;obtain⟨r,rfl,k⟩:=l.My;cases k.wD;obtain⟨g,i⟩:=KC hi;rw[Xo4 g i];exact Ep (enters hf p hn _ _) (q n w g i (Wa hB b)) o (.string _)
  grind
 grind
def oC(x:ae)(T:TypeId)(m:aj):Option Rs:=some (.tuple #[x,.iface T (.pointer (some ⟨m.next,0,some 0⟩))],m.push (.cells [] 0 0 false none))
def XE(U:FuncId)(T:TypeId):Over:=λf args m=>match args with
 | [.string s]=>if f=U/\s.size<=281474976710656 then(match Lib.atoiAll s.data.toList with
   |.ok v=>some (.tuple #[.int .i64 v,.nilIface],m)
   |Lib.NumEnd.syntax=>oC (.int .i64 0) T m
   |.range=>oC (.int .i64 (Lib.atoiSat s.data.toList)) T m)else none
 |_=>none
theorem Xu4(hf:P.funcs[U]?=some fn)(g:fn.body=some c)(hn:(fn.name== "runtime.NumGoroutine")=false){V:World->Prop}(l:∀w,Below A.heap.size A w->V w)(n:∀(s:ByteArray)(v:Int) (w:World),s.size<=281474976710656->Lib.atoiAll s.data.toList=.ok v->Calls P U #[.string s] w λe Z=>e=.returned (.tuple #[.int .i64 v,.nilIface])/\Below w.heap.size w Z)(o:∀(s:ByteArray)(w:World),s.size<=281474976710656->Lib.atoiAll s.data.toList=Lib.NumEnd.syntax->V w->Calls P U #[.string s] w λe Z=>∃N,e=.returned (.tuple #[.int .i64 0,.iface T (.pointer (some ⟨N,0,none⟩))])/\w.heap.size<=N/\(∃C ty,Z.heap[N]?=some (.cells C ty (0,0)))/\Below w.heap.size w Z)(p:∀(s:ByteArray)(w:World),s.size<=281474976710656->Lib.atoiAll s.data.toList=.range->V w->Calls P U #[.string s] w λe Z=>∃N,e=.returned (.tuple #[.int .i64 (Lib.atoiSat s.data.toList),.iface T (.pointer (some ⟨N,0,none⟩))])/\w.heap.size<=N/\(∃C ty,Z.heap[N]?=some (.cells C ty (0,0)))/\Below w.heap.size w Z) :
  ia P A (XE U T):=by
 intro j m w f k Y v S d hB q a;simp only[XE]at a;split at a
 ·rename_i s;split at a
  ·rename_i h;obtain⟨rfl,i⟩:=h;obtain⟨t,rfl,r⟩:=q.strings;cases r.wD;split at a
   ·rename_i u b;simp at a;obtain⟨rfl,rfl⟩:=a;exact Ep (enters hf g hn _ _) (n s u w i b) d (.tuple _ _ (.cons _ _ _ _ (.int _ _) (.cons _ _ _ _ .nilIface .nil)))
   ·rename_i b;simp only[oC,cE,kN]at a;obtain⟨rfl,rfl⟩:=a;exact Kz (enters hf g hn _ _) rfl (o s w i b (l w hB)) d
   ·rename_i b;simp only[oC,cE,kN]at a;obtain⟨rfl,rfl⟩:=a;exact Kz (enters hf g hn _ _) rfl (p s w i b (l w hB)) d
  grind
 grind
def uO(U:FuncId)(T:TypeId)(size:Int)(B:Nat):Over:=λf args m=>match args with
 | [.string s,.int .i64 a,.int .i64 b]=>if f=U/\s.size<=281474976710656/\a=10/\b=size then(match Lib.parseUintB B s.data.toList with
   |.ok u=>some (.tuple #[.int .u64 u,.nilIface],m)
   |Lib.NumEnd.syntax=>oC (.int .u64 0) T m
   |.range=>oC (.int .u64 (2^B-1:Nat)) T m)else none
 |_=>none
theorem Xu1{size:Int}(hf:P.funcs[U]?=some fn)(g:fn.body=some c)(hn:(fn.name== "runtime.NumGoroutine")=false){V:World->Prop}(l:∀w,Below A.heap.size A w->V w)(n:∀(s:ByteArray)(u:Nat) (w:World),s.size<=281474976710656->Lib.parseUintB B s.data.toList=.ok u->Calls P U #[.string s,.int .i64 10,.int .i64 size] w λe Z=>e=.returned (.tuple #[.int .u64 u,.nilIface])/\Below w.heap.size w Z)(o:∀(s:ByteArray)(w:World),s.size<=281474976710656->Lib.parseUintB B s.data.toList=Lib.NumEnd.syntax->V w->Calls P U #[.string s,.int .i64 10,.int .i64 size] w λe Z=>∃N,e=.returned (.tuple #[.int .u64 0,.iface T (.pointer (some ⟨N,0,none⟩))])/\w.heap.size<=N/\(∃C ty,Z.heap[N]?=some (.cells C ty (0,0)))/\Below w.heap.size w Z)(p:∀(s:ByteArray)(w:World),s.size<=281474976710656->Lib.parseUintB B s.data.toList=.range->V w->Calls P U #[.string s,.int .i64 10,.int .i64 size] w λe Z=>∃N,e=.returned (.tuple #[.int .u64 (2^B-1:Nat),.iface T (.pointer (some ⟨N,0,none⟩))])/\w.heap.size<=N/\(∃C ty,Z.heap[N]?=some (.cells C ty (0,0)))/\Below w.heap.size w Z) :
  ia P A (uO U T size B):=by
 intro j m w f k Y v S d hB q a;simp only[uO]at a;split at a
 ·rename_i s y F;split at a
  ·rename_i h;obtain⟨rfl,i,rfl,rfl⟩:=h;obtain⟨z,rfl,r⟩:=q.strings;obtain⟨D,rfl,t⟩:=r.My;obtain⟨E,rfl,x⟩:=t.My;cases x.wD;split at a
   ·rename_i u b;simp at a;obtain⟨rfl,rfl⟩:=a;exact Ep (enters hf g hn _ _) (n s u w i b) d (.tuple _ _ (.cons _ _ _ _ (.int _ _) (.cons _ _ _ _ .nilIface .nil)))
   ·rename_i b;simp only[oC,cE,kN]at a;obtain⟨rfl,rfl⟩:=a;exact Kz (enters hf g hn _ _) rfl (o s w i b (l w hB)) d
   ·rename_i b;simp only[oC,cE,kN]at a;obtain⟨rfl,rfl⟩:=a;exact Kz (enters hf g hn _ _) rfl (p s w i b (l w hB)) d
  grind
 grind
def uS:List ae->Option (List ByteArray)
 |[]=>some []
 |.string s::r=>(match uS r with|some l=>some (s::l)|none=>none)
 |_=>none
theorem Xgo{j:az}:∀{cs a:List ae} {l:List ByteArray},uS cs=some l->bu j cs a->a=l.map .string/\cs.length=l.length
 |[],_,l,h,b=>by
  cases b;simp only[uS,cE]at h
  grind
 |v::r,_,l,h,b=>by
  cases b with
  |cons _ f _ e b d =>
   cases v with
   |string s =>
    simp only[uS]at h;split at h
    ·rename_i l2 c;cases h;obtain⟨e1,e2⟩:=Xgo c d;cases b
     grind
    grind
   |_=>cases h
def Bm(l:List ByteArray)(a:ByteArray):List UInt8:=Lib.join (l.map (·.data.toList)) a.data.toList
def XT(U:FuncId):Over:=λf args m=>match args with
 |[.slice none 0 0,.string _]=>if f=U then some (.string ⟨#[]⟩,m)else none
 | [.slice (some a) n r,.string b]=>if f=U then(match j0 m ⟨a.block,a.off,some (r / 2)⟩ n with
   | some cs=>(match uS cs with
    | some l=>(match Nat.ble n 140737488355328&&Nat.ble (Bm l b).length 140737488355328 with
     |true=>some (.string ⟨(Bm l b).toArray⟩,m)
     |false=>none)
    |none=>none)
   |none=>none)else none
 |_=>none
theorem Xt5(hf:P.funcs[U]?=some fn)(G:fn.body=some c)(hn:(fn.name== "runtime.NumGoroutine")=false)(E:∀(a:Option Addr)(c:Nat) (d:ByteArray) (w:World),Calls P U #[.slice a 0 c,.string d] w λe Z=>e=.returned (.string ⟨#[]⟩)/\Z=w)(h1:∀(bk y c:Nat)(u:List ByteArray) (d:ByteArray) (w:World),(∀(s:Nat) x,u[s]?=some x->w.cell? ⟨bk,y+s,none⟩=some (.string x))->bk<w.heap.size->u.length<=140737488355328->u.length<=c ->
   (Lib.join (u.map (·.data.toList)) d.data.toList).length<=140737488355328 ->
   Calls P U #[.slice (some ⟨bk,y,none⟩) u.length c,.string d] w λe Z=>e=.returned (.string ⟨(Lib.join (u.map (·.data.toList)) d.data.toList).toArray⟩)/\Below w.heap.size w Z):ia P A (XT U):=by
 intro j m w f T Y v S C hB V k;simp only[XT]at k;split at k
 ·rename_i d;split at k
  ·rename_i h;subst h;simp at k;obtain⟨rfl,rfl⟩:=k;cases V with
   |cons _ v' _ l' Q D =>cases Q;obtain⟨c2,rfl,R⟩:=D.strings;cases R.wD;exact xP (enters hf G hn _ _) (E _ 0 d w) C (.string _)
  grind
 ·rename_i a n r d;split at k
  ·rename_i h;subst h;split at k
   ·rename_i cs i;split at k
    ·rename_i l D;split at k
     ·rename_i p;simp at k;obtain⟨rfl,rfl⟩:=k;simp only[bT]at p;have b1:=oS p.1;have b2:=oS p.2;cases V with
      |cons _ v' _ l' Q J =>
       obtain⟨c2,rfl,R⟩:=J.strings;cases R.wD;have a0:cs.length=n:=by
        rw[jF]at i;unfold iI at i;split at i
        ·grind
        ·cases i
       cases Q with
       |slice b y es _ t B O o pl H a2 a3 hr N =>
        by_cases M:n=0
        ·subst M;have K:l=[]:=by
          cases cs with
          |nil=>simp only[uS,cE]at D;grind
          |cons x g8=>grind
         subst K;exact xP (enters hf G hn _ _) (E _ o d w) C (.string _)
        ·have W:o≠0:=by omega
         have hp:aG j (.pointer (some ⟨b,y,some (r / 2)⟩)) (.pointer (some ⟨B,O,none⟩)):=by
          refine .ptr b y (r / 2) B O pl H hr λe=>?_;obtain⟨q,_⟩:=N e;rcases q with q|⟨q1,q2,q3,_⟩
          ·omega
          ·omega
         obtain⟨a1,v1,v2,v3⟩:=AV C hp i;obtain⟨e1,e2⟩:=Xgo D v1;have L:l.length=n:=aa;have g:∀(s:Nat) x,l[s]?=some x->w.cell? ⟨B,O+s,none⟩=some (.string x):=by intro s x hj;have:=v3 s (.string x) aq;rwa[Addr.rC]at this
         have F:B<w.heap.size:=by
          have E:0<l.length:=aa;have I:=g 0 l[0] ar;rcases lT B w.heap.size with X|X
          ·exact X
          ·unfold World.cell? at I
           grind
         have z:=h1 B O o l d w g F aa aa b2;rw[L]at z;exact Ep (enters hf G hn _ _) z C (.string _)
     grind
    grind
   grind
  grind
 grind
def Tr.zH{a:Type}(p:a->Prop):Tr a->Prop
 |.nil=>True
 |.node v l r=>(match v with|some x=>p x|none=>True)/\l.zH p/\r.zH p
theorem Tr.zH.get{b:Type}{p:b->Prop}:∀{t:Tr b},t.zH p->∀{k:Nat} {x:b},t.get k=some x->p x
 |.nil,_,k,x,h=>by simp[Tr.get_nil]at h
 |.node v l r,a,k,x,h=>by
  simp only[Tr.yN,sN]at h;split at h
  ·have c:=a.1;rwa[h]at c
  ·split at h
   ·exact a.2.1.get h
   ·exact a.2.2.get h
def MO(t:Tr Over):Over:=λf args m=>Option.rec none (λy=>y f args m) (t.get (Nat.succ f))
theorem WN(t:Tr Over)(f:FuncId)(args:List ae)(m:aj):MO t f args m=match t.get (f+1)with|some y=>y f args m|none=>none:=by show(Option.rec none (λy=>y f args m) (t.get (f+1)):Option Rs)=_;cases t.get (f+1)<;>rfl
theorem XfG{t:Tr Over}(h:t.zH (ia P A)):ia P A (MO t):=by
 intro j m w f a Y v S d hB c b;simp only[WN]at b;split at b
 ·rename_i y e;exact h.get e j m w f a Y v S d hB c b
 ·cases b
def Mz:List UInt8->Nat->Nat->Option Nat
 |[],_,_=>none
 |b::l,c,i=>match Nat.beq b.toNat c with|true=>some i|false=>Br (i+1) λi=>Mz l c i
theorem XaF(c:UInt8):∀(l:List UInt8)(i:Nat),Mz l c.toNat i=if Lib.indexByte l c=-1 then none else some (i+(Lib.indexByte l c).toNat)
 |[],i=>bY
 |b::l,i=>by
  have g:=Lib.indexByte_ge l c;simp only[Mz,yW,Ex];by_cases h:b=c
  ·subst h;simp[Lib.indexByte]
  ·have hn:¬b.toNat=c.toNat:=λx=>h (j3.mp x);have f:(b==c)=false:=by simpa using h
   simp only[hn,j4,XaF c l,Lib.indexByte,f,dp,dV];by_cases d:Lib.indexByte l c=-1
   ·simp[d]
   ·have a:(Lib.indexByte l c==-1)=false:=by grind
    have e:¬Lib.indexByte l c+1=-1:=aa;simp only[d,a,e,dV,dp,cE];omega
def Lk(s:List UInt8)(c:Int):ae:=Br (c.toNat%256) λc=>match Mz s c 0 with|some i=>.int .i64 (.ofNat i)|none=>.int .i64 (.negSucc 0)
theorem Xgv(s:List UInt8)(c:Int):Lk s c=.int .i64 (Lib.indexByte s c.toNat.toUInt8):=by
 have e:c.toNat%256=c.toNat.toUInt8.toNat:=ar;have a:=Lib.indexByte_ge s c.toNat.toUInt8;unfold Lk;rw[Ex,e,XaF];by_cases h:Lib.indexByte s c.toNat.toUInt8=-1
 ·rw[ah h,h];rfl
 ·rw[af h]
  grind
def Fy:List UInt8->Nat->Nat->Nat
 |[],_,n=>n
 |b::l,c,n=>match Nat.beq b.toNat c with|true=>Br (n+1) λn=>Fy l c n|false=>Fy l c n
theorem Xvq(c:UInt8):∀(l:List UInt8)(n:Nat),Fy l c.toNat n=n+Lib.countByte l c
 |[],n=>bY
 |b::l,n=>by
  have a:=λn=>Xvq c l n;simp only[Lib.countByte]at a|-;simp only[Fy,yW,Ex,a,List.count_cons];by_cases h:b=c
  ·subst h;simp;omega
  ·have hn:¬b.toNat=c.toNat:=λx=>h (j3.mp x);simp[hn,h]
def cntF(l:List UInt8)(c:UInt8):Nat:=Br c.toNat λc=>Fy l c 0
theorem Xu6:cntF=Lib.countByte:=by funext l c;unfold cntF;rw[Ex,Xvq,aQ]
def preB:List UInt8->List UInt8->Bool
 |[],_=>true
 |_::_,[]=>false
 |a::p,b::l=>match Nat.beq a.toNat b.toNat with|true=>preB p l|false=>false
theorem Xup:∀(p l:List UInt8),preB p l=p.isPrefixOf l
 |[],_=>bY
 |_::_,[]=>bY
 |a::p,b::l=>by
  simp only[preB,yW,List.isPrefixOf,Xup p l];by_cases h:a=b
  ·grind
  ·have hn:¬a.toNat=b.toNat:=λx=>h (j3.mp x)
   grind
def FE(sub:List UInt8):List UInt8->Nat->Option Nat
 |[],i=>(match sub with|[]=>some i|_::_=>none)
 |b::l,i=>match preB sub (b::l)with|true=>some i|false=>Br (i+1) λi=>FE sub l i
theorem Xzn(sub:List UInt8):∀(l:List UInt8)(i:Nat),FE sub l i=if Lib.index l sub=-1 then none else some (i+(Lib.index l sub).toNat)
 |[],i=>by cases sub<;>simp[FE,Lib.index]
 |b::l,i=>by
  have f:=Lib.index_ge l sub;simp only[FE,Xup,Ex,Xzn sub l,Lib.index];by_cases d:sub.isPrefixOf (b::l)=true
  ·simp only[d,dW];simp
  ·have hf:=Bool.eq_false_iff.mpr d;simp only[hf,dp,dV];by_cases c:Lib.index l sub=-1
   ·simp[c]
   ·have a:(Lib.index l sub==-1)=false:=by grind
    have e:¬Lib.index l sub+1=-1:=aa;simp only[c,a,e,dV,dp,cE];omega
def MA(s sub:List UInt8):Int:=match FE sub s 0 with|some i=>.ofNat i|none=>.negSucc 0
theorem Xzv:MA=Lib.index:=by
 funext s sub;have a:=Lib.index_ge s sub;unfold MA;rw[Xzn]
 grind
structure Fr (W:List Nat) (m S:Mem):Prop where
 next:m.next<=S.next
 low:S.low<=m.low
 bQ:∀x,x<=m.low->x<=m.next->(∀w∈W,x<=w)->x<=S.low
 get:∀b,b<m.next->b∉W->S.get b=m.get b
 lo:∀b,b<m.next->S.low<=b\/S.get b=m.get b
theorem Fr.refl(W:List Nat)(m:aj):Fr W m m:=⟨c6 _,c6 _,λ_ h _ _=>h,λ_ _ _=>rfl,λ_ _=>.inr rfl⟩
theorem Fr.trans(h:Fr W m m1)(k:Fr W m1 m2):Fr W m m2 where
 next:=aO h.next k.next
 low:=aO k.low h.low
 bQ:=λx h1 h2 h3=>k.bQ x (h.bQ x h1 h2 h3) (aO h2 h.next) h3
 get:=λb h1 h2=>by rw[k.get b (dU h1 h.next) h2,h.get b h1 h2]
 lo:=λb h1=>by
  rcases k.lo b (dU h1 h.next)with q|q
  ·omega
  ·rcases h.lo b h1 with q2|q2
   ·exact .inl (aO k.low q2)
   ·grind
theorem Fr.push{W:List Nat}{m:Mem}(y:dQ):Fr W m (m.push y) where
 next:=Nat.le_succ _
 low:=c6 _
 bQ:=λ_ h _ _=>h
 get:=λb h _=>rV
 lo:=λb h=>.inr rV
theorem Fr.put{W:List Nat}{m m1:Mem}(h:Fr W m m1){b:Nat}(y:dQ)(hb:b∈W\/m.next<=b):Fr W m (m1.put b y) where
 next:=by rw[Mem.ij];exact h.next
 low:=by grind[Mem.kI,Nat.le_trans,Nat.min_le_left,h.low]
 bQ:=λx h1 h2 h3=>by
  rw[Mem.kI];have:=h.bQ x h1 h2 h3
  grind
 get:=λc h1 h2=>by
  rw[Mem.aX,af ?_,h.get c h1 h2]
  grind
 lo:=λc h1=>by
  rw[Mem.kI,Mem.aX];by_cases e:b=c
  ·omega
  ·rw[af e];rcases h.lo c h1 with q|q
   ·omega
   grind
theorem Fr.jL(h:Fr W m m1)(e:sn m1 m2):Fr W m m2 where
 next:=by rw[e.next];exact h.next
 low:=by rw[e.low];exact h.low
 bQ:=λx h1 h2 h3=>by rw[e.low];exact h.bQ x h1 h2 h3
 get:=λb h1 h2=>by rw[e.get];exact h.get b h1 h2
 lo:=λb h1=>by rw[e.low,e.get];exact h.lo b h1
theorem Fr.call(v:ae)(h:Fr W (aD m m.next) m1) :
  ∃m2,gc m v m1=(v,m2)/\Fr W m m2/\m2.next<=m1.next/\(∀b,b<m.next->m2.get b=m1.get b):=by
 rw[sT];unfold qt;cases d:Nat.ble m.next m1.low&&refs m.next 8 v
 ·refine⟨aD m1 _,rfl,⟨h.next,wN _ _,λx g c f=>?_,h.get,λb a=>?_⟩,c6 _,λb a=>rfl⟩
  ·have:=h.bQ x c c f;show x<=min _ _;omega
  ·rcases h.lo b a with q|q
   ·exact .inl (aO (tG _ _) q)
   ·exact .inr q
 ·simp only[bT]at d;have e:=oS d.1;refine⟨m,rfl,.refl _ _,h.next,λb a=>?_⟩;rcases h.lo b a with q|q
  ·omega
  ·exact q.symm
theorem KT(c' r:Nat)(l:List (Nat × Nat))(c:Nat):pB ((c',r)::l) c=if c'=c then some r else pB l c:=by show(Bool.rec (pB l c) _ _:Option Nat)=_;rw[yW];by_cases h:c'=c<;>simp[h]
theorem Xh2(c' r:Nat):∀(l:List (Nat × Nat)) (c:Nat),pB (l++[(c',r)]) c=match pB l c with|some x=>some x|none=>if c'=c then some r else none
 |[],c=>by rw[my,KT];rfl
 |(d,x)::l,c=>by
  rw[List.cons_append,KT,KT,Xh2 c' r l c]
  grind
theorem Wm(t:Tr (List (Nat × Nat)))(c:Nat):rL t c=match t.get (256+c%251)with|some l=>pB l c|none=>none:=by show(Option.rec _ (λl=>pB l c) (t.get (256+c%251)):Option Nat)=_;cases t.get _<;>rfl
def Mg(t:Tr (List (Nat × Nat)))(c:Nat):List (Nat × Nat):=Option.rec [] (λl=>l) (t.get (Nat.add 256 (Nat.mod c 251)))
theorem XfT{t:Tr (List (Nat × Nat))}{c:Nat}(h:rL t c=none)(c':Nat) :
  rL (Tr.put (Nat.add 256 (Nat.mod c 251)) t (Nat.add 256 (Nat.mod c 251)) ((c,r)::Mg t c)) c'=if c=c' then some r else rL t c':=by
 rw[Wm];show(match(Tr.put (256+c%251) t (256+c%251) _).get _ with|some l=>pB l c'|none=>none)=_
 rw[Tr.aX _ _ _ _ _ aa aa aY];by_cases e:256+c%251=256+c'%251
 ·rw[ah e];simp only;rw[KT];by_cases e2:c=c'
  ·grind
  ·rw[af e2,af e2,Wm,<-e];unfold Mg;show pB (Option.rec [] (λl=>l) (t.get (256+c%251))) c'=_;cases t.get _<;>rfl
 ·rw[af e,af (λx=>e (by rw[x])),Wm]
def TB.look(T:TB)(c:Nat):Option Nat:=TB.rec (motive:=λ_=>Option Nat) (λ_ _ t _=>rL t c) T
theorem TB.XzZ{l:List (Nat × Nat)}{n:Nat}{t:Tr (List (Nat × Nat))}(wf:(∀c,rL t c=pB l.reverse c)/\n=l.length)(c r:Nat)(h:rL t c=none) :
  (∀c',rL (Tr.put (Nat.add 256 (Nat.mod c 251)) t (Nat.add 256 (Nat.mod c 251)) ((c,r)::Mg t c)) c'=pB ((c,r)::l).reverse c')/\Nat.succ n=((c,r)::l).length:=by
 refine⟨λc'=>?_,aq⟩;rw[XfT h,List.reverse_cons,Xh2,<-wf.1]
 grind
def TB.ins(T:TB)(c r:Nat):Option TB:=
 E4 c λc=>E4 r λr=>TB.rec (motive:=λ_=>Option TB) (λl n t wf=>Option.rec (motive:=λy=>rL t c=y->Option TB)
  (λh=>some ⟨(c,r)::l,Nat.succ n,Tr.put (Nat.add 256 (Nat.mod c 251)) t (Nat.add 256 (Nat.mod c 251)) ((c,r)::Mg t c),TB.XzZ wf c r h⟩) (λ_ _=>none) (rL t c) rfl) T
theorem X3{a:Type}{k:ae->aj->Option a}:bp (aI (some v) m) k=k v m:=aU rfl rfl
theorem Xj{a:Type}{k:ae->aj->Option a}:bp (bP (some S)) k=k undef S:=aU rfl rfl
theorem X4{a:Type}{k:ae->aj->Option a}:bp (some (v,m)) k=k v m:=aU rfl rfl
theorem X6{c:Type}{a b:Option c}:ke (.bool true) a b=a:=aU rfl rfl
theorem X5{c:Type}{a b:Option c}:ke (.bool false) a b=b:=aU rfl rfl
theorem Xv{a:Type}{x:Option a}:tb true x=x:=aU rfl rfl
abbrev pt(b y r:Nat):ae:=.pointer (some ⟨b,y,some r⟩)
theorem Xg(b y r:Nat):Xu (pt b y r)=some (pt b y r):=aU rfl rfl
theorem X7(k b y r:Nat):Xm k (pt b y r)=some (pt b (y+k) r):=aU rfl rfl
theorem Xt{c:List ae}(h:m.get b=some (.cells c ver fro ro ty))(a:c[y]?=some v):X9 false 1 (pt b y ver) m=some v:=by have d:y<c.length:=(dO.mp a).1;rw[Vs];simp only[E0,h,xT,M5,Xtz];exact a
theorem Xw{n:Nat}{c cs:List ae}(h:m.get b=some (.cells c ver fro ro ty))(d:y+n<=c.length)(a:(c.drop y).take n=cs):X9 true n (pt b y ver) m=some (.agg ⟨cs⟩):=by rw[Vs];simp[E0,h,jF,iI,d,a]
theorem iJ{c:List ae}{n:Nat}(h:m.get b=some (.cells c ver fro false ty))(hn:v.cells.size=n)(hf:fro<=y)(f:y+n<=c.length)(a:v.cells.toList.all one=true)(d:c.take y++v.cells.toList++c.drop (y+n)=c'):∃S,Xe n (pt b y ver) v m=some S/\sn (m.put b (.cells c' ver fro false ty)) S:=by
 have e:v.cells.toList.length=n:=aa;have g:A0 m ⟨b,y,some ver⟩ v.cells.toList=some (m.put b (.cells c' ver fro false ty)):=by simp only[A0,h];have:y+v.cells.toList.length<=c.length:=aa;rw[e];simp[hf,f,a,d]
 refine⟨_,?_,.refl _⟩;rw[Xlo];simp only[Lq,hn,dW];exact g
theorem kR(W:List Nat)(m:aj)(ty:Option Nat)(z:List ae){n:Nat}(g:z.length=n)(d:v.cells.size=n)(b:v.cells.toList.all one=true) :
  ∃m2,Xe n (pt m.next 0 0) v (m.push (.cells z 0 0 false ty))=some m2/\Fr W m m2/\m2.next=m.next+1/\m2.get m.next=some (.cells v.cells.toList 0 0 false ty):=by
 have c:(m.push (.cells z 0 0 false ty)).get m.next=some (.cells z 0 0 false ty):=pR;obtain⟨m2,e,a⟩:=iJ (y:=0) (c':=v.cells.toList) c d c7 aa b (by grind)
 refine⟨m2,e,((Fr.push _).put _ (.inr aY)).jL a,by rw[a.next,Mem.ij];rfl,?_⟩;rw[a.get,Mem.aX,ah rfl]
theorem KZ{c:List ae}(h:m.get b=some (.cells c 0 fro ro ty))(a:c.length=size):jG size 1 (.slice (some ⟨b,0,some size⟩) 1 1) m=some c:=by
 simp[jG,jF,iI,h,a]
 grind
theorem uA{s:ae}{a:Option Addr}{n:Nat}(h:fP e size bytes s (.slice a n r) m=some (v,S)):dn e size bytes s (.slice a n r) m=some (v,S):=h
theorem XaP{a len:Nat}{c:List ae}(h:m.get b=some (.cells c ver fro false ty))(i:m.get a=some (.cells new 0 zb3 zb4 ty2))(hn:new.length=size)(g:new.all one=true)(n:1<=size)(hf:fro<=len*size)(l:len*size<=c.length)(k:fits (len+1) bytes=true) :
  ∃S,dn e size bytes (.slice (some ⟨b,0,some size⟩) len (2*ver)) (.slice (some ⟨a,0,some size⟩) 1 1) m=some (.slice (some ⟨b,0,some size⟩) (len+1) (2*(ver+1)),S) /\
   sn (m.put b (.cells (c.take (len*size)++new) (ver+1) fro false (pF ty (2*e)))) S:=by
 have j:j5 e size bytes (.slice (some ⟨b,0,some size⟩) len (2*ver)) (.slice (some ⟨a,0,some size⟩) 1 1) m =
   some (.slice (some ⟨b,0,some size⟩) (len+1) (2*(ver+1)),m.put b (.cells (c.take (len*size)++new) (ver+1) fro false (pF ty (2*e)))):=by
  unfold j5;have e1:2*ver / 2=ver:=aa;have e2:¬2*ver%2=1:=aa;have d:Nat.ble 1 size=true:=eE.mpr n;have f:Nat.ble fro (len*size)=true:=eE.mpr hf;have e5:Nat.ble (len*size) c.length=true:=eE.mpr l;simp only[kC,KZ i hn,g,d,nG,iQ,dp,dV,h,aQ,e1,tH,e5,k,tI,e2,f,pJ,dW,YQ]
 exact⟨_,uA j,.refl _⟩
theorem XhL(a:Option Addr)(n r:Nat)(m:aj):aM 1 (.slice a n r) m=some (.int .i64 (Int.ofNat n)):=aU rfl rfl
theorem uB(b:Bool):un .not (.bool b)=some (.bool (!b)):=aU rfl rfl
structure Fb (B:Nat) (m S:Mem):Prop where
 next:m.next<=S.next
 low:S.low<=m.low
 bQ:∀x,x<=m.low->x<=B->x<=S.low
 get:∀b,b<B->S.get b=m.get b
 lo:∀b,b<m.next->S.low<=b\/S.get b=m.get b
theorem Fb.refl(B:Nat)(m:aj):Fb B m m:=⟨c6 _,c6 _,λ_ h _=>h,λ_ _=>rfl,λ_ _=>.inr rfl⟩
theorem Fb.trans(h:Fb B m m1)(k:Fb B m1 m2):Fb B m m2 where
 next:=aO h.next k.next
 low:=aO k.low h.low
 bQ:=λx h1 h2=>k.bQ x (h.bQ x h1 h2) h2
 get:=λb h1=>by rw[k.get b h1,h.get b h1]
 lo:=λb h1=>by
  rcases k.lo b (dU h1 h.next)with q|q
  ·omega
  ·rcases h.lo b h1 with q2|q2
   ·exact .inl (aO k.low q2)
   grind
theorem Fb.push{B:Nat}{m:Mem}(y:dQ)(hB:B<=m.next):Fb B m (m.push y) where
 next:=Nat.le_succ _
 low:=c6 _
 bQ:=λ_ h _=>h
 get:=λb h=>rV
 lo:=λb h=>.inr rV
theorem Fb.put{B:Nat}{m m1:Mem}(h:Fb B m m1){b:Nat}(y:dQ)(hb:B<=b):Fb B m (m1.put b y) where
 next:=by rw[Mem.ij];exact h.next
 low:=by grind[Mem.kI,Nat.le_trans,Nat.min_le_left,h.low]
 bQ:=λx h1 h2=>by rw[Mem.kI];have:=h.bQ x h1 h2;omega
 get:=λc h1=>by rw[Mem.aX,af aa,h.get c h1]
 lo:=λc h1=>by
  rw[Mem.kI,Mem.aX];by_cases e:b=c
  ·omega
  ·rw[af e];rcases h.lo c h1 with q|q
   ·omega
   grind
theorem Fb.jL(h:Fb B m m1)(e:sn m1 m2):Fb B m m2 where
 next:=by rw[e.next];exact h.next
 low:=by rw[e.low];exact h.low
 bQ:=λx h1 h2=>by rw[e.low];exact h.bQ x h1 h2
 get:=λb h1=>by rw[e.get];exact h.get b h1
 lo:=λb h1=>by rw[e.low,e.get];exact h.lo b h1
theorem Xui{a:Nat}(d:m.get a=some (.cells new 0 zb3 zb4 ty2))(hn:new.length=size)(c:new.all one=true)(g:1<=size)(f:fits 1 bytes=true) :
  dn e size bytes (.slice none 0 0) (.slice (some ⟨a,0,some size⟩) 1 1) m=some (.slice (some ⟨m.next,0,some size⟩) 1 0,m.push (.cells new 0 0 false (some (2*e)))):=by
 have b:Nat.ble 1 _=true:=eE.mpr g;refine uA ?_;unfold fP j5;simp only[kC,KZ d hn,c,b,nG,iQ,dp,dV,f,dW,YQ]
theorem Fr.iP(h:Fr [] m m1)(hB:B<=m.next):Fb B m m1 where
 next:=h.next
 low:=h.low
 bQ:=λx h1 h2=>h.bQ x h1 (aO h2 hB) ar
 get:=λb h1=>h.get b (dU h1 hB) ar
 lo:=h.lo
theorem Fb.oP(h:Fb m.next m m1):Fr W m m1 where
 next:=h.next
 low:=h.low
 bQ:=λx h1 h2 _=>h.bQ x h1 h2
 get:=λb h1 _=>h.get b h1
 lo:=h.lo
end Go.Ab
end
