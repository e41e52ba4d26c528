/-
  An evaluator over abstract memories, and that what it answers the machine answers. No conditions.
-/
import Derived.Test.YteognfejlpbmoaaGreatDoorAb4
import Derived.KernelRfl
import Derived.Lib.AtoiAll
import Derived.Lib.ParseIntB
import Derived.Lib.ItoaNum
import Derived.Lib.LaidTab
import Derived.Lib.Join
import Derived.Lib.Fields
import Derived.Laws.Externs
import Derived.Lib.Index
import Derived.Lib.Bytealg
import Derived.IntWalk
set_option linter.unusedSimpArgs false
set_option linter.unusedVariables false

set_option maxRecDepth 100000
noncomputable section
namespace Go.Ab
open Go
variable {B B0 b bytes d fro fro2 id o off size ver:Nat} {T:TypeId} {W:List Nat} {a ga:Addr} {args c c' cargs l new vs:List Value} {cs:Array Value} {cv v:Value} {f f0:FuncId} {fn:Func} {k:IntKind} {m m' m1 m2:Mem} {mx:Int} {ro ro2:Bool} {ty ty2:Option Nat} {w:World} {x y:Code} {φ:Pmap}
structure Gt where
 tab:Tab
 rds:Nat
section
variable {P:Program} {g:Tab} {R:Nat} {dr:Xa8} {n:Nat}
theorem tr {α:Type} {A B C:Env->Mem->α} (h:∀ ρ m,A ρ m=B ρ m) (k:∀ ρ m,B ρ m=C ρ m:=by intro _ _; kernel_rfl):∀ ρ m,A ρ m=C ρ m:=fun ρ m=>(h ρ m).trans (k ρ m)
theorem seqQ {K:Ks} {f:Env->Mem->Option Rs} (h:∀ ρ m,ev P g R dr n y ρ m K=f ρ m:=by intro _ _; kernel_rfl):∀ ρ m,ev P g R dr n (.seq x y) ρ m K=ev P g R dr n x ρ m ⟨f,K.ex,K.rt⟩:=by
 intro ρ m;have:(fun ρ m=>ev P g R dr n y ρ m K)=f:=by grind
 show ev P g R dr n x ρ m _=_;rw [this]
theorem seqD {K:Ks}:∀ ρ m,ev P g R dr n (.seq x y) ρ m K=ev P g R dr n x ρ m ⟨fun ρ m=>ev P g R dr n y ρ m K,K.ex,K.rt⟩:=fun _ _=>rfl
theorem refQ {K:Ks}:∀ ρ m,ev P g R dr n x ρ m K=ev P g R dr n x ρ m K:=fun _ _=>rfl
theorem X40 {c:Operand} {K:Ks} {f h:Env->Mem->Option Rs} (hf:∀ ρ m,ev P g R dr n x ρ m K=f ρ m:=by intro _ _; kernel_rfl) (hh:∀ ρ m,ev P g R dr n y ρ m K=h ρ m:=by intro _ _; kernel_rfl) :
  ∀ ρ m,ev P g R dr n (.cond c x y) ρ m K=brb (opd ρ c) (f ρ m) (h ρ m):=by
 intro ρ m;rw [<- hf,<- hh];rfl
theorem Xj {c:Code} {K:Ks} {f:Env->Mem->Option Rs} (h:∀ ρ m,ev P g R dr n c ρ m ⟨K.nx,fun i ρ m=>bif Nat.beq i id then K.nx ρ m else K.ex i ρ m,K.rt⟩=f ρ m:=by intro _ _; kernel_rfl) :
  ∀ ρ m,ev P g R dr n (.block id c) ρ m K=f ρ m:=h
theorem Xpm {c:Code} {K:Ks} {f:Env->Mem->Option Rs} (h:∀ ρ m,ev P g R dr n c ρ m K=f ρ m):∀ ρ m,ev P g R dr n (.scope c) ρ m K=f ρ m:=h
theorem X1r {c:Code} {K:Ks} (F:Nat->Env->Mem->Option Rs) (h0:∀ ρ m,F 0 ρ m=none) (hs:∀ i,∀ ρ m,ev P g R dr n c ρ m ⟨F i,K.ex,K.rt⟩=F (i + 1) ρ m) :
  ∀ ρ m,ev P g R dr n (.loop c) ρ m K=F R ρ m:=by
 have key:∀ i ρ m,Xe8 (fun ρ m k=>ev P g R dr n c ρ m k) i ρ m K=F i ρ m:=by
  intro i
  induction i with
  | zero=>intro ρ m; rw [h0]; rfl
  | succ i ih =>
   intro ρ m;rw [<- hs];have:(fun ρ m=>Xe8 (fun ρ m k=>ev P g R dr n c ρ m k) i ρ m K)=F i:=by grind
   show ev P g R dr n c ρ m _=_;rw [this]
 exact key R
end
theorem Xc {P:Program} {g:Tab} {R:Nat} {dr:Nat->Xa8} {c:Code} (hb:fn.body=some c) (hl:Nat.ble args.length fn.ntmps=true) {r:Env->Mem->Option Rs} (h:∀ ρ m,ev P g R (dr fn.ntmps) fn.ntmps c ρ m ⟨Xc0 P fn,fun _ _ _=>none,Xc0 P fn⟩=r ρ m) (m:Mem) (hs:spD c=false:=by kernel_rfl):evFn P g R dr fn args m=r (env0 args) m:=by
 unfold evFn;rw [hb];simp only [hl,if_true,hs]
 grind
open Go.RowKit (Below)
structure Entry (P:Program) where
 f:FuncId
 fn:Func
 hf:P.funcs[f]?=some fn
 hn:(fn.name == "runtime.NumGoroutine")=false
 h:Gt->List Value->Mem->Option Rs
 ok:∀ G args m r,h G args m=some r->evFn P G.tab G.rds (drOf P G.tab) fn args m=some r
abbrev Over:=FuncId->List Value->Mem->Option Rs
def shT {P:Program} (fns:Tr (Entry P)) (ov:Over) (R:Nat):Nat->Tab:=
 Nat.rec (motive:=fun _=>Tab) (fun f args m=>ov f args m) (fun _ ih f args m=>Option.rec (Option.rec none (fun e=>Bool.rec none (Option.rec none (fun p=>Prod.rec (fun v m1=>some (gc m v m1)) p) (e.h ⟨ih,R⟩ args (Xlu m))) (Nat.beq e.f f)) (fns.get (Nat.succ f))) (fun r=>some r) (ov f args m))
theorem Xs3 {P:Program} (fns:Tr (Entry P)) (ov:Over) (R:Nat):shT fns ov R 0=fun f args m=>ov f args m:=rfl
theorem Xfg {P:Program} (fns:Tr (Entry P)) (ov:Over) (R n:Nat) (f:FuncId) (args:List Value) (m:Mem):shT fns ov R (n + 1) f args m=match ov f args m with
  | some r=>some r
  | none=>match fns.get (f + 1) with
   | none=>none
   | some e=>match Nat.beq e.f f with
    | false=>none
    | true=>match e.h ⟨shT fns ov R n,R⟩ args (withLow m m.next) with
     | some (v,m1)=>some (gc m v m1)
     | none=>none:=by
 rw [<- Xno];show (Option.rec (Option.rec none (fun e=>Bool.rec none (Option.rec none (fun p=>Prod.rec (fun v m1=>some (gc m v m1)) p) (e.h ⟨shT fns ov R n,R⟩ args (Xlu m))) _) (fns.get _)) (fun r=>some r) _:Option Rs)=_;cases ov f args m with
 | some r=>rfl
 | none =>
  show (Option.rec _ _ (fns.get (f + 1)):Option Rs)=_;cases fns.get (f + 1) with
  | none=>rfl
  | some e =>
   show (Bool.rec _ _ _:Option Rs)=_;simp only;cases Nat.beq e.f f with
   | false=>rfl
   | true =>
    simp only;cases e.h ⟨shT fns ov R n,R⟩ args (Xlu m) with
    | none=>rfl
    | some p=>rfl
def X15 (P:Program) (W0:World) (ov:Over):Prop:=X1f P W0 (fun f args m=>ov f args m)
theorem Xqr {P:Program} (hm:P.follows .mixedOrders=true) {W0:World} {fns:Tr (Entry P)} {ov:Over} {R:Nat} (ho:X15 P W0 ov):∀ n,X1f P W0 (shT fns ov R n)
 | 0=>ho
 | n + 1=>by
  intro φ m w f args cargs v m' hR hB ha hg;rw [Xfg] at hg;split at hg
  ·rename_i r hr;cases hg;exact ho φ m w f _ _ v m' hR hB ha hr
  ·split at hg
   ·cases hg
   ·rename_i e he;split at hg
    ·cases hg
    ·rename_i hb;have hef:=Nat.eq_of_beq_eq_true hb;have ih:=Xqr hm (fns:=fns) (R:=R) ho n;refine step_ok hm (R:=R) ih φ m w f _ _ v m' hR hB ha ?_;split at hg
     ·rename_i u m1 hu;have:=e.ok _ _ _ _ hu;unfold Xg5;rw [<- hef,e.hf];simp only [e.hn,Bool.false_eq_true,if_false]
      grind
     grind
def arg0 (s:Gt->Mem->Option Rs):Gt->List Value->Mem->Option Rs:=fun G args m=>match args with | []=>s G  m | _=>none
theorem Xxm {P:Program} {s:Gt->Mem->Option Rs} (e:∀ (G:Gt) (m:Mem),evFn P G.tab G.rds (drOf P G.tab) fn [] m=s G  m):∀ G args m r,arg0 s G args m=some r->evFn P G.tab G.rds (drOf P G.tab) fn args m=some r:=by
 intro G args m r h;unfold arg0 at h
 grind
def arg1 (s:Gt->Value->Mem->Option Rs):Gt->List Value->Mem->Option Rs:=fun G args m=>match args with | [a0]=>s G a0 m | _=>none
theorem X19 {P:Program} {s:Gt->Value->Mem->Option Rs} (e:∀ (G:Gt) (a0:Value) (m:Mem),evFn P G.tab G.rds (drOf P G.tab) fn [a0] m=s G a0 m):∀ G args m r,arg1 s G args m=some r->evFn P G.tab G.rds (drOf P G.tab) fn args m=some r:=by
 intro G args m r h;unfold arg1 at h
 grind
def arg2 (s:Gt->Value->Value->Mem->Option Rs):Gt->List Value->Mem->Option Rs:=fun G args m=>match args with | [a0,a1]=>s G a0 a1 m | _=>none
theorem X14 {P:Program} {s:Gt->Value->Value->Mem->Option Rs} (e:∀ (G:Gt) (a0:Value) (a1:Value) (m:Mem),evFn P G.tab G.rds (drOf P G.tab) fn [a0,a1] m=s G a0 a1 m):∀ G args m r,arg2 s G args m=some r->evFn P G.tab G.rds (drOf P G.tab) fn args m=some r:=by
 intro G args m r h;unfold arg2 at h
 grind
def arg3 (s:Gt->Value->Value->Value->Mem->Option Rs):Gt->List Value->Mem->Option Rs:=fun G args m=>match args with | [a0,a1,a2]=>s G a0 a1 a2 m | _=>none
theorem Xeh {P:Program} {s:Gt->Value->Value->Value->Mem->Option Rs} (e:∀ (G:Gt) (a0:Value) (a1:Value) (a2:Value) (m:Mem),evFn P G.tab G.rds (drOf P G.tab) fn [a0,a1,a2] m=s G a0 a1 a2 m):∀ G args m r,arg3 s G args m=some r->evFn P G.tab G.rds (drOf P G.tab) fn args m=some r:=by
 intro G args m r h;unfold arg3 at h
 grind
def arg4 (s:Gt->Value->Value->Value->Value->Mem->Option Rs):Gt->List Value->Mem->Option Rs:=fun G args m=>match args with | [a0,a1,a2,a3]=>s G a0 a1 a2 a3 m | _=>none
theorem Xq2 {P:Program} {s:Gt->Value->Value->Value->Value->Mem->Option Rs} (e:∀ (G:Gt) (a0:Value) (a1:Value) (a2:Value) (a3:Value) (m:Mem),evFn P G.tab G.rds (drOf P G.tab) fn [a0,a1,a2,a3] m=s G a0 a1 a2 a3 m):∀ G args m r,arg4 s G args m=some r->evFn P G.tab G.rds (drOf P G.tab) fn args m=some r:=by
 intro G args m r h;unfold arg4 at h
 grind
open Go.RowKit (Below)
variable {P:Program} {W0:World}
theorem enters {c:Code} (hf:P.funcs[f]?=some fn) (hb:fn.body=some c) (hn:(fn.name == "runtime.NumGoroutine")=false) (args:Array Value) (w:World):(callFunc f args).run P w=.ok (.enter f args) w:=by
 have hn':¬ fn.name="runtime.NumGoroutine":=by grind
 simp [callFunc,hf,hn',hb]
theorem Xq8 {w':World} (hR:Rel B0 φ m w) (hb:Below w.heap.size w w'):Rel B0 φ m w'/\Stp φ m w φ m w':=by
 have hblk:∀ b pl,φ b=some pl->pl.blk < w.heap.size:=fun b pl h=>by
  obtain ⟨_,o,_,h3⟩:=hR.blocks b pl h;exact h3.there
 refine ⟨⟨fun b pl h=>?_,hR.inj,hR.base,Nat.le_trans hR.size hb.size,hR.fresh⟩,⟨.refl φ,Nat.le_refl _,Nat.le_refl _,fun _ _ _=>⟨rfl,rfl⟩,hb.os,hb.tape,hb.output,hb.size,fun B hB _=>hb.block B hB,fun b pl h hr=>.inl ⟨b,pl,h,hr,rfl⟩,fun _ _ h=>⟨h,rfl⟩⟩⟩;obtain ⟨h1,o,h2,h3⟩:=hR.blocks b pl h;exact ⟨h1,o,h2,h3.of_heap (hb.block _ (hblk b pl h))⟩
theorem X3s (he:(callFunc f cargs.toArray).run P w=.ok (.enter f cargs.toArray) w) (hc:Calls P f cargs.toArray w fun e w'=>e=.returned cv/\Below w.heap.size w w') (hR:Rel W0.heap.size φ m w) (hv:VRel φ v cv):Xi0 P f cargs w (After W0.heap.size φ m w v m):=by
 refine .inl ⟨he,hc.mono fun e w' h=>⟨cv,h.1,φ,?_⟩⟩;obtain ⟨h1,h2⟩:=Xq8 hR h.2
 grind
theorem X30 (he:(callFunc f cargs.toArray).run P w=.ok (.enter f cargs.toArray) w) (hc:Calls P f cargs.toArray w fun e w'=>e=.returned cv/\w'=w) (hR:Rel W0.heap.size φ m w) (hv:VRel φ v cv):Xi0 P f cargs w (After W0.heap.size φ m w v m):=
 X3s he (hc.mono fun e w' h=>⟨h.1,by simp [h.2,Below.refl]⟩) hR hv
theorem cell_kept (hB:Below W0.heap.size W0 w) (h:W0.cell? a=some v):w.cell? a=some v:=by
 have hlt:a.block < W0.heap.size:=by
  rcases Nat.lt_or_ge a.block W0.heap.size with hh | hh
  ·exact hh
  ·unfold World.cell? at h
   grind
 rw [<- h];exact hB.cell hlt
def orElse (a b:Over):Over:=fun f args m=>match a f args m with | some r=>some r | none=>b f args m
theorem Xpc {a b:Over} (ha:X15 P W0 a) (hb:X15 P W0 b):X15 P W0 (orElse a b):=by
 intro φ m w f args cargs v m' hR hB hA hg;simp only [orElse] at hg;split at hg
 ·rename_i r hr;cases hg;exact ha φ m w f _ _ v m' hR hB hA hr
 ·exact hb φ m w f _ _ v m' hR hB hA hg
theorem VRels.strings {s:ByteArray} (h:VRels φ (.string s :: l) c):∃ c',c=.string s :: c'/\VRels φ l c':=by
 cases h with
 | cons _ v' _ l' hv hl=>cases hv; grind
theorem VRels.ints1 {n:Int} (h:VRels φ (.int k n :: l) c):∃ c',c=.int k n :: c'/\VRels φ l c':=by
 cases h with
 | cons _ v' _ l' hv hl=>cases hv; grind
theorem VRels.nils (h:VRels φ [] c):c=[]:=by cases h; rfl
def Xfx (f0:FuncId) (idx:List UInt8->List UInt8->Int):Over:=fun f args m=>match args with
 | [.string s,.string sub]=>if f=f0/\s.size < 4294967281 then some (.int .i64 (idx s.data.toList sub.data.toList),m) else none
 | _=>none
theorem Xn1 {idx:List UInt8->List UInt8->Int} {c:Code} (hf:P.funcs[f0]?=some fn) (hb:fn.body=some c) (hn:(fn.name == "runtime.NumGoroutine")=false) (hmx:W0.cell? ga=some (.int .i64 mx)) (hc:∀ (s sub:ByteArray) (w:World),s.size < 4294967281->w.cell? ga=some (.int .i64 mx)->Calls P f0 #[.string s,.string sub] w fun e w'=>e=.returned (.int .i64 (idx s.data.toList sub.data.toList))/\w'=w):X15 P W0 (Xfx f0 idx):=by
 intro φ m w f args cargs v m' hR hB hA hg;simp only [Xfx] at hg;split at hg
 ·rename_i s sub;split at hg
  ·rename_i h;obtain ⟨rfl,hs⟩:=h;simp at hg;obtain ⟨rfl,rfl⟩:=hg;obtain ⟨c1,rfl,h1⟩:=hA.strings;obtain ⟨c2,rfl,h2⟩:=h1.strings;cases h2.nils;exact X30 (enters hf hb hn _ _) (hc s sub w hs (cell_kept hB hmx)) hR (.int _ _)
  grind
 grind
def Xi3 (f0:FuncId) (k:IntKind) (idx:List UInt8->Int->Option Value):Over:=fun f args m=>match args with
 | [.string s,.int k' c]=>if f=f0/\k'=k then match idx s.data.toList c with | some v=>some (v,m) | none=>none else none
 | _=>none
theorem Xhk {idx:List UInt8->Int->Option Value} {c:Code} (hf:P.funcs[f0]?=some fn) (hb:fn.body=some c) (hn:(fn.name == "runtime.NumGoroutine")=false) (hc:∀ (s:ByteArray) (n:Int) (v:Value) (w:World),idx s.data.toList n=some v->X4j v=true/\Calls P f0 #[.string s,.int k n] w fun e w'=>e=.returned v/\w'=w):X15 P W0 (Xi3 f0 k idx):=by
 intro φ m w f args cargs v m' hR hB hA hg;simp only [Xi3] at hg;split at hg
 ·rename_i s k' n;split at hg
  ·rename_i h;obtain ⟨rfl,rfl⟩:=h;split at hg
   ·rename_i u hu;simp at hg;obtain ⟨rfl,rfl⟩:=hg;obtain ⟨c1,rfl,h1⟩:=hA.strings;obtain ⟨c2,rfl,h2⟩:=h1.ints1;cases h2.nils;obtain ⟨q1,q2⟩:=hc s n u w hu;exact X30 (enters hf hb hn _ _) q2 hR (X1d q1)
   grind
  grind
 grind
def Xfb (f0:FuncId) (cnt:List UInt8->UInt8->Nat):Over:=fun f args m=>match args with
 | [.string s,.string sub]=>if f=f0 then match sub.data.toList with | [b]=>some (.int .i64 (cnt s.data.toList b),m) | _=>none else none
 | _=>none
theorem Xmi {cnt:List UInt8->UInt8->Nat} {c:Code} (hf:P.funcs[f0]?=some fn) (hb:fn.body=some c) (hn:(fn.name == "runtime.NumGoroutine")=false) (hc:∀ (s:ByteArray) (b:UInt8) (w:World),Calls P f0 #[.string s,.string ⟨#[b]⟩] w fun e w'=>e=.returned (.int .i64 (cnt s.data.toList b))/\w'=w):X15 P W0 (Xfb f0 cnt):=by
 intro φ m w f args cargs v m' hR hB hA hg;simp only [Xfb] at hg;split at hg
 ·rename_i s sub;split at hg
  ·rename_i h;subst h;split at hg
   ·rename_i b hb1;simp at hg;obtain ⟨rfl,rfl⟩:=hg;obtain ⟨c1,rfl,h1⟩:=hA.strings;obtain ⟨c2,rfl,h2⟩:=h1.strings;cases h2.nils;have e:sub=⟨#[b]⟩:=by
     apply ByteArray.ext;apply Array.ext';exact hb1
    rw [e];exact X30 (enters hf hb hn _ _) (hc s b w) hR (.int _ _)
   grind
  grind
 grind
open Go.RowKit (Below)
def mem0:Mem:=⟨0,0,.nil⟩
theorem Xro (W:World):Rel W.heap.size (fun _=>none) mem0 W:=⟨(fun b pl h=>nomatch h),(fun _ _ _ _ h=>nomatch h),(fun b pl h=>nomatch h),Nat.le_refl _,(fun b _=>rfl)⟩
theorem Xqe {b:Bool} (h:VRel φ (.bool b) cv):cv=.bool b:=by cases h; rfl
open Go.RowKit (Below)
def X41 (p:Nat->Bool):Nat->Value->Bool
 | 0,_=>false
 | d + 1,v=>match v with
  | .bool _ | .int _ _ | .string _ | .float _ _ | .nilFunc | .nilIface | .pointer none | .slice none _ _ | .map none=>true
  | .pointer (some a)=>p a.block
  | .slice (some a) _ _=>p a.block
  | .map (some b)=>p b
  | .func _ f c=>f.toList.all (X41 p d) && c.toList.all (X41 p d)
  | .iface _ v=>X41 p d v
  | .agg cs=>cs.toList.all (X41 p d)
  | .tuple cs=>cs.toList.all (X41 p d)
  | _=>false
theorem X55 {φ':Pmap} {p:Nat->Bool} (h:∀ b,p b=true->φ' b=φ b):∀ (d:Nat) {v cv:Value},X41 p d v=true->VRel φ' v cv->VRel φ v cv:=by
 intro d
 induction d with
 | zero=>intro v cv hr; cases hr
 | succ d ih =>
  have all:∀ {l cl:List Value},l.all (X41 p d)=true->VRels φ' l cl->VRels φ l cl:=by
   intro l
   induction l with
   | nil=>intro cl _ hl; cases hl; exact .nil
   | cons x l ihl =>
    intro cl hr hl;simp only [List.all_cons,Bool.and_eq_true] at hr;cases hl with
    | cons _ v' _ l' hv hl=>exact .cons _ _ _ _ (ih hr.1 hv) (ihl hr.2 hl)
  intro v cv hr hv;cases hv <;> simp only [X41] at hr
  case bool=>exact .bool _
  case int=>exact .int _ _
  case float=>exact .float _ _
  case string=>exact .string _
  case nilPtr=>exact .nilPtr
  case ptr b o r B O pl hb hr' hp=>exact .ptr b o r B O pl (by grind) hr' hp
  case nilSlice=>exact .nilSlice
  case slice b o es k t B O cap pl hb hes hk hr' hp=>exact .slice b o es k t B O cap pl (by grind) hes hk hr' hp
  case nilMap=>exact .nilMap
  case map b R pl hb hp=>exact .map b R pl (by grind) hp
  case func fn a c a' c' ha hc =>
   simp only [Bool.and_eq_true] at hr;exact .func _ _ _ _ _ (all hr.1 ha) (all hr.2 hc)
  case nilFunc=>exact .nilFunc
  case iface t x x' hx=>exact .iface _ _ _ (ih hr hx)
  case nilIface=>exact .nilIface
  case agg a a' ha=>exact .agg _ _ (all hr ha)
  case tuple a a' ha=>exact .tuple _ _ (all hr ha)
theorem Xcu {φ φ':Pmap} {p:Nat->Bool} (h:∀ b,p b=true->φ' b=φ b) (d:Nat):∀ {l cl:List Value},l.all (X41 p d)=true->VRels φ' l cl->VRels φ l cl
 | [],_,_,.nil=>.nil
 | _ :: _,_,hr,.cons _ _ _ _ hv hl=>by
  simp only [List.all_cons,Bool.and_eq_true] at hr;exact .cons _ _ _ _ (X55 h d hr.1 hv) (Xcu h d hr.2 hl)
def Xaw (p:Nat->Bool) (d:Nat):AObj->Bool
 | .cells c _ _ _ _=>c.all (X41 p d)
 | .map es _=>es.all fun e=>X41 p d e.1 && X41 p d e.2.1
 | .siter _ _=>true
 | .miter _ _ _ _=>false
def Xgj:AObj->Bool
 | .cells _ _ _ ro _=>!ro
 | _=>true
theorem Xn9 {pl:Pl} {o:AObj} (h:BRel φ w pl o) (hf:Xgj o=true):pl.ro=false:=by
 cases o with
 | cells c ver fro ro ty=>rw [h.2.1]; simpa [Xgj] using hf
 | map es clock=>exact h.2.1
 | siter s pos=>exact h.2.1
 | miter _ _ _ _=>exact h.2.1
theorem EntRel.swap {φ φ':Pmap} {p:Nat->Bool} (h0:∀ b,p b=true->φ' b=φ b) {d:Nat}:∀ {a:List (Value × Value × Nat)} {c:List MapEntry},(a.all fun e=>X41 p d e.1 && X41 p d e.2.1)=true->EntRel φ' a c->EntRel φ a c
 | [],_,_,h=>by cases h; exact .nil
 | (k,v,n) :: l,_,hr,h=>by
  cases h with
  | cons _ _ k' v' _ _ l' hk hv hl =>
   simp only [List.all_cons,Bool.and_eq_true] at hr;exact .cons k v k' v' n l l' (X55 h0 d hr.1.1 hk) (X55 h0 d hr.1.2 hv) (EntRel.swap h0 hr.2 hl)
theorem BRel.swap {φ φ':Pmap} {p:Nat->Bool} (h:∀ b,p b=true->φ' b=φ b) {d:Nat} {w:World} {pl:Pl} {o:AObj} (hr:Xaw p d o=true) (k:BRel φ' w pl o):BRel φ w pl o:=by
 cases o with
 | cells c ver fro ro ty' =>
  obtain ⟨h1,h2,h3,C,ty,lo,hi,h4,h5,h6,h7⟩:=k;refine ⟨h1,h2,h3,C,ty,lo,hi,h4,h5,fun i v a b=>?_,h7⟩;obtain ⟨cv,x,y⟩:=h6 i v a b;simp only [Xaw,List.all_eq_true] at hr;exact ⟨cv,x,X55 h d (hr v (List.mem_of_getElem? b)) y⟩
 | map es clock =>
  obtain ⟨h1,h2,es',h3,h4⟩:=k;exact ⟨h1,h2,es',h3,h4.swap h hr⟩
 | siter s pos=>exact k
 | miter _ _ _ _=>cases hr
theorem Xjd:∀ {l k:List UInt8},beqL l k=true->l=k
 | [],[],_=>rfl
 | a :: l,b :: k,h=>by
  simp only [beqL] at h;split at h
  ·rename_i hb;rw [UInt8.toNat_inj.mp (Nat.eq_of_beq_eq_true hb),Xjd h]
  grind
def Xdr (q:Value->Value->Bool):List Value->List Value->Bool
 | [],[]=>true
 | a :: l,b :: k=>(match q a b with | true=>Xdr q l k | false=>false)
 | _,_=>false
theorem X5r {q:Value->Value->Bool} (h:∀ a b,q a b=true->a=b):∀ {l k:List Value},Xdr q l k=true->l=k
 | [],[],_=>rfl
 | a :: l,b :: k,hq=>by
  simp only [Xdr] at hq;split at hq
  ·rename_i hb;rw [h _ _ hb,X5r h hq]
  grind
theorem Xvn {a b:IntKind} (h:kbeq a b=true):a=b:=by cases a <;> cases b <;> first | rfl | cases h
def ibeq (a b:Int):Bool:=match a,b with | .ofNat n,.ofNat k=>Nat.beq n k | .negSucc n,.negSucc k=>Nat.beq n k | _,_=>false
theorem Xv1 {a b:Int} (h:ibeq a b=true):a=b:=by
 cases a <;> cases b <;> first | (rw [Nat.eq_of_beq_eq_true h]) | cases h
def obeq (a b:Option Nat):Bool:=match a,b with | none,none=>true | some a,some b=>Nat.beq a b | _,_=>false
theorem Xqm {a b:Option Nat} (h:obeq a b=true):a=b:=by
 cases a <;> cases b <;> first | rfl | (rw [Nat.eq_of_beq_eq_true h]) | cases h
def abeq (a b:Addr):Bool:=Nat.beq a.block b.block && (Nat.beq a.off b.off && obeq a.spot b.spot)
theorem Xra {b:Addr} (h:abeq a b=true):a=b:=by
 obtain ⟨a1,a2,a3⟩:=a;obtain ⟨b1,b2,b3⟩:=b;simp only [abeq,Bool.and_eq_true] at h;rw [Nat.eq_of_beq_eq_true h.1,Nat.eq_of_beq_eq_true h.2.1,Xqm h.2.2]
def bbeq (a b:Bool):Bool:=match a,b with | true,true | false,false=>true | _,_=>false
theorem Xqk {a b:Bool} (h:bbeq a b=true):a=b:=by cases a <;> cases b <;> first | rfl | cases h
def vbeq:Nat->Value->Value->Bool
 | 0,_,_=>false
 | d + 1,a,b=>match a,b with
  | .bool a,.bool b=>bbeq a b
  | .int k n,.int k' n'=>kbeq k k' && ibeq n n'
  | .string s,.string t=>beqL s.data.toList t.data.toList
  | .pointer none,.pointer none=>true
  | .pointer (some a),.pointer (some b)=>abeq a b
  | .slice none n r,.slice none n' r'=>Nat.beq n n' && Nat.beq r r'
  | .slice (some a) n r,.slice (some a') n' r'=>abeq a a' && (Nat.beq n n' && Nat.beq r r')
  | .map none,.map none=>true
  | .map (some b),.map (some b')=>Nat.beq b b'
  | .nilFunc,.nilFunc=>true
  | .nilIface,.nilIface=>true
  | .iface t v,.iface t' v'=>Nat.beq t t' && vbeq d v v'
  | .agg a,.agg b=>Xdr (vbeq d) a.toList b.toList
  | .tuple a,.tuple b=>Xdr (vbeq d) a.toList b.toList
  | .func (.func f) a c,.func (.func f') a' c'=>Nat.beq f f' && (Xdr (vbeq d) a.toList a'.toList && Xdr (vbeq d) c.toList c'.toList)
  | _,_=>false
theorem Xdf:∀ (d:Nat) (a b:Value),vbeq d a b=true->a=b:=by
 intro d
 induction d with
 | zero=>intro a b h; cases h
 | succ d ih =>
  intro a b h;unfold vbeq at h;split at h
  ·rw [Xqk h]
  ·simp at h; rw [Xvn h.1,Xv1 h.2]
  ·rename_i s t;have:=Xjd h;obtain ⟨⟨l⟩⟩:=s;simp_all
  ·rfl
  ·rw [Xra h]
  ·simp_all
  ·simp only [Bool.and_eq_true] at h; rw [Xra h.1,Nat.eq_of_beq_eq_true h.2.1,Nat.eq_of_beq_eq_true h.2.2]
  ·rfl
  ·simp_all
  ·rfl
  ·rfl
  ·simp only [Bool.and_eq_true] at h; rw [Nat.eq_of_beq_eq_true h.1,ih _ _ h.2]
  ·rw [Array.ext' (X5r ih h)]
  ·rw [Array.ext' (X5r ih h)]
  ·simp only [Bool.and_eq_true] at h;rw [Nat.eq_of_beq_eq_true h.1,Array.ext' (X5r ih h.2.1),Array.ext' (X5r ih h.2.2)]
  grind
def Xsb (d:Nat):List (Value × Value × Nat)->List (Value × Value × Nat)->Bool
 | [],[]=>true
 | (a,b,n) :: l,(a',b',n') :: k=>vbeq d a a' && (vbeq d b b' && (Nat.beq n n' && Xsb d l k))
 | _,_=>false
theorem Xks {d:Nat}:∀ {l k:List (Value × Value × Nat)},Xsb d l k=true->l=k
 | [],[],_=>rfl
 | (a,b,n) :: l,(a',b',n') :: k,h=>by
  simp only [Xsb,Bool.and_eq_true] at h;rw [Xdf _ _ _ h.1,Xdf _ _ _ h.2.1,Nat.eq_of_beq_eq_true h.2.2.1,Xks h.2.2.2]
def Xrh (d:Nat) (a b:AObj):Bool:=match a,b with
 | .cells c v f r t,.cells c' v' f' r' t'=>Nat.beq v v' && (Nat.beq f f' && (bbeq r r' && (obeq t t' && Xdr (vbeq d) c c')))
 | .map e n,.map e' n'=>Nat.beq n n' && Xsb d e e'
 | .siter s p,.siter s' p'=>Nat.beq p p' && beqL s.data.toList s'.data.toList
 | _,_=>false
theorem Xpa {a b:AObj} (h:Xrh d a b=true):a=b:=by
 unfold Xrh at h;split at h
 ·simp only [Bool.and_eq_true] at h;rw [Nat.eq_of_beq_eq_true h.1,Nat.eq_of_beq_eq_true h.2.1,Xqk h.2.2.1,Xqm h.2.2.2.1,X5r (Xdf d) h.2.2.2.2]
 ·simp only [Bool.and_eq_true] at h;rw [Nat.eq_of_beq_eq_true h.1,Xks h.2]
 ·rename_i s p s' p';simp only [Bool.and_eq_true] at h;have:=Xjd h.2;obtain ⟨⟨l⟩⟩:=s;simp_all
 ·cases h
def Xgv:List (Nat × AObj)->Tr Raw->Tr Raw
 | [],t=>t
 | (b,o) :: l,t=>Xgv l (Tr.put (b + 1) t (b + 1) (.plain o))
def lget:List (Nat × AObj)->Nat->Option AObj
 | [],_=>none
 | (b,o) :: l,c=>match Nat.beq b c with | true=>some o | false=>lget l c
theorem Xal:∀ (l:List (Nat × AObj)) (t:Tr Raw) (c:Nat),(∀ b o,(b,o) ∈ l->t.get (b + 1)=none\/True)->((Xgv l t).get (c + 1)).map Raw.norm=match lget l.reverse c with | some o=>some o | none=>(t.get (c + 1)).map Raw.norm
 | [],t,c,_=>rfl
 | (b,o) :: l,t,c,_=>by
  have ap:∀ (k:List (Nat × AObj)) (x:Nat × AObj),lget (k ++ [x]) c=match lget k c with | some o=>some o | none=>(match Nat.beq x.1 c with | true=>some x.2 | false=>none):=by
   intro k x
   induction k with
   | nil=>obtain ⟨x1,x2⟩:=x; simp [lget]
   | cons y k ih =>
    obtain ⟨y1,y2⟩:=y;simp only [List.cons_append,lget];cases Nat.beq y1 c
    ·exact ih
    ·rfl
  rw [Xgv,Xal l _ c (fun _ _ _=>.inr trivial),List.reverse_cons,ap];cases lget l.reverse c with
  | some o=>rfl
  | none =>
   simp only;rw [Tr.get_put _ _ _ _ _ (by omega) (by omega) (Nat.le_refl _)];cases hb:Nat.beq b c
   ·have:=Nat.ne_of_beq_eq_false hb
    grind
   ·have:=Nat.eq_of_beq_eq_true hb;simp [this];rfl
theorem Xfk:∀ {l:List (Nat × AObj)} {c:Nat} {o:AObj},lget l c=some o->(c,o) ∈ l
 | (b,o') :: l,c,o,h=>by
  simp only [lget] at h;split at h
  ·simp_all
  ·exact List.mem_cons_of_mem _ (Xfk h)
structure Memo where
 f:FuncId
 args:List Value
 old:List (Nat × AObj)
 next:Nat
 v:Value
 new:List (Nat × AObj)
 next':Nat
def Memo.mem (e:Memo):Mem:=⟨e.next,e.next,Xgv e.old .nil⟩
def inL (l:List (Nat × AObj)) (b:Nat):Bool:=match lget l b with | some _=>true | none=>false
def Memo.good (e:Memo):Bool:=
 e.args.all (X41 (inL e.old.reverse) 9) && (e.old.all (fun x=>Xaw (inL e.old.reverse) 9 x.2 && Nat.blt x.1 e.next) &&
 (X41 (fun b=>inL e.old.reverse b || inL e.new.reverse b) 9 e.v && (e.new.all (fun x=>Xaw (fun b=>inL e.old.reverse b || inL e.new.reverse b) 9 x.2 && (Xgj x.2 && (Nat.ble e.next x.1 && Nat.blt x.1 e.next'))) && Nat.ble e.next e.next')))
def holds (m:Mem):List (Nat × AObj)->Bool
 | []=>true
 | (b,o) :: l=>(match m.get b with | some o'=>(match Xrh 9 o' o with | true=>holds m l | false=>false) | none=>false)
theorem Xcb {m:Mem}:∀ {l:List (Nat × AObj)},holds m l=true->∀ {b o},(b,o) ∈ l->m.get b=some o
 | (b',o') :: l,h,b,o,hm=>by
  simp only [holds] at h;split at h
  ·rename_i o2 h2;split at h
   ·rename_i hb;rcases List.mem_cons.mp hm with e | e
    ·cases e;rw [h2,Xpa hb]
    ·exact Xcb h e
   grind
  grind
def Memo.so (e:Memo) (x:Option Rs):Bool:=match x with
 | some (v,m1)=>(match vbeq 9 v e.v with | true=>(match Nat.ble e.next m1.low with | true=>(match Nat.beq m1.next e.next' with | true=>holds m1 e.new | false=>false) | false=>false) | false=>false)
 | none=>false
def Memo.after (e:Memo) (m:Mem):Mem:=match e.new with
 | []=>m
 | _=>⟨e.next',m.low,Xgv e.new m.tr⟩
def Memo.nextOk (e:Memo) (m:Mem):Bool:=match e.new with | []=>true | _=>Nat.beq m.next e.next
def Memo.ov (e:Memo):Over:=fun f args m =>
 match Nat.beq f e.f with
 | false=>none
 | true=>match Xdr (vbeq 9) args e.args with
  | false=>none
  | true=>match e.nextOk m with
   | false=>none
   | true=>match holds m e.old with
    | false=>none
    | true=>some (e.v,e.after m)
theorem Xah {l:List (Nat × AObj)} (h:inL l b=true):∃ o,lget l b=some o:=by
 unfold inL at h
 grind
theorem Memo.get_mem (e:Memo) (b:Nat):e.mem.get b=lget e.old.reverse b:=by
 unfold Memo.mem;rw [Mem.get_def];simp only;rw [Xal _ _ _ (fun _ _ _=>.inr trivial)];cases lget e.old.reverse b with
 | some o=>rfl
 | none=>simp [Tr.get_nil]
theorem Memo.get_after {e:Memo} (b:Nat):(e.after m).get b=match lget e.new.reverse b with | some o=>some o | none=>m.get b:=by
 unfold Memo.after;split
 ·rename_i h; rw [h]; rfl
 ·rw [Mem.get_def,Mem.get_def];simp only;rw [Xal _ _ _ (fun _ _ _=>.inr trivial)]
theorem Memo.low_after {e:Memo}:(e.after m).low=m.low:=by grind [Memo.after]
theorem Xvk {P:Program} {W0:World} {g:Tab} (hT:X1f P W0 g) {e:Memo} (hgood:e.good=true) (hso:e.so (g e.f e.args e.mem)=true):X15 P W0 e.ov:=by
 intro φ m w f args cargs v m' hR hB hA hg
 -- what was found
 unfold Memo.so at hso;split at hso
 case h_2=>cases hso
 rename_i v0 m1 hres;split at hso
 case h_2=>cases hso
 rename_i hv0;split at hso
 case h_2=>cases hso
 rename_i hlow;split at hso
 case h_2=>cases hso
 rename_i hnx;have hv0:=Xdf _ _ _ hv0;subst hv0;have hlow:=Nat.le_of_ble_eq_true hlow;have hnx:=Nat.eq_of_beq_eq_true hnx
 -- well made
 unfold Memo.good at hgood;simp only [Bool.and_eq_true] at hgood;obtain ⟨g1,g2,g3,g4,g5⟩:=hgood;have g5:=Nat.le_of_ble_eq_true g5
 -- asked so
 simp only [Memo.ov] at hg;split at hg
 ·cases hg
 rename_i hf;split at hg
 ·cases hg
 rename_i hargs;split at hg
 ·cases hg
 rename_i hnext;split at hg
 ·cases hg
 rename_i hold;cases hg;have hf:=Nat.eq_of_beq_eq_true hf;have hargs:=X5r (Xdf 9) hargs;subst hf;subst hargs;have nexteq:e.new ≠ []->m.next=e.next:=by
  intro hne;unfold Memo.nextOk at hnext;split at hnext
  ·grind
  ·simp_all
 -- the small map
 let φ0:Pmap:=fun b=>if inL e.old.reverse b=true then φ b else none;have in0:∀ b,inL e.old.reverse b=true->φ0 b=φ b:=fun b h=>if_pos h;have in0':∀ b pl,φ0 b=some pl->inL e.old.reverse b=true/\φ b=some pl:=by
  grind
 have oldget:∀ b o,lget e.old.reverse b=some o->m.get b=some o/\Xaw (inL e.old.reverse) 9 o=true/\b < e.next:=by
  intro b o h;have hm:=List.mem_reverse.mp (Xfk h);have:=List.all_eq_true.mp g2 _ hm;simp only [Bool.and_eq_true] at this;refine ⟨Xcb hold hm,this.1,?_⟩;have h2:=this.2;simp only [Nat.blt,Nat.ble_eq] at h2;omega
 have newget:∀ b o,lget e.new.reverse b=some o->m1.get b=some o/\Xaw (fun b=>inL e.old.reverse b || inL e.new.reverse b) 9 o=true/\Xgj o=true/\e.next <= b/\b < e.next':=by
  intro b o h;have hm:=List.mem_reverse.mp (Xfk h);have:=List.all_eq_true.mp g4 _ hm;simp only [Bool.and_eq_true] at this;refine ⟨Xcb hso hm,this.1,this.2.1,Nat.le_of_ble_eq_true this.2.2.1,?_⟩;have h2:=this.2.2.2;simp only [Nat.blt,Nat.ble_eq] at h2;omega
 have R0:Rel W0.heap.size φ0 e.mem w:=by
  refine ⟨fun b pl hb=>?_,fun b b' pl pl' hb hb'=>hR.inj b b' pl pl' (in0' b pl hb).2 (in0' b' pl' hb').2,fun b pl hb=>hR.base b pl (in0' b pl hb).2,hR.size,fun b hb=>?_⟩
  ·obtain ⟨h1,h2⟩:=in0' b pl hb;obtain ⟨o,ho⟩:=Xah h1;obtain ⟨q1,q2,q3⟩:=oldget b o ho;obtain ⟨r1,o',r2,r3⟩:=hR.blocks b pl h2;rw [q1] at r2;cases r2;exact ⟨q3,o,by rw [Memo.get_mem]; exact ho,r3.swap (fun b h=>(in0 b h).symm) q2⟩
  ·rw [Memo.get_mem];cases hl:lget e.old.reverse b with
   | none=>rfl
   | some o=>have:=(oldget b o hl).2.2; have hb':e.next <= b:=hb; omega
 have A0:VRels φ0 e.args cargs:=Xcu (fun b h=>(in0 b h).symm) 9 g1 hA;have key:∀ cv w',After W0.heap.size φ0 e.mem w e.v m1 cv w'->After W0.heap.size φ m w e.v (e.after m) cv w':=by
  rintro cv w' ⟨φ1,R1,V1,S⟩
  -- the new blocks are above all that is old
  have newnext:∀ b o,lget e.new.reverse b=some o->m.next <= b/\m.next=e.next:=by
   intro b o h;have hne:e.new ≠ []:=by
    intro h0;rw [h0] at h;cases h
   have:m.next=e.next:=nexteq hne;exact ⟨by grind,this⟩
  let φ':Pmap:=fun b=>if b < m.next then φ b else if inL e.new.reverse b=true then φ1 b else none;have oldmap:∀ b,b < m.next->φ' b=φ b:=fun b h=>if_pos h;have newmap:∀ b,inL e.new.reverse b=true->φ' b=φ1 b:=by
   intro b h;obtain ⟨o,ho⟩:=Xah h;have:=(newnext b o ho).1;show (if b < m.next then φ b else if inL e.new.reverse b=true then φ1 b else none)=φ1 b;rw [if_neg (by omega),if_pos h]
  have notmap:∀ b,¬ b < m.next->¬ inL e.new.reverse b=true->φ' b=none:=by
   grind
  have le:φ.le φ':=fun b pl h=>⟨pl,by rw [oldmap b (hR.blocks b pl h).1]; exact h,.inl rfl⟩
  have same0:∀ b,inL e.old.reverse b=true->m1.get b=e.mem.get b/\φ1 b=φ0 b:=by
   intro b h;obtain ⟨o,ho⟩:=Xah h;have:=(oldget b o ho).2.2;exact S.same b (by omega) this
  have oldold:∀ b,inL e.old.reverse b=true->φ' b=φ1 b:=by
   intro b h;obtain ⟨o,ho⟩:=Xah h;have h1:=(same0 b h).2;rw [in0 b h] at h1;rw [h1];by_cases hb:b < m.next
   ·grind
   ·have hm:=(oldget b o ho).1;rw [hR.fresh b (by omega)] at hm;cases hm
  have both:∀ b,(inL e.old.reverse b || inL e.new.reverse b)=true->φ1 b=φ' b:=by
   grind
  have newof:∀ b pl,φ' b=some pl->¬ b < m.next->∃ o,lget e.new.reverse b=some o/\φ1 b=some pl/\pl.ro=false:=by
   intro b pl h hb;by_cases hn:inL e.new.reverse b=true
   ·obtain ⟨o,ho⟩:=Xah hn;rw [newmap b hn] at h;obtain ⟨q1,q2,q3,_⟩:=newget b o ho;obtain ⟨_,o',h1,h2⟩:=R1.blocks b pl h;rw [q1] at h1;cases h1;exact ⟨o,ho,h,Xn9 h2 q3⟩
   ·rw [notmap b hb hn] at h; cases h
  have oldblk:∀ b pl,φ b=some pl->pl.blk < w.heap.size:=by
   intro b pl h;obtain ⟨_,o,_,h3⟩:=hR.blocks b pl h;exact h3.there
  have newinj:∀ b b' pl pl',φ' b=some pl->¬ b < m.next->φ b'=some pl'->pl.blk=pl'.blk->b=b':=by
   intro b b' pl pl' h hb h' he;obtain ⟨o,ho,h1,hr⟩:=newof b pl h hb;rcases S.img b pl h1 hr with ⟨b2,pl2,k1,k2,k3⟩ | k
   ·obtain ⟨k4,k5⟩:=in0' b2 pl2 k1;have e2:=hR.inj b2 b' pl2 pl' k5 h' k2 (k3.trans he);subst e2;have:φ1 b2=some pl2:=by rw [(same0 b2 k4).2]; exact k1
    exact R1.inj b b2 pl pl2 h1 this hr k3.symm
   ·have:=oldblk b' pl' h';omega
  refine ⟨φ',⟨fun b pl hb=>?_,fun b b' pl pl' hb hb' hr he=>?_,fun b pl hb hr=>?_,Nat.le_trans hR.size S.size,fun b hb=>?_⟩,X55 (fun b h=>both b h) 9 g3 V1,
   ⟨le,?_,by rw [Memo.low_after]; omega,fun b h1 h2=>?_,S.os,S.tape,S.output,S.size,fun B hB hn=>S.frame B hB (fun b pl hb hr=>hn b pl (in0' b pl hb).2 hr),fun b pl hb hr=>?_,fun b h1 h2=>?_⟩⟩
  ·-- the blocks
   by_cases hlt:b < m.next
   ·have hnew:lget e.new.reverse b=none:=by
     cases hl:lget e.new.reverse b with
     | none=>rfl
     | some o=>grind
    rw [oldmap b hlt] at hb;obtain ⟨q1,o,q2,q3⟩:=hR.blocks b pl hb;refine ⟨?_,o,by rw [Memo.get_after,hnew]; exact q2,?_⟩
    ·unfold Memo.after
     grind
    ·by_cases hin:inL e.old.reverse b=true
     ·obtain ⟨o',ho'⟩:=Xah hin;obtain ⟨p1,p2,p3⟩:=oldget b o' ho';rw [q2] at p1;cases p1;have hb1:φ1 b=some pl:=by rw [(same0 b hin).2,in0 b hin]; exact hb
      obtain ⟨_,o2,r2,r3⟩:=R1.blocks b pl hb1;rw [(same0 b hin).1,Memo.get_mem,ho'] at r2;cases r2;exact r3.swap (fun b h=>(oldold b h).symm) p2
     ·refine (q3.of_heap (S.frame _ (oldblk b pl hb) fun b' pl' hb' hr' he=>?_)).mono le;obtain ⟨k1,k2⟩:=in0' b' pl' hb';have:=hR.inj b' b pl' pl k2 hb hr' he
      grind
   ·obtain ⟨o,ho,h1,hr⟩:=newof b pl hb hlt;obtain ⟨q1,q2,q3,q4,q5⟩:=newget b o ho;obtain ⟨_,o',r1,r2⟩:=R1.blocks b pl h1;rw [q1] at r1;cases r1;refine ⟨?_,o,by rw [Memo.get_after,ho],r2.swap (fun b h=>both b h) q2⟩;unfold Memo.after;split
    ·rename_i h0; rw [h0] at ho; cases ho
    ·exact q5
  ·-- injective
   by_cases hlt:b < m.next
   ·rw [oldmap b hlt] at hb;by_cases hlt':b' < m.next
    ·rw [oldmap b' hlt'] at hb';exact hR.inj b b' pl pl' hb hb' hr he
    ·exact (newinj b' b pl' pl hb' hlt' hb he.symm).symm
   ·by_cases hlt':b' < m.next
    ·grind
    ·obtain ⟨_,_,h1,_⟩:=newof b pl hb hlt;obtain ⟨_,_,h2,_⟩:=newof b' pl' hb' hlt';exact R1.inj b b' pl pl' h1 h2 hr he
  ·by_cases hlt:b < m.next
   ·rw [oldmap b hlt] at hb;exact hR.base b pl hb hr
   ·obtain ⟨_,_,h1,_⟩:=newof b pl hb hlt;exact R1.base b pl h1 hr
  ·rw [Memo.get_after];have hge:m.next <= b/\lget e.new.reverse b=none:=by
    unfold Memo.after at hb;split at hb
    ·rename_i h0; rw [h0]; trivial
    ·rename_i hne;have:=nexteq hne;have hb':e.next' <= b:=hb;refine ⟨by omega,?_⟩;cases hl:lget e.new.reverse b with
     | none=>rfl
     | some o=>grind
   rw [hge.2];exact hR.fresh b hge.1
  ·unfold Memo.after
   grind
  ·refine ⟨?_,oldmap b h2⟩;rw [Memo.get_after]
   grind
  ·by_cases hlt:b < m.next
   ·grind
   ·obtain ⟨_,_,h1,_⟩:=newof b pl hb hlt;rcases S.img b pl h1 hr with ⟨b2,pl2,k1,k2,k3⟩ | k
    ·grind
    omega
  ·refine ⟨by grind,?_⟩;rw [Memo.get_after]
   grind
 have h:=hT φ0 _ w e.f _ _ e.v m1 R0 hB A0 hres;rcases h with ⟨h1,h2⟩ | ⟨cv,w',h1,h2⟩
 ·exact .inl ⟨h1,h2.mono fun x w' ⟨cv,hx,ha⟩=>⟨cv,hx,key cv w' ha⟩⟩
 ·exact .inr ⟨cv,w',h1,key cv w' h2⟩
open Go.RowKit (Below)
variable {P:Program} {W0:World}
theorem Xf2 (hB:Below W0.heap.size W0 w) {n:String} (h:W0.var? P n=some cs):w.var? P n=some cs:=by
 unfold World.var? at h ⊢;cases hg:P.globalNamed n with
 | none=>grind
 | some g =>
  rw [hg] at h;simp at h ⊢;have hlt:g < W0.heap.size:=by
   grind
  rw [hB.block g hlt];exact h
theorem Xsh {w1:World} (h:Rel B0 φ m w) (hbl:Below w.heap.size w w1) (pl:Pl) (hblk:w.heap.size <= pl.blk) (o:AObj) (hb:BRel (φ.upd m.next pl) w1 pl o) :
  Rel B0 (φ.upd m.next pl) (m.push o) w1/\Stp φ m w (φ.upd m.next pl) (m.push o) w1:=by
 have hfresh:∀ pl',φ m.next ≠ some pl':=fun pl' hx=>by have:=(h.blocks _ _ hx).1; omega
 have hle:φ.le (φ.upd m.next pl):=fun b p hb=>⟨p,by rw [Pmap.upd_other pl (fun x=>hfresh p (by grind)),hb],.inl rfl⟩
 have hold:=fun B hB=>hbl.block B hB;refine ⟨⟨fun b p hp=>?_,fun b b' p p' hp hp' hr heq=>?_,fun b p hp hr=>?_,Nat.le_trans h.size hbl.size,fun b hb=>by rw [Mem.get_push,if_neg (by simp at hb; omega)]; exact h.fresh b (by simp at hb; omega)⟩,?_⟩
 ·by_cases hbn:b=m.next
  ·subst hbn;rw [Pmap.upd_same] at hp;cases hp;exact ⟨by simp,o,by rw [Mem.get_push,if_pos rfl],hb⟩
  ·rw [Pmap.upd_other pl hbn] at hp;obtain ⟨h1,o',h2,h3⟩:=h.blocks b p hp;refine ⟨by simp; omega,o',by rw [Mem.get_push,if_neg (Ne.symm hbn)]; exact h2,?_⟩;exact (h3.mono hle).of_heap (hold _ h3.there)
 ·by_cases hbn:b=m.next
  ·by_cases hbn':b'=m.next
   ·omega
   ·subst hbn;rw [Pmap.upd_same] at hp;rw [Pmap.upd_other pl hbn'] at hp';cases hp;obtain ⟨_,o',_,h3⟩:=h.blocks b' p' hp';have:=h3.there;omega
  ·by_cases hbn':b'=m.next
   ·subst hbn';rw [Pmap.upd_same] at hp';rw [Pmap.upd_other pl hbn] at hp;cases hp';obtain ⟨_,o',_,h3⟩:=h.blocks b p hp;have:=h3.there;omega
   ·rw [Pmap.upd_other pl hbn] at hp;rw [Pmap.upd_other pl hbn'] at hp';exact h.inj b b' p p' hp hp' hr heq
 ·by_cases hbn:b=m.next
  ·subst hbn;rw [Pmap.upd_same] at hp;cases hp;exact Nat.le_trans h.size hblk
  ·rw [Pmap.upd_other pl hbn] at hp;exact h.base b p hp hr
 ·refine ⟨hle,by simp,by simp,fun b _ hb2=>?_,hbl.os,hbl.tape,hbl.output,hbl.size,fun B hB _=>hold B hB,fun b p hp hr=>?_,fun b hb1 hb2=>?_⟩
  ·have hne:b ≠ m.next:=by omega
   exact ⟨by rw [Mem.get_push,if_neg (Ne.symm hne)],Pmap.upd_other pl hne⟩
  ·by_cases hbn:b=m.next
   ·subst hbn;rw [Pmap.upd_same] at hp
    grind
   ·rw [Pmap.upd_other pl hbn] at hp
    grind
  ·have hne:b ≠ m.next:=by omega
   exact ⟨by rw [Pmap.upd_other pl hne]; exact hb2,by rw [Mem.get_push,if_neg (Ne.symm hne)]⟩
theorem X7d {x:Value} (he:(callFunc f cargs.toArray).run P w=.ok (.enter f cargs.toArray) w) (hx:X4j x=true) (hc:Calls P f cargs.toArray w fun e w'=>∃ N,e=.returned (.tuple #[x,.iface T (.pointer (some ⟨N,0,none⟩))])/\w.heap.size <= N/\(∃ C ty,w'.heap[N]?=some (.cells C ty (0,0)))/\Below w.heap.size w w') (hR:Rel W0.heap.size φ m w) :
  Xi0 P f cargs w (After W0.heap.size φ m w (.tuple #[x,.iface T (.pointer (some ⟨m.next,0,some 0⟩))]) (m.push (.cells [] 0 0 false none))):=by
 refine .inl ⟨he,hc.mono fun e w' h=>?_⟩;obtain ⟨N,rfl,hN,⟨C,ty,hC⟩,hb⟩:=h;refine ⟨_,rfl,φ.upd m.next ⟨N,0,0,C.size,0,false⟩,?_⟩;have hb2:BRel (φ.upd m.next ⟨N,0,0,C.size,0,false⟩) w' ⟨N,0,0,C.size,0,false⟩ (.cells [] 0 0 false none):=by
  refine ⟨rfl,rfl,Nat.le_refl _,C,ty,0,0,hC,rfl,fun i v _ h=>?_,fun _ i _ _ _=>by omega,fun t h=>by cases h⟩;simp at h
 obtain ⟨h1,h2⟩:=Xsh hR hb _ hN _ hb2;refine ⟨h1,.tuple _ _ (.cons _ _ _ _ (X1d hx) (.cons _ _ _ _ (.iface _ _ _ (.ptr _ 0 0 N 0 _ (Pmap.upd_same _ _ _) (Nat.le_refl _) fun _=>⟨rfl,Nat.le_refl _,rfl⟩)) .nil)),h2⟩
def dig:Nat->Nat->List UInt8->List UInt8
 | 0,_,acc=>acc
 | f + 1,n,acc=>match Nat.blt n 10 with | true=>UInt8.ofNat (48 + n) :: acc | false=>dig f (n / 10) (UInt8.ofNat (48 + n % 10) :: acc)
theorem Xr5:∀ (f n:Nat) (acc:List UInt8),n < 10 ^ f->1 <= f->dig f n acc=Lib.decDigits n ++ acc
 | 0,_,_,_,h=>by omega
 | f + 1,n,acc,h,_=>by
  rw [Lib.decDigits];by_cases hn:n < 10
  ·have:Nat.blt n 10=true:=by simp_all
   simp only [dig,this,dif_pos hn];rfl
  ·have:Nat.blt n 10=false:=by
    cases hb:Nat.blt n 10
    ·rfl
    ·simp [Nat.blt] at hb; omega
   have hf:1 <= f:=by
    grind
   simp only [dig,this,dif_neg hn];rw [Xr5 f _ _ (by omega) hf];simp
def Xvz (n:Int):List UInt8:=match n with | .ofNat k=>dig 20 k [] | .negSucc k=>45 :: dig 20 (k + 1) []
theorem Xl7 {n:Int} (h0:-9223372036854775808 <= n) (h1:n <= 9223372036854775807):Xvz n=Lib.itoa n:=by
 cases n with
 | ofNat k =>
  have hk:(k:Int) <= 9223372036854775807:=h1;show dig 20 k []=Lib.itoa (k);rw [Xr5 20 k [] (by omega) (by omega),List.append_nil,Lib.itoa,if_neg (by omega),Int.toNat_natCast]
 | negSucc k =>
  have e:Int.negSucc k=-((k) + 1):=by omega
  have hk:-((k:Int) + 1) ≥ -9223372036854775808:=by rw [<- e]; exact h0
  show 45 :: dig 20 _ []=Lib.itoa _;rw [Xr5 20 _ [] (by omega) (by omega),List.append_nil,Lib.itoa,if_pos (by omega)];rfl
def Xfv (n:Int):Bool:=match n with | .ofNat k=>Nat.blt k 9223372036854775808 | .negSucc k=>Nat.blt k 9223372036854775808
theorem Xd9 {n:Int} (h:Xfv n=true):-9223372036854775808 <= n/\n <= 9223372036854775807:=by
 cases n with
 | ofNat k =>
  simp [Xfv,Nat.blt] at h
  grind
 | negSucc k =>
  simp [Xfv,Nat.blt] at h;omega
def Xll (f0:FuncId):Over:=fun f args m=>match args with
 | [.int .i64 n]=>if f=f0/\Xfv n=true then some (.string ⟨(Xvz n).toArray⟩,m) else none
 | _=>none
theorem Xol {c:Code} (hf:P.funcs[f0]?=some fn) (hb:fn.body=some c) (hn:(fn.name == "runtime.NumGoroutine")=false) (htab:Lib.TabIs P W0 "internal/strconv.uint64pow10" .u64 Lib.pow10Tab) (hc:∀ (n:Int) (w:World),-9223372036854775808 <= n->n <= 9223372036854775807->Lib.TabIs P w "internal/strconv.uint64pow10" .u64 Lib.pow10Tab->Calls P f0 #[.int .i64 n] w fun e w'=>e=.returned (.string ⟨(Lib.itoa n).toArray⟩)/\Below w.heap.size w w'):X15 P W0 (Xll f0):=by
 intro φ m w f args cargs v m' hR hB hA hg;simp only [Xll] at hg;split at hg
 ·rename_i n;split at hg
  ·rename_i h;obtain ⟨rfl,hi⟩:=h;simp at hg;obtain ⟨rfl,rfl⟩:=hg;obtain ⟨c1,rfl,h1⟩:=hA.ints1;cases h1.nils;obtain ⟨q1,q2⟩:=Xd9 hi;rw [Xl7 q1 q2];exact X3s (enters hf hb hn _ _) (hc n w q1 q2 (Xf2 hB htab)) hR (.string _)
  grind
 grind
def errV (x:Value) (T:TypeId) (m:Mem):Option Rs:=some (.tuple #[x,.iface T (.pointer (some ⟨m.next,0,some 0⟩))],m.push (.cells [] 0 0 false none))
def Xkk (f0:FuncId) (T:TypeId):Over:=fun f args m=>match args with
 | [.string s]=>if f=f0/\s.size <= 281474976710656 then (match Lib.atoiAll s.data.toList with
   | .ok v=>some (.tuple #[.int .i64 v,.nilIface],m)
   | Lib.NumEnd.syntax=>errV (.int .i64 0) T m
   | .range=>errV (.int .i64 (Lib.atoiSat s.data.toList)) T m) else none
 | _=>none
theorem Xqx {c:Code} (hf:P.funcs[f0]?=some fn) (hb:fn.body=some c) (hn:(fn.name == "runtime.NumGoroutine")=false) {V:World->Prop} (hV:∀ w,Below W0.heap.size W0 w->V w) (h1:∀ (s:ByteArray) (v:Int) (w:World),s.size <= 281474976710656->Lib.atoiAll s.data.toList=.ok v->Calls P f0 #[.string s] w fun e w'=>e=.returned (.tuple #[.int .i64 v,.nilIface])/\Below w.heap.size w w') (h2:∀ (s:ByteArray) (w:World),s.size <= 281474976710656->Lib.atoiAll s.data.toList=Lib.NumEnd.syntax->V w->Calls P f0 #[.string s] w fun e w'=>∃ N,e=.returned (.tuple #[.int .i64 0,.iface T (.pointer (some ⟨N,0,none⟩))])/\w.heap.size <= N/\(∃ C ty,w'.heap[N]?=some (.cells C ty (0,0)))/\Below w.heap.size w w') (h3:∀ (s:ByteArray) (w:World),s.size <= 281474976710656->Lib.atoiAll s.data.toList=.range->V w->Calls P f0 #[.string s] w fun e w'=>∃ N,e=.returned (.tuple #[.int .i64 (Lib.atoiSat s.data.toList),.iface T (.pointer (some ⟨N,0,none⟩))])/\w.heap.size <= N/\(∃ C ty,w'.heap[N]?=some (.cells C ty (0,0)))/\Below w.heap.size w w') :
  X15 P W0 (Xkk f0 T):=by
 intro φ m w f args cargs v m' hR hB hA hg;simp only [Xkk] at hg;split at hg
 ·rename_i s;split at hg
  ·rename_i h;obtain ⟨rfl,hs⟩:=h;obtain ⟨c1,rfl,k1⟩:=hA.strings;cases k1.nils;split at hg
   ·rename_i u hu;simp at hg;obtain ⟨rfl,rfl⟩:=hg;exact X3s (enters hf hb hn _ _) (h1 s u w hs hu) hR (.tuple _ _ (.cons _ _ _ _ (.int _ _) (.cons _ _ _ _ .nilIface .nil)))
   ·rename_i hu;simp only [errV,Option.some.injEq,Prod.mk.injEq] at hg;obtain ⟨rfl,rfl⟩:=hg;exact X7d (enters hf hb hn _ _) rfl (h2 s w hs hu (hV w hB)) hR
   ·rename_i hu;simp only [errV,Option.some.injEq,Prod.mk.injEq] at hg;obtain ⟨rfl,rfl⟩:=hg;exact X7d (enters hf hb hn _ _) rfl (h3 s w hs hu (hV w hB)) hR
  grind
 grind
def ovPu (f0:FuncId) (T:TypeId) (size:Int) (B:Nat):Over:=fun f args m=>match args with
 | [.string s,.int .i64 ba,.int .i64 sz]=>if f=f0/\s.size <= 281474976710656/\ba=10/\sz=size then (match Lib.parseUintB B s.data.toList with
   | .ok u=>some (.tuple #[.int .u64 u,.nilIface],m)
   | Lib.NumEnd.syntax=>errV (.int .u64 0) T m
   | .range=>errV (.int .u64 (2 ^ B - 1:Nat)) T m) else none
 | _=>none
theorem Xoc {size:Int} {c:Code} (hf:P.funcs[f0]?=some fn) (hb:fn.body=some c) (hn:(fn.name == "runtime.NumGoroutine")=false) {V:World->Prop} (hV:∀ w,Below W0.heap.size W0 w->V w) (h1:∀ (s:ByteArray) (u:Nat) (w:World),s.size <= 281474976710656->Lib.parseUintB B s.data.toList=.ok u->Calls P f0 #[.string s,.int .i64 10,.int .i64 size] w fun e w'=>e=.returned (.tuple #[.int .u64 u,.nilIface])/\Below w.heap.size w w') (h2:∀ (s:ByteArray) (w:World),s.size <= 281474976710656->Lib.parseUintB B s.data.toList=Lib.NumEnd.syntax->V w->Calls P f0 #[.string s,.int .i64 10,.int .i64 size] w fun e w'=>∃ N,e=.returned (.tuple #[.int .u64 0,.iface T (.pointer (some ⟨N,0,none⟩))])/\w.heap.size <= N/\(∃ C ty,w'.heap[N]?=some (.cells C ty (0,0)))/\Below w.heap.size w w') (h3:∀ (s:ByteArray) (w:World),s.size <= 281474976710656->Lib.parseUintB B s.data.toList=.range->V w->Calls P f0 #[.string s,.int .i64 10,.int .i64 size] w fun e w'=>∃ N,e=.returned (.tuple #[.int .u64 (2 ^ B - 1:Nat),.iface T (.pointer (some ⟨N,0,none⟩))])/\w.heap.size <= N/\(∃ C ty,w'.heap[N]?=some (.cells C ty (0,0)))/\Below w.heap.size w w') :
  X15 P W0 (ovPu f0 T size B):=by
 intro φ m w f args cargs v m' hR hB hA hg;simp only [ovPu] at hg;split at hg
 ·rename_i s ba sz;split at hg
  ·rename_i h;obtain ⟨rfl,hs,rfl,rfl⟩:=h;obtain ⟨c1,rfl,k1⟩:=hA.strings;obtain ⟨c2,rfl,k2⟩:=k1.ints1;obtain ⟨c3,rfl,k3⟩:=k2.ints1;cases k3.nils;split at hg
   ·rename_i u hu;simp at hg;obtain ⟨rfl,rfl⟩:=hg;exact X3s (enters hf hb hn _ _) (h1 s u w hs hu) hR (.tuple _ _ (.cons _ _ _ _ (.int _ _) (.cons _ _ _ _ .nilIface .nil)))
   ·rename_i hu;simp only [errV,Option.some.injEq,Prod.mk.injEq] at hg;obtain ⟨rfl,rfl⟩:=hg;exact X7d (enters hf hb hn _ _) rfl (h2 s w hs hu (hV w hB)) hR
   ·rename_i hu;simp only [errV,Option.some.injEq,Prod.mk.injEq] at hg;obtain ⟨rfl,rfl⟩:=hg;exact X7d (enters hf hb hn _ _) rfl (h3 s w hs hu (hV w hB)) hR
  grind
 grind
def strsOf:List Value->Option (List ByteArray)
 | []=>some []
 | .string s :: r=>(match strsOf r with | some l=>some (s :: l) | none=>none)
 | _=>none
theorem Xew {φ:Pmap}:∀ {cs ccs:List Value} {l:List ByteArray},strsOf cs=some l->VRels φ cs ccs->ccs=l.map .string/\cs.length=l.length
 | [],_,l,h,hv=>by
  cases hv;simp only [strsOf,Option.some.injEq] at h
  grind
 | v :: r,_,l,h,hv=>by
  cases hv with
  | cons _ v' _ l' hv hl =>
   cases v with
   | string s =>
    simp only [strsOf] at h;split at h
    ·rename_i l2 h2;cases h;obtain ⟨e1,e2⟩:=Xew h2 hl;cases hv
     grind
    grind
   | _=>cases h
def Xet (l:List ByteArray) (sep:ByteArray):List UInt8:=Lib.join (l.map (·.data.toList)) sep.data.toList
def Xlf (f0:FuncId):Over:=fun f args m=>match args with
 | [.slice none 0 0,.string _]=>if f=f0 then some (.string ⟨#[]⟩,m) else none
 | [.slice (some a) n r,.string sep]=>if f=f0 then (match getCells m ⟨a.block,a.off,some (r / 2)⟩ n with
   | some cs=>(match strsOf cs with
    | some l=>(match Nat.ble n 140737488355328 && Nat.ble (Xet l sep).length 140737488355328 with
     | true=>some (.string ⟨(Xet l sep).toArray⟩,m)
     | false=>none)
    | none=>none)
   | none=>none) else none
 | _=>none
theorem Xod {c:Code} (hf:P.funcs[f0]?=some fn) (hb:fn.body=some c) (hn:(fn.name == "runtime.NumGoroutine")=false) (h0:∀ (a:Option Addr) (c:Nat) (sep:ByteArray) (w:World),Calls P f0 #[.slice a 0 c,.string sep] w fun e w'=>e=.returned (.string ⟨#[]⟩)/\w'=w) (h1:∀ (bk o c:Nat) (xs:List ByteArray) (sep:ByteArray) (w:World),(∀ (j:Nat) x,xs[j]?=some x->w.cell? ⟨bk,o + j,none⟩=some (.string x))->bk < w.heap.size->xs.length <= 140737488355328->xs.length <= c ->
   (Lib.join (xs.map (·.data.toList)) sep.data.toList).length <= 140737488355328 ->
   Calls P f0 #[.slice (some ⟨bk,o,none⟩) xs.length c,.string sep] w fun e w'=>e=.returned (.string ⟨(Lib.join (xs.map (·.data.toList)) sep.data.toList).toArray⟩)/\Below w.heap.size w w'):X15 P W0 (Xlf f0):=by
 intro φ m w f args cargs v m' hR hB hA hg;simp only [Xlf] at hg;split at hg
 ·rename_i sep;split at hg
  ·rename_i h;subst h;simp at hg;obtain ⟨rfl,rfl⟩:=hg;cases hA with
   | cons _ v' _ l' hv hl =>
    cases hv;obtain ⟨c2,rfl,k2⟩:=hl.strings;cases k2.nils;exact X30 (enters hf hb hn _ _) (h0 _ 0 sep w) hR (.string _)
  grind
 ·rename_i a n r sep;split at hg
  ·rename_i h;subst h;split at hg
   ·rename_i cs hcs;split at hg
    ·rename_i l hl;split at hg
     ·rename_i hbd;simp at hg;obtain ⟨rfl,rfl⟩:=hg;simp only [Bool.and_eq_true] at hbd;have b1:=Nat.le_of_ble_eq_true hbd.1;have b2:=Nat.le_of_ble_eq_true hbd.2;cases hA with
      | cons _ v' _ l' hv hl' =>
       obtain ⟨c2,rfl,k2⟩:=hl'.strings;cases k2.nils;have hlen:cs.length=n:=by
        rw [Xn] at hcs; unfold Xy at hcs;split at hcs
        ·grind
        ·cases hcs
       cases hv with
       | slice b o es _ t B O cap pl hbm hes hnc hr hpp =>
        by_cases hn0:n=0
        ·subst hn0;have hl0:l=[]:=by
          cases cs with
          | nil=>simp only [strsOf,Option.some.injEq] at hl; grind
          | cons x y=>grind
         subst hl0;exact X30 (enters hf hb hn _ _) (h0 _ cap sep w) hR (.string _)
        ·have hcap:cap ≠ 0:=by omega
         have hp:VRel φ (.pointer (some ⟨b,o,some (r / 2)⟩)) (.pointer (some ⟨B,O,none⟩)):=by
          refine .ptr b o (r / 2) B O pl hbm hr fun e=>?_;obtain ⟨q,_⟩:=hpp e;rcases q with q | ⟨q1,q2,q3,_⟩
          ·omega
          ·omega
         obtain ⟨ccs,v1,v2,v3⟩:=X2z hR hp hcs;obtain ⟨e1,e2⟩:=Xew hl v1;have hll:l.length=n:=by omega
         have hcell:∀ (j:Nat) x,l[j]?=some x->w.cell? ⟨B,O + j,none⟩=some (.string x):=by
          intro j x hj;have:=v3 j (.string x) (by grind);rw [Addr.add_none] at this;exact this
         have hB':B < w.heap.size:=by
          have h0:0 < l.length:=by omega
          have hc0:=hcell 0 l[0] (by simp);rcases Nat.lt_or_ge B w.heap.size with hh | hh
          ·exact hh
          ·unfold World.cell? at hc0
           grind
         have hcc:=h1 B O cap l sep w hcell hB' (by omega) (by omega) b2;rw [hll] at hcc;exact X3s (enters hf hb hn _ _) hcc hR (.string _)
     grind
    grind
   grind
  grind
 grind
variable {P:Program} {W0:World}
def Tr.All {α:Type} (p:α->Prop):Tr α->Prop
 | .nil=>True
 | .node v l r=>(match v with | some x=>p x | none=>True)/\l.All p/\r.All p
theorem Tr.All.get {α:Type} {p:α->Prop}:∀ {t:Tr α},t.All p->∀ {k:Nat} {x:α},t.get k=some x->p x
 | .nil,_,k,x,h=>by trivial
 | .node v l r,ha,k,x,h=>by
  simp only [Tr.get_node,X4s] at h;split at h
  ·have h1:=ha.1
   grind
  ·split at h
   ·exact ha.2.1.get h
   ·exact ha.2.2.get h
def ovTr (t:Tr Over):Over:=fun f args m=>Option.rec none (fun o=>o f args m) (t.get (Nat.succ f))
theorem Xji (t:Tr Over) (f:FuncId) (args:List Value) (m:Mem):ovTr t f args m=match t.get (f + 1) with | some o=>o f args m | none=>none:=by
 show (Option.rec _ (fun o=>o f args m) (t.get (f + 1)):Option Rs)=_;cases t.get _ <;> rfl
theorem Xpt {t:Tr Over} (h:t.All (X15 P W0)):X15 P W0 (ovTr t):=by
 intro φ m w f args cargs v m' hR hB hA hg;simp only [Xji] at hg;split at hg
 ·rename_i o ho;exact h.get ho φ m w f _ _ v m' hR hB hA hg
 grind
theorem Tr.All.e {α:Type} {p:α->Prop}:(Tr.nil:Tr α).All p:=trivial
theorem Tr.All.n {α:Type} {p:α->Prop} {l r:Tr α} (hl:l.All p) (hr:r.All p):(Tr.node none l r).All p:=⟨trivial,hl,hr⟩
theorem Tr.All.s {α:Type} {p:α->Prop} {x:α} {l r:Tr α} (hx:p x) (hl:l.All p) (hr:r.All p):(Tr.node (some x) l r).All p:=⟨hx,hl,hr⟩
def ixB:List UInt8->Nat->Nat->Option Nat
 | [],_,_=>none
 | b :: l,c,i=>match Nat.beq b.toNat c with | true=>some i | false=>Xec (i + 1) fun i=>ixB l c i
theorem Xtt (c:UInt8):∀ (l:List UInt8) (i:Nat),ixB l c.toNat i=if Lib.indexByte l c=-1 then none else some (i + (Lib.indexByte l c).toNat)
 | [],i=>by rfl
 | b :: l,i=>by
  have hge:=Lib.indexByte_ge l c;simp only [ixB,nbeq,X6n];by_cases h:b=c
  ·subst h;simp [Lib.indexByte]
  ·have hn:¬ b.toNat=c.toNat:=fun x=>h (UInt8.toNat_inj.mp x);have hb:(b == c)=false:=by simpa using h
   simp only [hn,decide_false,Xtt c l,Lib.indexByte,hb,Bool.false_eq_true,if_false];by_cases h1:Lib.indexByte l c=-1
   ·simp [h1]
   ·have hb1:(Lib.indexByte l c == -1)=false:=by grind
    have h2:¬ Lib.indexByte l c + 1=-1:=by omega
    simp only [h1,hb1,h2,if_false,Bool.false_eq_true,Option.some.injEq];omega
def Xam (s:List UInt8) (c:Int):Value:=Xec (c.toNat % 256) fun c=>match ixB s c 0 with | some i=>.int .i64 (.ofNat i) | none=>.int .i64 (.negSucc 0)
theorem Xak (s:List UInt8) (c:Int):Xam s c=.int .i64 (Lib.indexByte s c.toNat.toUInt8):=by
 have e:c.toNat % 256=c.toNat.toUInt8.toNat:=by simp
 have hge:=Lib.indexByte_ge s c.toNat.toUInt8;unfold Xam;rw [X6n,e,Xtt];by_cases h:Lib.indexByte s c.toNat.toUInt8=-1
 ·rw [if_pos h,h]; rfl
 ·rw [if_neg h]
  grind
def cntB:List UInt8->Nat->Nat->Nat
 | [],_,n=>n
 | b :: l,c,n=>match Nat.beq b.toNat c with | true=>Xec (n + 1) fun n=>cntB l c n | false=>cntB l c n
theorem Xpe (c:UInt8):∀ (l:List UInt8) (n:Nat),cntB l c.toNat n=n + Lib.countByte l c
 | [],n=>by rfl
 | b :: l,n=>by
  have ih:=fun n=>Xpe c l n;simp only [Lib.countByte] at ih ⊢;simp only [cntB,nbeq,X6n,ih,List.count_cons];by_cases h:b=c
  ·subst h; simp; omega
  ·have hn:¬ b.toNat=c.toNat:=fun x=>h (UInt8.toNat_inj.mp x);simp [hn,h]
def cntF (l:List UInt8) (c:UInt8):Nat:=Xec c.toNat fun c=>cntB l c 0
theorem Xr6:cntF=Lib.countByte:=by
 funext l c;unfold cntF;rw [X6n,Xpe,Nat.zero_add]
def preB:List UInt8->List UInt8->Bool
 | [],_=>true
 | _ :: _,[]=>false
 | a :: p,b :: l=>match Nat.beq a.toNat b.toNat with | true=>preB p l | false=>false
theorem Xoe:∀ (p l:List UInt8),preB p l=p.isPrefixOf l
 | [],_=>by rfl
 | _ :: _,[]=>by rfl
 | a :: p,b :: l=>by
  simp only [preB,nbeq,List.isPrefixOf,Xoe p l];by_cases h:a=b
  ·grind
  ·have hn:¬ a.toNat=b.toNat:=fun x=>h (UInt8.toNat_inj.mp x)
   grind
def ixS (sub:List UInt8):List UInt8->Nat->Option Nat
 | [],i=>(match sub with | []=>some i | _ :: _=>none)
 | b :: l,i=>match preB sub (b :: l) with | true=>some i | false=>Xec (i + 1) fun i=>ixS sub l i
theorem Xuz (sub:List UInt8):∀ (l:List UInt8) (i:Nat),ixS sub l i=if Lib.index l sub=-1 then none else some (i + (Lib.index l sub).toNat)
 | [],i=>by cases sub <;> simp [ixS,Lib.index]
 | b :: l,i=>by
  have hge:=Lib.index_ge l sub;simp only [ixS,Xoe,X6n,Xuz sub l,Lib.index];by_cases hp:sub.isPrefixOf (b :: l)=true
  ·simp only [hp,if_true];simp
  ·have hf:=Bool.eq_false_iff.mpr hp;simp only [hf,Bool.false_eq_true,if_false];by_cases h1:Lib.index l sub=-1
   ·simp [h1]
   ·have hb1:(Lib.index l sub == -1)=false:=by grind
    have h2:¬ Lib.index l sub + 1=-1:=by omega
    simp only [h1,hb1,h2,if_false,Bool.false_eq_true,Option.some.injEq];omega
def ixF (s sub:List UInt8):Int:=match ixS sub s 0 with | some i=>.ofNat i | none=>.negSucc 0
theorem Xuv:ixF=Lib.index:=by
 funext s sub;have hge:=Lib.index_ge s sub;unfold ixF;rw [Xuz];by_cases h:Lib.index s sub=-1
 ·rw [if_pos h,h]; rfl
 ·rw [if_neg h];simp only [Nat.zero_add];show ((Lib.index s sub).toNat:Int)=_;omega
variable {P:Program} {W0:World}
structure Fr (W:List Nat) (m m':Mem):Prop where
 next:m.next <= m'.next
 low:m'.low <= m.low
 low2:∀ x,x <= m.low->x <= m.next->(∀ w ∈ W,x <= w)->x <= m'.low
 get:∀ b,b < m.next->b ∉ W->m'.get b=m.get b
 lo:∀ b,b < m.next->m'.low <= b\/m'.get b=m.get b
theorem Fr.refl (W:List Nat) (m:Mem):Fr W m m:=⟨Nat.le_refl _,Nat.le_refl _,fun _ h _ _=>h,fun _ _ _=>rfl,fun _ _=>.inr rfl⟩
theorem Fr.trans (h:Fr W m m1) (k:Fr W m1 m2):Fr W m m2 where
 next:=Nat.le_trans h.next k.next
 low:=Nat.le_trans k.low h.low
 low2:=fun x h1 h2 h3=>k.low2 x (h.low2 x h1 h2 h3) (Nat.le_trans h2 h.next) h3
 get:=fun b h1 h2=>by rw [k.get b (Nat.lt_of_lt_of_le h1 h.next) h2,h.get b h1 h2]
 lo:=fun b h1=>by
  rcases k.lo b (Nat.lt_of_lt_of_le h1 h.next) with q | q
  ·omega
  ·rcases h.lo b h1 with q2 | q2
   ·exact .inl (Nat.le_trans k.low q2)
   ·grind
theorem Fr.push {W:List Nat} {m:Mem} (o:AObj):Fr W m (m.push o) where
 next:=Nat.le_succ _
 low:=Nat.le_refl _
 low2:=fun _ h _ _=>h
 get:=fun b h _=>by rw [Mem.get_push,if_neg (by omega)]
 lo:=fun b h=>.inr (by rw [Mem.get_push,if_neg (by omega)])
theorem Fr.put {W:List Nat} {m m1:Mem} (h:Fr W m m1) {b:Nat} (o:AObj) (hb:b ∈ W\/m.next <= b):Fr W m (m1.put b o) where
 next:=by rw [Mem.next_put]; exact h.next
 low:=by grind [Mem.low_put,Nat.le_trans,Nat.min_le_left,h.low]
 low2:=fun x h1 h2 h3=>by
  rw [Mem.low_put];have:=h.low2 x h1 h2 h3
  grind
 get:=fun c h1 h2=>by
  rw [Mem.get_put,if_neg ?_,h.get c h1 h2]
  grind
 lo:=fun c h1=>by
  rw [Mem.low_put,Mem.get_put];by_cases e:b=c
  ·omega
  ·rw [if_neg e];rcases h.lo c h1 with q | q
   ·omega
   grind
theorem Fr.meq (h:Fr W m m1) (e:MEq m1 m2):Fr W m m2 where
 next:=by rw [e.next]; exact h.next
 low:=by rw [e.low]; exact h.low
 low2:=fun x h1 h2 h3=>by rw [e.low]; exact h.low2 x h1 h2 h3
 get:=fun b h1 h2=>by rw [e.get]; exact h.get b h1 h2
 lo:=fun b h1=>by rw [e.low,e.get]; exact h.lo b h1
theorem Fr.call (v:Value) (h:Fr W (withLow m m.next) m1) :
  ∃ m2,gc m v m1=(v,m2)/\Fr W m m2/\m2.next <= m1.next/\(∀ b,b < m.next->m2.get b=m1.get b):=by
 rw [Xh2]; unfold gcO;cases hc:Nat.ble m.next m1.low && refs m.next 8 v
 ·refine ⟨withLow m1 _,rfl,⟨h.next,Nat.min_le_left _ _,fun x h1 h2 h3=>?_,h.get,fun b hb=>?_⟩,Nat.le_refl _,fun b hb=>rfl⟩
  ·have:=h.low2 x h2 h2 h3;show x <= min _ _;omega
  ·rcases h.lo b hb with q | q
   ·exact .inl (Nat.le_trans (Nat.min_le_right _ _) q)
   ·exact .inr q
 ·simp only [Bool.and_eq_true] at hc;have hlow:=Nat.le_of_ble_eq_true hc.1;refine ⟨m,rfl,.refl _ _,h.next,fun b hb=>?_⟩;rcases h.lo b hb with q | q
  ·omega
  ·exact q.symm
theorem X3 {α:Type} {k:Value->Mem->Option α}:bp (pur (some v) m) k=k v m:=Eq.trans rfl rfl
theorem Xo {α:Type} {k:Value->Mem->Option α}:bp (unt (some m')) k=k undef m':=Eq.trans rfl rfl
theorem X4 {α:Type} {k:Value->Mem->Option α}:bp (some (v,m)) k=k v m:=Eq.trans rfl rfl
theorem X7 {α:Type} {a b:Option α}:brb (.bool true) a b=a:=Eq.trans rfl rfl
theorem X6 {α:Type} {a b:Option α}:brb (.bool false) a b=b:=Eq.trans rfl rfl
theorem Xr {α:Type} {x:Option α}:ckB true x=x:=Eq.trans rfl rfl
abbrev pt (b o r:Nat):Value:=.pointer (some ⟨b,o,some r⟩)
theorem Xh (b o r:Nat):X21 (pt b o r)=some (pt b o r):=Eq.trans rfl rfl
theorem X9 (k b o r:Nat):Xx k (pt b o r)=some (pt b (o + k) r):=Eq.trans rfl rfl
theorem X12 (h:m.get b=some (.cells c ver fro ro ty)) (hv:c[o]?=some v):X8 false 1 (pt b o ver) m=some v:=by
 have hlt:=(List.getElem?_eq_some_iff.mp hv).1;rw [Xde];simp only [Xgz,h,X1q,decide_true,Xom];exact hv
theorem Xv {n:Nat} {cs:List Value} (h:m.get b=some (.cells c ver fro ro ty)) (hv:o + n <= c.length) (hc:(c.drop o).take n=cs):X8 true n (pt b o ver) m=some (.agg ⟨cs⟩):=by
 rw [Xde];simp [Xgz,h,Xn,Xy,hv,hc]
theorem Xp1 {r:Raw} (h:r.norm=.cells c ver fro false ty) (hf:fro <= off) (ho:off + vs.length <= c.length) (h1:vs.all one=true):∃ r',X9m r off (some ver) vs=some r':=by
 cases r with
 | plain o =>
  have h:o=.cells c ver fro _ ty:=h;subst h;refine ⟨.plain (.cells (c.take off ++ vs ++ c.drop (off + vs.length)) ver fro false ty),?_⟩;show (Bool.rec _ _ _:Option Raw)=_;rw [X1q,nble,X39,Xdn,Xd1];simp only [hf,ho,h1,decide_true,if_true]
 | arr t n ver' fro' ro ty' =>
  have h:AObj.cells _ _ _ ro ty'=.cells c ver fro _ ty:=h;cases h;refine ⟨.arr (Xdw vs off t) n ver fro false ty,?_⟩;rw [X33] at ho;show (Bool.rec _ (Bool.rec _ (Bool.rec _ (Bool.rec _ _ (Nat.ble (off + lenA vs 0) n)) _) _) _:Option Raw)=_;rw [X1q,nble,X39,Xcy,nble,Nat.add_zero];simp only [hf,ho,h1,decide_true]
 | sp s =>
  have h:s.norm=.cells c ver fro _ ty:=h;refine ⟨.plain (.cells (c.take off ++ vs ++ c.drop (off + vs.length)) ver fro false ty),?_⟩;show (Xl9 (some _) _)=_;rw [h];show (Bool.rec _ _ _:Option Raw)=_;rw [X1q,nble,X39,Xdn,Xd1];simp only [hf,ho,h1,decide_true,if_true]
theorem Xjv (h:m.get b=some (.cells c ver fro false ty)) (hf:fro <= off) (ho:off + vs.length <= c.length) (h1:vs.all one=true) :
  ∃ m',setCells m ⟨b,off,some ver⟩ vs=some m':=by
 rw [Mem.get_def] at h;cases hr:m.tr.get (b + 1) with
 | none=>grind
 | some r =>
  rw [hr] at h;simp at h;obtain ⟨r',k⟩:=Xp1 h hf ho h1;refine ⟨m.putR b r',?_⟩;show (Option.rec _ (fun r=>Option.rec none (fun r'=>some (m.putR b r')) (X9m r off (some ver) vs)) (m.tr.get (b + 1)):Option Mem)=_;simp_all
theorem X1u {n:Nat} (h:m.get b=some (.cells c ver fro false ty)) (hn:v.cells.size=n) (hf:fro <= o) (ho:o + n <= c.length) (h1:v.cells.toList.all one=true) (hc:c.take o ++ v.cells.toList ++ c.drop (o + n)=c'):∃ m',Xd n (pt b o ver) v m=some m'/\MEq (m.put b (.cells c' ver fro false ty)) m':=by
 have hl:v.cells.toList.length=n:=by omega
 have hs:X53 m ⟨b,o,some ver⟩ v.cells.toList=some (m.put b (.cells c' ver fro false ty)):=by
  simp only [X53,h];have:o + v.cells.toList.length <= c.length:=by omega
  rw [hl];simp [hf,ho,h1,hc]
 cases hx:setCells m ⟨b,o,some ver⟩ v.cells.toList with
 | none =>
  obtain ⟨m',k⟩:=Xjv h hf (by omega) h1
  grind
 | some m' =>
  obtain ⟨m2,k1,k2⟩:=Xbj hx;rw [hs] at k1;cases k1;refine ⟨m',?_,k2⟩;rw [X9r];simp only [Xa4,hn,if_true,hx]
theorem X2c (W:List Nat) (m:Mem) (ty:Option Nat) (z:List Value) {n:Nat} (hz:z.length=n) (hv:v.cells.size=n) (h1:v.cells.toList.all one=true) :
  ∃ m2,Xd n (pt m.next 0 0) v (m.push (.cells z 0 0 false ty))=some m2/\Fr W m m2/\m2.next=m.next + 1/\m2.get m.next=some (.cells v.cells.toList 0 0 false ty):=by
 have hp:(m.push (.cells z 0 0 false ty)).get m.next=some (.cells z 0 0 false ty):=by rw [Mem.get_push,if_pos rfl]
 obtain ⟨m2,k1,k2⟩:=X1u (o:=0) (c':=v.cells.toList) hp hv (Nat.zero_le _) (by omega) h1 (by
  grind)
 refine ⟨m2,k1,((Fr.push _).put _ (.inr (Nat.le_refl _))).meq k2,by rw [k2.next,Mem.next_put]; rfl,?_⟩;rw [k2.get,Mem.get_put,if_pos rfl]
theorem Xgw {r:Raw} {k ty2:Nat} (h:r.norm=.cells c ver fro false ty) (hf:fro <= k) (hk:k <= c.length):∃ r',Xdi r ver k new true ty2=some (ver + 1,r'):=by
 have hb:=Nat.beq_refl ver;have hfk:=Nat.ble_eq.mpr hf;cases r with
 | plain o =>
  have h:o=.cells c ver fro _ ty:=h;subst h;simp only [Xdi,hb,hfk,Bool.not_false,Bool.and_self,Xbz,Xc8,if_pos hk];cases Nat.blt 48 k <;> exact ⟨_,rfl⟩
 | arr t n ver' fro' ro ty' =>
  have h:AObj.cells _ _ _ ro ty'=.cells c ver fro _ ty:=h;cases h;rw [X33] at hk;have hkn:=Nat.ble_eq.mpr hk;simp only [Xdi,hb,hfk,hkn,Bool.not_false,Bool.and_self];simp
 | sp s =>
  cases s with
  | nds N n ver' ty' =>
   have h:AObj.cells _ _ 0 _ ty'=.cells c ver fro _ ty:=h;cases h;have h0:Nat.ble 0 k=true:=Nat.ble_eq.mpr (Nat.zero_le _);simp only [Xdi,hb,h0,Bool.and_self,Xbz,Xc8,if_pos hk];simp
  | tab T=>cases h
  | set S=>cases h
theorem Xft (h:m.get b=some (.cells c 0 fro ro ty)) (hc:c.length=size):X1n size 1 (.slice (some ⟨b,0,some size⟩) 1 1) m=some c:=by
 simp [X1n,Xn,Xy,h,hc]
 grind
theorem Xlg {e:Nat} {s:Value} {a:Option Addr} {n r:Nat} (h:X13 e size bytes s (.slice a n r) m=some (v,m')):apS e size bytes s (.slice a n r) m=some (v,m'):=h
theorem Xum {e b2 len:Nat} (h:m.get b=some (.cells c ver fro false ty)) (h2:m.get b2=some (.cells new 0 fro2 ro2 ty2)) (hn:new.length=size) (h1:new.all one=true) (hs:1 <= size) (hf:fro <= len * size) (hl:len * size <= c.length) (hb:fits (len + 1) bytes=true) :
  ∃ m',apS e size bytes (.slice (some ⟨b,0,some size⟩) len (2 * ver)) (.slice (some ⟨b2,0,some size⟩) 1 1) m=some (.slice (some ⟨b,0,some size⟩) (len + 1) (2 * (ver + 1)),m') /\
   MEq (m.put b (.cells (c.take (len * size) ++ new) (ver + 1) fro false (tyOf ty (2 * e)))) m':=by
 have hO:X1o e size bytes (.slice (some ⟨b,0,some size⟩) len (2 * ver)) (.slice (some ⟨b2,0,some size⟩) 1 1) m =
   some (.slice (some ⟨b,0,some size⟩) (len + 1) (2 * (ver + 1)),m.put b (.cells (c.take (len * size) ++ new) (ver + 1) fro false (tyOf ty (2 * e)))):=by
  unfold X1o;have e1:2 * ver / 2=ver:=by omega
  have e2:¬ 2 * ver % 2=1:=by omega
  have e3:Nat.ble 1 size=true:=Nat.ble_eq.mpr hs;have e4:Nat.ble fro (len * size)=true:=Nat.ble_eq.mpr hf;have e5:Nat.ble (len * size) c.length=true:=Nat.ble_eq.mpr hl;simp only [X2p,Xft h2 hn,h1,e3,Bool.and_self,Bool.not_true,Bool.false_eq_true,if_false,h,Nat.zero_add,e1,Nat.beq_refl,e5,hb,beq_self_eq_true,e2,e4,Bool.not_false,if_true,Nat.one_ne_zero]
 have hx:∃ p,X13 e size bytes (.slice (some ⟨b,0,some size⟩) len (2 * ver)) (.slice (some ⟨b2,0,some size⟩) 1 1) m=some p:=by
  unfold X13;have e1:Nat.div (2 * ver) 2=ver:=by show 2 * ver / 2=ver; omega
  have e2:(Nat.beq 1 0 || Nat.beq (2 * ver % 2) 1)=false:=by
   have:2 * ver % 2=0:=by omega
   rw [this]; rfl
  have e3:Nat.ble 1 size=true:=Nat.ble_eq.mpr hs;rw [Mem.get_def] at h;cases hr:m.tr.get (b + 1) with
  | none=>rw [hr] at h; cases h
  | some r =>
   rw [hr] at h;simp at h;obtain ⟨r',k⟩:=Xgw (new:=new) (ty2:=2 * e) h hf hl;simp only [X2p,e2,Xft h2 hn,X39,h1,e3,Bool.and_self,hr,e1,X1q,decide_true,hb,Nat.zero_add,k];simp
 obtain ⟨⟨v,m'⟩,hx⟩:=hx;obtain ⟨m2,k1,k2⟩:=X8v hx;rw [hO] at k1;cases k1;exact ⟨m',Xlg hx,k2⟩
theorem Xa6 (a:Option Addr) (n r:Nat) (m:Mem):lenK 1 (.slice a n r) m=some (.int .i64 (Int.ofNat n)):=Eq.trans rfl rfl
theorem Xbi (b:Bool):un .not (.bool b)=some (.bool (!b)):=Eq.trans rfl rfl
structure Fb (B:Nat) (m m':Mem):Prop where
 next:m.next <= m'.next
 low:m'.low <= m.low
 low2:∀ x,x <= m.low->x <= B->x <= m'.low
 get:∀ b,b < B->m'.get b=m.get b
 lo:∀ b,b < m.next->m'.low <= b\/m'.get b=m.get b
theorem Fb.refl (B:Nat) (m:Mem):Fb B m m:=⟨Nat.le_refl _,Nat.le_refl _,fun _ h _=>h,fun _ _=>rfl,fun _ _=>.inr rfl⟩
theorem Fb.trans (h:Fb B m m1) (k:Fb B m1 m2):Fb B m m2 where
 next:=Nat.le_trans h.next k.next
 low:=Nat.le_trans k.low h.low
 low2:=fun x h1 h2=>k.low2 x (h.low2 x h1 h2) h2
 get:=fun b h1=>by rw [k.get b h1,h.get b h1]
 lo:=fun b h1=>by
  rcases k.lo b (Nat.lt_of_lt_of_le h1 h.next) with q | q
  ·omega
  ·rcases h.lo b h1 with q2 | q2
   ·exact .inl (Nat.le_trans k.low q2)
   grind
theorem Fb.push {B:Nat} {m:Mem} (o:AObj) (hB:B <= m.next):Fb B m (m.push o) where
 next:=Nat.le_succ _
 low:=Nat.le_refl _
 low2:=fun _ h _=>h
 get:=fun b h=>by rw [Mem.get_push,if_neg (by omega)]
 lo:=fun b h=>.inr (by rw [Mem.get_push,if_neg (by omega)])
theorem Fb.put {B:Nat} {m m1:Mem} (h:Fb B m m1) {b:Nat} (o:AObj) (hb:B <= b):Fb B m (m1.put b o) where
 next:=by rw [Mem.next_put]; exact h.next
 low:=by grind [Mem.low_put,Nat.le_trans,Nat.min_le_left,h.low]
 low2:=fun x h1 h2=>by
  rw [Mem.low_put];have:=h.low2 x h1 h2;omega
 get:=fun c h1=>by rw [Mem.get_put,if_neg (by omega),h.get c h1]
 lo:=fun c h1=>by
  rw [Mem.low_put,Mem.get_put];by_cases e:b=c
  ·omega
  ·rw [if_neg e];rcases h.lo c h1 with q | q
   ·omega
   grind
theorem Fb.meq (h:Fb B m m1) (e:MEq m1 m2):Fb B m m2 where
 next:=by rw [e.next]; exact h.next
 low:=by rw [e.low]; exact h.low
 low2:=fun x h1 h2=>by rw [e.low]; exact h.low2 x h1 h2
 get:=fun b h1=>by rw [e.get]; exact h.get b h1
 lo:=fun b h1=>by rw [e.low,e.get]; exact h.lo b h1
theorem Xqv {e b2:Nat} (h2:m.get b2=some (.cells new 0 fro2 ro2 ty2)) (hn:new.length=size) (h1:new.all one=true) (hs:1 <= size) (hb:fits 1 bytes=true) :
  apS e size bytes (.slice none 0 0) (.slice (some ⟨b2,0,some size⟩) 1 1) m=some (.slice (some ⟨m.next,0,some size⟩) 1 0,m.push (.cells new 0 0 false (some (2 * e)))):=by
 have e3:Nat.ble 1 size=true:=Nat.ble_eq.mpr hs;refine Xlg ?_;unfold X13;simp only [X2p];unfold X1o;simp only [X2p,Xft h2 hn,h1,e3,Bool.and_self,Bool.not_true,Bool.false_eq_true,if_false,hb,if_true,Nat.one_ne_zero]
theorem Fr.toFb (h:Fr [] m m1) (hB:B <= m.next):Fb B m m1 where
 next:=h.next
 low:=h.low
 low2:=fun x h1 h2=>h.low2 x h1 (Nat.le_trans h2 hB) (by simp)
 get:=fun b h1=>h.get b (Nat.lt_of_lt_of_le h1 hB) (by simp)
 lo:=h.lo
theorem Fb.toFr (h:Fb m.next m m1):Fr W m m1 where
 next:=h.next
 low:=h.low
 low2:=fun x h1 h2 _=>h.low2 x h1 h2
 get:=fun b h1 _=>h.get b h1
 lo:=h.lo
variable {P:Program} {W0:World}
variable {P:Program} {W0:World}
variable {P:Program} {W0:World}
end Go.Ab
end
