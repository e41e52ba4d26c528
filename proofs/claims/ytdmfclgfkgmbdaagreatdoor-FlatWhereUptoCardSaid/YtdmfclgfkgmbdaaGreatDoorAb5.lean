/-
  An evaluator over abstract memories, and that what it answers the machine answers. No conditions.
-/
import Derived.Test.YtdmfclgfkgmbdaaGreatDoorAb4
import Derived.KernelRfl
import Derived.Lib.AtoiAll
import Derived.Lib.ParseIntB
import Derived.Lib.ItoaNum
import Derived.Lib.LaidTab
import Derived.Lib.Join
import Derived.Lib.Fields
import Derived.Laws.Externs
import Derived.Lib.Index
import Derived.Lib.Bytealg
import Derived.IntWalk
set_option linter.unusedSimpArgs false
set_option linter.unusedVariables false

namespace Go.Ab
noncomputable section
open Go
structure Gt where
 tab:Tab
 rds:Nat
section
variable {P:Program} {g:Tab} {R:Nat} {dr:Xcn} {n:Nat}
theorem tr {α:Type} {A B C:Env→Mem→α} (h:∀ ρ m,A ρ m=B ρ m) (k:∀ ρ m,B ρ m=C ρ m:=by intro _ _; kernel_rfl):∀ ρ m,A ρ m=C ρ m:=fun ρ m=>(h ρ m).trans (k ρ m)
theorem seqQ {x y:Code} {K:Ks} {f:Env→Mem→Option Rs} (h:∀ ρ m,ev P g R dr n y ρ m K=f ρ m:=by intro _ _; kernel_rfl):∀ ρ m,ev P g R dr n (.seq x y) ρ m K=ev P g R dr n x ρ m ⟨f,K.ex,K.rt⟩:=by
 intro ρ m
 have:(fun ρ m=>ev P g R dr n y ρ m K)=f:=by funext ρ m; exact h ρ m
 show ev P g R dr n x ρ m ⟨fun ρ m=>ev P g R dr n y ρ m K,K.ex,K.rt⟩=_
 rw [this]
theorem seqD {x y:Code} {K:Ks}:∀ ρ m,ev P g R dr n (.seq x y) ρ m K=ev P g R dr n x ρ m ⟨fun ρ m=>ev P g R dr n y ρ m K,K.ex,K.rt⟩:=fun _ _=>rfl
theorem refQ {x:Code} {K:Ks}:∀ ρ m,ev P g R dr n x ρ m K=ev P g R dr n x ρ m K:=fun _ _=>rfl
theorem X3l {c:Operand} {x y:Code} {K:Ks} {f h:Env→Mem→Option Rs} (hf:∀ ρ m,ev P g R dr n x ρ m K=f ρ m:=by intro _ _; kernel_rfl) (hh:∀ ρ m,ev P g R dr n y ρ m K=h ρ m:=by intro _ _; kernel_rfl) :
  ∀ ρ m,ev P g R dr n (.cond c x y) ρ m K=brb (opd ρ c) (f ρ m) (h ρ m):=by
 intro ρ m
 rw [← hf,← hh]
 rfl
theorem Xy {id:Nat} {c:Code} {K:Ks} {f:Env→Mem→Option Rs} (h:∀ ρ m,ev P g R dr n c ρ m ⟨K.nx,fun i ρ m=>bif Nat.beq i id then K.nx ρ m else K.ex i ρ m,K.rt⟩=f ρ m:=by intro _ _; kernel_rfl) :
  ∀ ρ m,ev P g R dr n (.block id c) ρ m K=f ρ m:=h
theorem Xq2 {c:Code} {K:Ks} {f:Env→Mem→Option Rs} (h:∀ ρ m,ev P g R dr n c ρ m K=f ρ m):∀ ρ m,ev P g R dr n (.scope c) ρ m K=f ρ m:=h
theorem X36 {c:Code} {K:Ks} (F:Nat→Env→Mem→Option Rs) (h0:∀ ρ m,F 0 ρ m=none) (hs:∀ i,∀ ρ m,ev P g R dr n c ρ m ⟨F i,K.ex,K.rt⟩=F (i + 1) ρ m) :
  ∀ ρ m,ev P g R dr n (.loop c) ρ m K=F R ρ m:=by
 have key:∀ i ρ m,Xee (fun ρ m k=>ev P g R dr n c ρ m k) i ρ m K=F i ρ m:=by
  intro i
  induction i with
  | zero=>intro ρ m; rw [h0]; rfl
  | succ i ih =>
   intro ρ m
   rw [← hs]
   have:(fun ρ m=>Xee (fun ρ m k=>ev P g R dr n c ρ m k) i ρ m K)=F i:=by funext ρ m; exact ih ρ m
   show ev P g R dr n c ρ m ⟨fun ρ m=>Xee (fun ρ m k=>ev P g R dr n c ρ m k) i ρ m K,K.ex,K.rt⟩=_
   rw [this]
 exact key R
end
theorem Xg {P:Program} {g:Tab} {R:Nat} {dr:Nat→Xcn} {fn:Func} {args:List Value} {c:Code} (hb:fn.body=some c) (hl:Nat.ble args.length fn.ntmps=true) {r:Env→Mem→Option Rs}
  (h:∀ ρ m,ev P g R (dr fn.ntmps) fn.ntmps c ρ m ⟨Xdu P fn,fun _ _ _=>none,Xdu P fn⟩=r ρ m) (m:Mem) (hs:spD c=false:=by kernel_rfl):evFn P g R dr fn args m=r (env0 args) m:=by
 unfold evFn
 rw [hb]
 simp only [hl,if_true,hs]
 exact h _ _
end
end Go.Ab

namespace Go.Ab
noncomputable section
open Go
open Go.RowKit (Below)
structure Entry (P:Program) where
 f:FuncId
 fn:Func
 hf:P.funcs[f]?=some fn
 hn:(fn.name == "runtime.NumGoroutine")=false
 h:Gt→List Value→Mem→Option Rs
 ok:∀ G args m r,h G args m=some r→evFn P G.tab G.rds (drOf P G.tab) fn args m=some r
abbrev Over:=FuncId→List Value→Mem→Option Rs
def shT {P:Program} (fns:Tr (Entry P)) (ov:Over) (R:Nat):Nat→Tab:=
 Nat.rec (motive:=fun _=>Tab) (fun f args m=>ov f args m) (fun _ ih f args m=>Option.rec (Option.rec none (fun e=>Bool.rec none (Option.rec none (fun p=>Prod.rec (fun v m1=>some (gc m v m1)) p) (e.h ⟨ih,R⟩ args (Xiy m))) (Nat.beq e.f f)) (fns.get (Nat.succ f))) (fun r=>some r) (ov f args m))
theorem Xt5 {P:Program} (fns:Tr (Entry P)) (ov:Over) (R:Nat):shT fns ov R 0=fun f args m=>ov f args m:=rfl
theorem Xhq {P:Program} (fns:Tr (Entry P)) (ov:Over) (R n:Nat) (f:FuncId) (args:List Value) (m:Mem):shT fns ov R (n + 1) f args m=match ov f args m with
  | some r=>some r
  | none=>match fns.get (f + 1) with
   | none=>none
   | some e=>match Nat.beq e.f f with
    | false=>none
    | true=>match e.h ⟨shT fns ov R n,R⟩ args (withLow m m.next) with
     | some (v,m1)=>some (gc m v m1)
     | none=>none:=by
 rw [← Xoj]
 show (Option.rec (Option.rec none (fun e=>Bool.rec none (Option.rec none (fun p=>Prod.rec (fun v m1=>some (gc m v m1)) p) (e.h ⟨shT fns ov R n,R⟩ args (Xiy m))) (Nat.beq e.f f)) (fns.get (Nat.succ f))) (fun r=>some r) (ov f args m):Option Rs)=_
 cases ov f args m with
 | some r=>rfl
 | none =>
  show (Option.rec none _ (fns.get (f + 1)):Option Rs)=_
  cases fns.get (f + 1) with
  | none=>rfl
  | some e =>
   show (Bool.rec none (Option.rec none (fun p=>Prod.rec (fun v m1=>some (gc m v m1)) p) (e.h ⟨shT fns ov R n,R⟩ args (Xiy m))) (Nat.beq e.f f):Option Rs)=_
   simp only
   cases Nat.beq e.f f with
   | false=>rfl
   | true =>
    simp only
    cases e.h ⟨shT fns ov R n,R⟩ args (Xiy m) with
    | none=>rfl
    | some p=>rfl
def X14 (P:Program) (W0:World) (ov:Over):Prop:=X1d P W0 (fun f args m=>ov f args m)
theorem Xqe {P:Program} (hm:P.follows .mixedOrders=true) {W0:World} {fns:Tr (Entry P)} {ov:Over} {R:Nat} (ho:X14 P W0 ov):∀ n,X1d P W0 (shT fns ov R n)
 | 0=>ho
 | n + 1=>by
  intro φ m w f args cargs v m' hR hB ha hg
  rw [Xhq] at hg
  split at hg
  ·rename_i r hr
   cases hg
   exact ho φ m w f args cargs v m' hR hB ha hr
  ·split at hg
   ·cases hg
   ·rename_i e he
    split at hg
    ·cases hg
    ·rename_i hb
     have hef:=Nat.eq_of_beq_eq_true hb
     have ih:=Xqe hm (fns:=fns) (R:=R) ho n
     refine step_ok hm (R:=R) ih φ m w f args cargs v m' hR hB ha ?_
     split at hg
     ·rename_i u m1 hu
      have:=e.ok _ _ _ _ hu
      unfold Xh9
      rw [← hef,e.hf]
      simp only [e.hn,Bool.false_eq_true,if_false]
      rw [this]
      exact hg
     ·cases hg
def arg0 (s:Gt→Mem→Option Rs):Gt→List Value→Mem→Option Rs:=fun G args m=>match args with | []=>s G  m | _=>none
theorem Xxz {P:Program} {fn:Func} {s:Gt→Mem→Option Rs} (e:∀ (G:Gt) (m:Mem),evFn P G.tab G.rds (drOf P G.tab) fn [] m=s G  m):∀ G args m r,arg0 s G args m=some r→evFn P G.tab G.rds (drOf P G.tab) fn args m=some r:=by
 intro G args m r h
 unfold arg0 at h
 split at h
 ·rw [e]; exact h
 ·cases h
def arg1 (s:Gt→Value→Mem→Option Rs):Gt→List Value→Mem→Option Rs:=fun G args m=>match args with | [a0]=>s G a0 m | _=>none
theorem X1y {P:Program} {fn:Func} {s:Gt→Value→Mem→Option Rs} (e:∀ (G:Gt) (a0:Value) (m:Mem),evFn P G.tab G.rds (drOf P G.tab) fn [a0] m=s G a0 m):∀ G args m r,arg1 s G args m=some r→evFn P G.tab G.rds (drOf P G.tab) fn args m=some r:=by
 intro G args m r h
 unfold arg1 at h
 split at h
 ·rw [e]; exact h
 ·cases h
def arg2 (s:Gt→Value→Value→Mem→Option Rs):Gt→List Value→Mem→Option Rs:=fun G args m=>match args with | [a0,a1]=>s G a0 a1 m | _=>none
theorem X13 {P:Program} {fn:Func} {s:Gt→Value→Value→Mem→Option Rs} (e:∀ (G:Gt) (a0:Value) (a1:Value) (m:Mem),evFn P G.tab G.rds (drOf P G.tab) fn [a0,a1] m=s G a0 a1 m):∀ G args m r,arg2 s G args m=some r→evFn P G.tab G.rds (drOf P G.tab) fn args m=some r:=by
 intro G args m r h
 unfold arg2 at h
 split at h
 ·rw [e]; exact h
 ·cases h
def arg3 (s:Gt→Value→Value→Value→Mem→Option Rs):Gt→List Value→Mem→Option Rs:=fun G args m=>match args with | [a0,a1,a2]=>s G a0 a1 a2 m | _=>none
theorem Xft {P:Program} {fn:Func} {s:Gt→Value→Value→Value→Mem→Option Rs} (e:∀ (G:Gt) (a0:Value) (a1:Value) (a2:Value) (m:Mem),evFn P G.tab G.rds (drOf P G.tab) fn [a0,a1,a2] m=s G a0 a1 a2 m):∀ G args m r,arg3 s G args m=some r→evFn P G.tab G.rds (drOf P G.tab) fn args m=some r:=by
 intro G args m r h
 unfold arg3 at h
 split at h
 ·rw [e]; exact h
 ·cases h
def arg4 (s:Gt→Value→Value→Value→Value→Mem→Option Rs):Gt→List Value→Mem→Option Rs:=fun G args m=>match args with | [a0,a1,a2,a3]=>s G a0 a1 a2 a3 m | _=>none
theorem Xqb {P:Program} {fn:Func} {s:Gt→Value→Value→Value→Value→Mem→Option Rs} (e:∀ (G:Gt) (a0:Value) (a1:Value) (a2:Value) (a3:Value) (m:Mem),evFn P G.tab G.rds (drOf P G.tab) fn [a0,a1,a2,a3] m=s G a0 a1 a2 a3 m):∀ G args m r,arg4 s G args m=some r→evFn P G.tab G.rds (drOf P G.tab) fn args m=some r:=by
 intro G args m r h
 unfold arg4 at h
 split at h
 ·rw [e]; exact h
 ·cases h
end
end Go.Ab

namespace Go.Ab
noncomputable section
open Go
open Go.RowKit (Below)
variable {P:Program} {W0:World}
theorem enters {f:FuncId} {fn:Func} {c:Code} (hf:P.funcs[f]?=some fn) (hb:fn.body=some c) (hn:(fn.name == "runtime.NumGoroutine")=false) (args:Array Value) (w:World):(callFunc f args).run P w=.ok (.enter f args) w:=by
 have hn':¬ fn.name="runtime.NumGoroutine":=by simpa using hn
 simp [callFunc,hf,hn',hb]
theorem Xox {B0:Nat} {φ:Pmap} {m:Mem} {w w':World} (hR:Rel B0 φ m w) (hb:Below w.heap.size w w'):Rel B0 φ m w'∧Stp φ m w φ m w':=by
 have hblk:∀ b pl,φ b=some pl→pl.blk < w.heap.size:=fun b pl h=>by
  obtain ⟨_,o,_,h3⟩:=hR.blocks b pl h
  exact h3.there
 refine ⟨⟨fun b pl h=>?_,hR.inj,hR.base,Nat.le_trans hR.size hb.size,hR.fresh⟩,⟨.refl φ,Nat.le_refl _,Nat.le_refl _,fun _ _ _=>⟨rfl,rfl⟩,hb.os,hb.tape,hb.output,hb.size,fun B hB _=>hb.block B hB,fun b pl h hr=>.inl ⟨b,pl,h,hr,rfl⟩,fun _ _ h=>⟨h,rfl⟩⟩⟩
 obtain ⟨h1,o,h2,h3⟩:=hR.blocks b pl h
 exact ⟨h1,o,h2,h3.of_heap (hb.block _ (hblk b pl h))⟩
theorem X3b {f:FuncId} {cargs:List Value} {φ:Pmap} {m:Mem} {w:World} {v cv:Value} (he:(callFunc f cargs.toArray).run P w=.ok (.enter f cargs.toArray) w)
  (hc:Calls P f cargs.toArray w fun e w'=>e=.returned cv∧Below w.heap.size w w') (hR:Rel W0.heap.size φ m w) (hv:VRel φ v cv):Xil P f cargs w (After W0.heap.size φ m w v m):=by
 refine .inl ⟨he,hc.mono fun e w' h=>⟨cv,h.1,φ,?_⟩⟩
 obtain ⟨h1,h2⟩:=Xox hR h.2
 exact ⟨h1,hv,h2⟩
theorem X2q {f:FuncId} {cargs:List Value} {φ:Pmap} {m:Mem} {w:World} {v cv:Value} (he:(callFunc f cargs.toArray).run P w=.ok (.enter f cargs.toArray) w)
  (hc:Calls P f cargs.toArray w fun e w'=>e=.returned cv∧w'=w) (hR:Rel W0.heap.size φ m w) (hv:VRel φ v cv):Xil P f cargs w (After W0.heap.size φ m w v m):=
 X3b he (hc.mono fun e w' h=>⟨h.1,by rw [h.2]; exact Below.refl _ _⟩) hR hv
theorem cell_kept {w:World} (hB:Below W0.heap.size W0 w) {a:Addr} {v:Value} (h:W0.cell? a=some v):w.cell? a=some v:=by
 have hlt:a.block < W0.heap.size:=by
  rcases Nat.lt_or_ge a.block W0.heap.size with hh | hh
  ·exact hh
  ·unfold World.cell? at h
   rw [Array.getElem?_eq_none hh] at h
   cases h
 rw [← h]
 exact hB.cell hlt
def orElse (a b:Over):Over:=fun f args m=>match a f args m with | some r=>some r | none=>b f args m
theorem Xqg {a b:Over} (ha:X14 P W0 a) (hb:X14 P W0 b):X14 P W0 (orElse a b):=by
 intro φ m w f args cargs v m' hR hB hA hg
 simp only [orElse] at hg
 split at hg
 ·rename_i r hr
  cases hg
  exact ha φ m w f args cargs v m' hR hB hA hr
 ·exact hb φ m w f args cargs v m' hR hB hA hg
theorem VRels.strings {φ:Pmap} {s:ByteArray} {l c:List Value} (h:VRels φ (.string s :: l) c):∃ c',c=.string s :: c'∧VRels φ l c':=by
 cases h with
 | cons _ v' _ l' hv hl=>cases hv; exact ⟨l',rfl,hl⟩
theorem VRels.ints1 {φ:Pmap} {k:IntKind} {n:Int} {l c:List Value} (h:VRels φ (.int k n :: l) c):∃ c',c=.int k n :: c'∧VRels φ l c':=by
 cases h with
 | cons _ v' _ l' hv hl=>cases hv; exact ⟨l',rfl,hl⟩
theorem VRels.nils {φ:Pmap} {c:List Value} (h:VRels φ [] c):c=[]:=by cases h; rfl
def Xgg (f0:FuncId) (idx:List UInt8→List UInt8→Int):Over:=fun f args m=>match args with
 | [.string s,.string sub]=>if f=f0∧s.size < 4294967281 then some (.int .i64 (idx s.data.toList sub.data.toList),m) else none
 | _=>none
theorem Xnv {f0:FuncId} {idx:List UInt8→List UInt8→Int} {fn:Func} {c:Code} (hf:P.funcs[f0]?=some fn) (hb:fn.body=some c) (hn:(fn.name == "runtime.NumGoroutine")=false) {mx:Int} {ga:Addr} (hmx:W0.cell? ga=some (.int .i64 mx))
  (hc:∀ (s sub:ByteArray) (w:World),s.size < 4294967281→w.cell? ga=some (.int .i64 mx)→Calls P f0 #[.string s,.string sub] w fun e w'=>e=.returned (.int .i64 (idx s.data.toList sub.data.toList))∧w'=w):X14 P W0 (Xgg f0 idx):=by
 intro φ m w f args cargs v m' hR hB hA hg
 simp only [Xgg] at hg
 split at hg
 ·rename_i s sub
  split at hg
  ·rename_i h
   obtain ⟨rfl,hs⟩:=h
   simp only [Option.some.injEq,Prod.mk.injEq] at hg
   obtain ⟨rfl,rfl⟩:=hg
   obtain ⟨c1,rfl,h1⟩:=hA.strings
   obtain ⟨c2,rfl,h2⟩:=h1.strings
   cases h2.nils
   exact X2q (enters hf hb hn _ _) (hc s sub w hs (cell_kept hB hmx)) hR (.int _ _)
  ·cases hg
 ·cases hg
def Xme (f0:FuncId) (k:IntKind) (idx:List UInt8→Int→Option Value):Over:=fun f args m=>match args with
 | [.string s,.int k' c]=>if f=f0∧k'=k then match idx s.data.toList c with | some v=>some (v,m) | none=>none else none
 | _=>none
theorem Xpi {f0:FuncId} {k:IntKind} {idx:List UInt8→Int→Option Value} {fn:Func} {c:Code} (hf:P.funcs[f0]?=some fn) (hb:fn.body=some c) (hn:(fn.name == "runtime.NumGoroutine")=false)
  (hc:∀ (s:ByteArray) (n:Int) (v:Value) (w:World),idx s.data.toList n=some v→X49 v=true∧Calls P f0 #[.string s,.int k n] w fun e w'=>e=.returned v∧w'=w):X14 P W0 (Xme f0 k idx):=by
 intro φ m w f args cargs v m' hR hB hA hg
 simp only [Xme] at hg
 split at hg
 ·rename_i s k' n
  split at hg
  ·rename_i h
   obtain ⟨rfl,rfl⟩:=h
   split at hg
   ·rename_i u hu
    simp only [Option.some.injEq,Prod.mk.injEq] at hg
    obtain ⟨rfl,rfl⟩:=hg
    obtain ⟨c1,rfl,h1⟩:=hA.strings
    obtain ⟨c2,rfl,h2⟩:=h1.ints1
    cases h2.nils
    obtain ⟨q1,q2⟩:=hc s n u w hu
    exact X2q (enters hf hb hn _ _) q2 hR (X1b q1)
   ·cases hg
  ·cases hg
 ·cases hg
def Xgv (f0:FuncId) (cnt:List UInt8→UInt8→Nat):Over:=fun f args m=>match args with
 | [.string s,.string sub]=>if f=f0 then match sub.data.toList with | [b]=>some (.int .i64 (cnt s.data.toList b),m) | _=>none else none
 | _=>none
theorem Xnq {f0:FuncId} {cnt:List UInt8→UInt8→Nat} {fn:Func} {c:Code} (hf:P.funcs[f0]?=some fn) (hb:fn.body=some c) (hn:(fn.name == "runtime.NumGoroutine")=false)
  (hc:∀ (s:ByteArray) (b:UInt8) (w:World),Calls P f0 #[.string s,.string ⟨#[b]⟩] w fun e w'=>e=.returned (.int .i64 (cnt s.data.toList b))∧w'=w):X14 P W0 (Xgv f0 cnt):=by
 intro φ m w f args cargs v m' hR hB hA hg
 simp only [Xgv] at hg
 split at hg
 ·rename_i s sub
  split at hg
  ·rename_i h
   subst h
   split at hg
   ·rename_i b hb1
    simp only [Option.some.injEq,Prod.mk.injEq] at hg
    obtain ⟨rfl,rfl⟩:=hg
    obtain ⟨c1,rfl,h1⟩:=hA.strings
    obtain ⟨c2,rfl,h2⟩:=h1.strings
    cases h2.nils
    have e:sub=⟨#[b]⟩:=by
     apply ByteArray.ext
     apply Array.ext'
     exact hb1
    rw [e]
    exact X2q (enters hf hb hn _ _) (hc s b w) hR (.int _ _)
   ·cases hg
  ·cases hg
 ·cases hg
end
end Go.Ab

namespace Go.Ab
noncomputable section
open Go
open Go.RowKit (Below)
def mem0:Mem:=⟨0,0,.nil⟩
theorem Xt9 (W:World):Rel W.heap.size (fun _=>none) mem0 W:=⟨(fun b pl h=>nomatch h),(fun _ _ _ _ h=>nomatch h),(fun b pl h=>nomatch h),Nat.le_refl _,(fun b _=>rfl)⟩
theorem Xoo {φ:Pmap} {b:Bool} {cv:Value} (h:VRel φ (.bool b) cv):cv=.bool b:=by cases h; rfl
end
end Go.Ab

namespace Go.Ab
noncomputable section
open Go
open Go.RowKit (Below)
def X3s (p:Nat→Bool):Nat→Value→Bool
 | 0,_=>false
 | d + 1,v=>match v with
  | .bool _ | .int _ _ | .string _ | .float _ _ | .nilFunc | .nilIface | .pointer none | .slice none _ _ | .map none=>true
  | .pointer (some a)=>p a.block
  | .slice (some a) _ _=>p a.block
  | .map (some b)=>p b
  | .func _ f c=>f.toList.all (X3s p d) && c.toList.all (X3s p d)
  | .iface _ v=>X3s p d v
  | .agg cs=>cs.toList.all (X3s p d)
  | .tuple cs=>cs.toList.all (X3s p d)
  | _=>false
theorem X50 {φ φ':Pmap} {p:Nat→Bool} (h:∀ b,p b=true→φ' b=φ b):∀ (d:Nat) {v cv:Value},X3s p d v=true→VRel φ' v cv→VRel φ v cv:=by
 intro d
 induction d with
 | zero=>intro v cv hr; cases hr
 | succ d ih =>
  have all:∀ {l cl:List Value},l.all (X3s p d)=true→VRels φ' l cl→VRels φ l cl:=by
   intro l
   induction l with
   | nil=>intro cl _ hl; cases hl; exact .nil
   | cons x l ihl =>
    intro cl hr hl
    simp only [List.all_cons,Bool.and_eq_true] at hr
    cases hl with
    | cons _ v' _ l' hv hl=>exact .cons _ _ _ _ (ih hr.1 hv) (ihl hr.2 hl)
  intro v cv hr hv
  cases hv <;> simp only [X3s] at hr
  case bool=>exact .bool _
  case int=>exact .int _ _
  case float=>exact .float _ _
  case string=>exact .string _
  case nilPtr=>exact .nilPtr
  case ptr b o r B O pl hb hr' hp=>exact .ptr b o r B O pl (by rw [← h b hr]; exact hb) hr' hp
  case nilSlice=>exact .nilSlice
  case slice b o es k t B O cap pl hb hes hk hr' hp=>exact .slice b o es k t B O cap pl (by rw [← h b hr]; exact hb) hes hk hr' hp
  case nilMap=>exact .nilMap
  case map b R pl hb hp=>exact .map b R pl (by rw [← h b hr]; exact hb) hp
  case func fn a c a' c' ha hc =>
   simp only [Bool.and_eq_true] at hr
   exact .func _ _ _ _ _ (all hr.1 ha) (all hr.2 hc)
  case nilFunc=>exact .nilFunc
  case iface t x x' hx=>exact .iface _ _ _ (ih hr hx)
  case nilIface=>exact .nilIface
  case agg a a' ha=>exact .agg _ _ (all hr ha)
  case tuple a a' ha=>exact .tuple _ _ (all hr ha)
theorem Xcy {φ φ':Pmap} {p:Nat→Bool} (h:∀ b,p b=true→φ' b=φ b) (d:Nat):∀ {l cl:List Value},l.all (X3s p d)=true→VRels φ' l cl→VRels φ l cl
 | [],_,_,.nil=>.nil
 | _ :: _,_,hr,.cons _ _ _ _ hv hl=>by
  simp only [List.all_cons,Bool.and_eq_true] at hr
  exact .cons _ _ _ _ (X50 h d hr.1 hv) (Xcy h d hr.2 hl)
def Xbb (p:Nat→Bool) (d:Nat):AObj→Bool
 | .cells c _ _ _ _=>c.all (X3s p d)
 | .map es _=>es.all fun e=>X3s p d e.1 && X3s p d e.2.1
 | .siter _ _=>true
 | .miter _ _ _ _=>false
def Xg9:AObj→Bool
 | .cells _ _ _ ro _=>!ro
 | _=>true
theorem Xnh {φ:Pmap} {w:World} {pl:Pl} {o:AObj} (h:BRel φ w pl o) (hf:Xg9 o=true):pl.ro=false:=by
 cases o with
 | cells c ver fro ro ty=>rw [h.2.1]; simpa [Xg9] using hf
 | map es clock=>exact h.2.1
 | siter s pos=>exact h.2.1
 | miter _ _ _ _=>exact h.2.1
theorem EntRel.swap {φ φ':Pmap} {p:Nat→Bool} (h0:∀ b,p b=true→φ' b=φ b) {d:Nat}:∀ {a:List (Value × Value × Nat)} {c:List MapEntry},(a.all fun e=>X3s p d e.1 && X3s p d e.2.1)=true→EntRel φ' a c→EntRel φ a c
 | [],_,_,h=>by cases h; exact .nil
 | (k,v,n) :: l,_,hr,h=>by
  cases h with
  | cons _ _ k' v' _ _ l' hk hv hl =>
   simp only [List.all_cons,Bool.and_eq_true] at hr
   exact .cons k v k' v' n l l' (X50 h0 d hr.1.1 hk) (X50 h0 d hr.1.2 hv) (EntRel.swap h0 hr.2 hl)
theorem BRel.swap {φ φ':Pmap} {p:Nat→Bool} (h:∀ b,p b=true→φ' b=φ b) {d:Nat} {w:World} {pl:Pl} {o:AObj} (hr:Xbb p d o=true) (k:BRel φ' w pl o):BRel φ w pl o:=by
 cases o with
 | cells c ver fro ro ty' =>
  obtain ⟨h1,h2,h3,C,ty,lo,hi,h4,h5,h6,h7⟩:=k
  refine ⟨h1,h2,h3,C,ty,lo,hi,h4,h5,fun i v a b=>?_,h7⟩
  obtain ⟨cv,x,y⟩:=h6 i v a b
  simp only [Xbb,List.all_eq_true] at hr
  exact ⟨cv,x,X50 h d (hr v (List.mem_of_getElem? b)) y⟩
 | map es clock =>
  obtain ⟨h1,h2,es',h3,h4⟩:=k
  exact ⟨h1,h2,es',h3,h4.swap h hr⟩
 | siter s pos=>exact k
 | miter _ _ _ _=>cases hr
theorem Xke:∀ {l k:List UInt8},beqL l k=true→l=k
 | [],[],_=>rfl
 | a :: l,b :: k,h=>by
  simp only [beqL] at h
  split at h
  ·rename_i hb
   rw [UInt8.toNat_inj.mp (Nat.eq_of_beq_eq_true hb),Xke h]
  ·cases h
def Xep (q:Value→Value→Bool):List Value→List Value→Bool
 | [],[]=>true
 | a :: l,b :: k=>(match q a b with | true=>Xep q l k | false=>false)
 | _,_=>false
theorem X66 {q:Value→Value→Bool} (h:∀ a b,q a b=true→a=b):∀ {l k:List Value},Xep q l k=true→l=k
 | [],[],_=>rfl
 | a :: l,b :: k,hq=>by
  simp only [Xep] at hq
  split at hq
  ·rename_i hb
   rw [h _ _ hb,X66 h hq]
  ·cases hq
theorem Xx0 {a b:IntKind} (h:kbeq a b=true):a=b:=by cases a <;> cases b <;> first | rfl | cases h
def ibeq (a b:Int):Bool:=match a,b with | .ofNat n,.ofNat k=>Nat.beq n k | .negSucc n,.negSucc k=>Nat.beq n k | _,_=>false
theorem Xvm {a b:Int} (h:ibeq a b=true):a=b:=by
 cases a <;> cases b <;> first | (rw [Nat.eq_of_beq_eq_true h]) | cases h
def obeq (a b:Option Nat):Bool:=match a,b with | none,none=>true | some a,some b=>Nat.beq a b | _,_=>false
theorem Xqf {a b:Option Nat} (h:obeq a b=true):a=b:=by
 cases a <;> cases b <;> first | rfl | (rw [Nat.eq_of_beq_eq_true h]) | cases h
def abeq (a b:Addr):Bool:=Nat.beq a.block b.block && (Nat.beq a.off b.off && obeq a.spot b.spot)
theorem Xs0 {a b:Addr} (h:abeq a b=true):a=b:=by
 obtain ⟨a1,a2,a3⟩:=a
 obtain ⟨b1,b2,b3⟩:=b
 simp only [abeq,Bool.and_eq_true] at h
 rw [Nat.eq_of_beq_eq_true h.1,Nat.eq_of_beq_eq_true h.2.1,Xqf h.2.2]
def bbeq (a b:Bool):Bool:=match a,b with | true,true | false,false=>true | _,_=>false
theorem Xpm {a b:Bool} (h:bbeq a b=true):a=b:=by cases a <;> cases b <;> first | rfl | cases h
def vbeq:Nat→Value→Value→Bool
 | 0,_,_=>false
 | d + 1,a,b=>match a,b with
  | .bool a,.bool b=>bbeq a b
  | .int k n,.int k' n'=>kbeq k k' && ibeq n n'
  | .string s,.string t=>beqL s.data.toList t.data.toList
  | .pointer none,.pointer none=>true
  | .pointer (some a),.pointer (some b)=>abeq a b
  | .slice none n r,.slice none n' r'=>Nat.beq n n' && Nat.beq r r'
  | .slice (some a) n r,.slice (some a') n' r'=>abeq a a' && (Nat.beq n n' && Nat.beq r r')
  | .map none,.map none=>true
  | .map (some b),.map (some b')=>Nat.beq b b'
  | .nilFunc,.nilFunc=>true
  | .nilIface,.nilIface=>true
  | .iface t v,.iface t' v'=>Nat.beq t t' && vbeq d v v'
  | .agg a,.agg b=>Xep (vbeq d) a.toList b.toList
  | .tuple a,.tuple b=>Xep (vbeq d) a.toList b.toList
  | .func (.func f) a c,.func (.func f') a' c'=>Nat.beq f f' && (Xep (vbeq d) a.toList a'.toList && Xep (vbeq d) c.toList c'.toList)
  | _,_=>false
theorem Xdt:∀ (d:Nat) (a b:Value),vbeq d a b=true→a=b:=by
 intro d
 induction d with
 | zero=>intro a b h; cases h
 | succ d ih =>
  intro a b h
  unfold vbeq at h
  split at h
  ·rw [Xpm h]
  ·simp only [Bool.and_eq_true] at h; rw [Xx0 h.1,Xvm h.2]
  ·rename_i s t
   have:=Xke h
   obtain ⟨⟨l⟩⟩:=s
   obtain ⟨⟨k⟩⟩:=t
   simp only at this
   rw [this]
  ·rfl
  ·rw [Xs0 h]
  ·simp only [Bool.and_eq_true] at h; rw [Nat.eq_of_beq_eq_true h.1,Nat.eq_of_beq_eq_true h.2]
  ·simp only [Bool.and_eq_true] at h; rw [Xs0 h.1,Nat.eq_of_beq_eq_true h.2.1,Nat.eq_of_beq_eq_true h.2.2]
  ·rfl
  ·rw [Nat.eq_of_beq_eq_true h]
  ·rfl
  ·rfl
  ·simp only [Bool.and_eq_true] at h; rw [Nat.eq_of_beq_eq_true h.1,ih _ _ h.2]
  ·rw [Array.ext' (X66 ih h)]
  ·rw [Array.ext' (X66 ih h)]
  ·simp only [Bool.and_eq_true] at h
   rw [Nat.eq_of_beq_eq_true h.1,Array.ext' (X66 ih h.2.1),Array.ext' (X66 ih h.2.2)]
  ·cases h
def Xtc (d:Nat):List (Value × Value × Nat)→List (Value × Value × Nat)→Bool
 | [],[]=>true
 | (a,b,n) :: l,(a',b',n') :: k=>vbeq d a a' && (vbeq d b b' && (Nat.beq n n' && Xtc d l k))
 | _,_=>false
theorem Xn2 {d:Nat}:∀ {l k:List (Value × Value × Nat)},Xtc d l k=true→l=k
 | [],[],_=>rfl
 | (a,b,n) :: l,(a',b',n') :: k,h=>by
  simp only [Xtc,Bool.and_eq_true] at h
  rw [Xdt _ _ _ h.1,Xdt _ _ _ h.2.1,Nat.eq_of_beq_eq_true h.2.2.1,Xn2 h.2.2.2]
def Xqd (d:Nat) (a b:AObj):Bool:=match a,b with
 | .cells c v f r t,.cells c' v' f' r' t'=>Nat.beq v v' && (Nat.beq f f' && (bbeq r r' && (obeq t t' && Xep (vbeq d) c c')))
 | .map e n,.map e' n'=>Nat.beq n n' && Xtc d e e'
 | .siter s p,.siter s' p'=>Nat.beq p p' && beqL s.data.toList s'.data.toList
 | _,_=>false
theorem Xry {d:Nat} {a b:AObj} (h:Xqd d a b=true):a=b:=by
 unfold Xqd at h
 split at h
 ·simp only [Bool.and_eq_true] at h
  rw [Nat.eq_of_beq_eq_true h.1,Nat.eq_of_beq_eq_true h.2.1,Xpm h.2.2.1,Xqf h.2.2.2.1,X66 (Xdt d) h.2.2.2.2]
 ·simp only [Bool.and_eq_true] at h
  rw [Nat.eq_of_beq_eq_true h.1,Xn2 h.2]
 ·rename_i s p s' p'
  simp only [Bool.and_eq_true] at h
  have:=Xke h.2
  obtain ⟨⟨l⟩⟩:=s
  obtain ⟨⟨k⟩⟩:=s'
  simp only at this
  rw [this,Nat.eq_of_beq_eq_true h.1]
 ·cases h
def Xiq:List (Nat × AObj)→Tr Raw→Tr Raw
 | [],t=>t
 | (b,o) :: l,t=>Xiq l (Tr.put (b + 1) t (b + 1) (.plain o))
def lget:List (Nat × AObj)→Nat→Option AObj
 | [],_=>none
 | (b,o) :: l,c=>match Nat.beq b c with | true=>some o | false=>lget l c
theorem Xb2:∀ (l:List (Nat × AObj)) (t:Tr Raw) (c:Nat),(∀ b o,(b,o) ∈ l→t.get (b + 1)=none∨True)→((Xiq l t).get (c + 1)).map Raw.norm=match lget l.reverse c with | some o=>some o | none=>(t.get (c + 1)).map Raw.norm
 | [],t,c,_=>rfl
 | (b,o) :: l,t,c,_=>by
  have ap:∀ (k:List (Nat × AObj)) (x:Nat × AObj),lget (k ++ [x]) c=match lget k c with | some o=>some o | none=>(match Nat.beq x.1 c with | true=>some x.2 | false=>none):=by
   intro k x
   induction k with
   | nil=>obtain ⟨x1,x2⟩:=x; simp [lget]
   | cons y k ih =>
    obtain ⟨y1,y2⟩:=y
    simp only [List.cons_append,lget]
    cases Nat.beq y1 c
    ·exact ih
    ·rfl
  rw [Xiq,Xb2 l _ c (fun _ _ _=>.inr trivial),List.reverse_cons,ap]
  cases lget l.reverse c with
  | some o=>rfl
  | none =>
   simp only
   rw [Tr.get_put _ _ _ _ _ (by omega) (by omega) (Nat.le_refl _)]
   cases hb:Nat.beq b c
   ·have:=Nat.ne_of_beq_eq_false hb
    simp [this]
   ·have:=Nat.eq_of_beq_eq_true hb
    simp [this]
    rfl
theorem Xgq:∀ {l:List (Nat × AObj)} {c:Nat} {o:AObj},lget l c=some o→(c,o) ∈ l
 | (b,o') :: l,c,o,h=>by
  simp only [lget] at h
  split at h
  ·rename_i hb
   cases h
   rw [Nat.eq_of_beq_eq_true hb]
   exact List.mem_cons_self
  ·exact List.mem_cons_of_mem _ (Xgq h)
structure Memo where
 f:FuncId
 args:List Value
 old:List (Nat × AObj)
 next:Nat
 v:Value
 new:List (Nat × AObj)
 next':Nat
def Memo.mem (e:Memo):Mem:=⟨e.next,e.next,Xiq e.old .nil⟩
def inL (l:List (Nat × AObj)) (b:Nat):Bool:=match lget l b with | some _=>true | none=>false
def Memo.good (e:Memo):Bool:=
 e.args.all (X3s (inL e.old.reverse) 9) && (e.old.all (fun x=>Xbb (inL e.old.reverse) 9 x.2 && Nat.blt x.1 e.next) &&
 (X3s (fun b=>inL e.old.reverse b || inL e.new.reverse b) 9 e.v && (e.new.all (fun x=>Xbb (fun b=>inL e.old.reverse b || inL e.new.reverse b) 9 x.2 && (Xg9 x.2 && (Nat.ble e.next x.1 && Nat.blt x.1 e.next'))) && Nat.ble e.next e.next')))
def holds (m:Mem):List (Nat × AObj)→Bool
 | []=>true
 | (b,o) :: l=>(match m.get b with | some o'=>(match Xqd 9 o' o with | true=>holds m l | false=>false) | none=>false)
theorem Xe5 {m:Mem}:∀ {l:List (Nat × AObj)},holds m l=true→∀ {b o},(b,o) ∈ l→m.get b=some o
 | (b',o') :: l,h,b,o,hm=>by
  simp only [holds] at h
  split at h
  ·rename_i o2 h2
   split at h
   ·rename_i hb
    rcases List.mem_cons.mp hm with e | e
    ·cases e
     rw [h2,Xry hb]
    ·exact Xe5 h e
   ·cases h
  ·cases h
def Memo.so (e:Memo) (x:Option Rs):Bool:=match x with
 | some (v,m1)=>(match vbeq 9 v e.v with | true=>(match Nat.ble e.next m1.low with | true=>(match Nat.beq m1.next e.next' with | true=>holds m1 e.new | false=>false) | false=>false) | false=>false)
 | none=>false
def Memo.after (e:Memo) (m:Mem):Mem:=match e.new with
 | []=>m
 | _=>⟨e.next',m.low,Xiq e.new m.tr⟩
def Memo.nextOk (e:Memo) (m:Mem):Bool:=match e.new with | []=>true | _=>Nat.beq m.next e.next
def Memo.ov (e:Memo):Over:=fun f args m =>
 match Nat.beq f e.f with
 | false=>none
 | true=>match Xep (vbeq 9) args e.args with
  | false=>none
  | true=>match e.nextOk m with
   | false=>none
   | true=>match holds m e.old with
    | false=>none
    | true=>some (e.v,e.after m)
theorem Xc4 {l:List (Nat × AObj)} {b:Nat} (h:inL l b=true):∃ o,lget l b=some o:=by
 unfold inL at h
 split at h
 ·rename_i o ho; exact ⟨o,ho⟩
 ·cases h
theorem Memo.get_mem (e:Memo) (b:Nat):e.mem.get b=lget e.old.reverse b:=by
 unfold Memo.mem
 rw [Mem.get_def]
 simp only
 rw [Xb2 _ _ _ (fun _ _ _=>.inr trivial)]
 cases lget e.old.reverse b with
 | some o=>rfl
 | none=>simp [Tr.get_nil]
theorem Memo.get_after {e:Memo} {m:Mem} (b:Nat):(e.after m).get b=match lget e.new.reverse b with | some o=>some o | none=>m.get b:=by
 unfold Memo.after
 split
 ·rename_i h; rw [h]; rfl
 ·rw [Mem.get_def,Mem.get_def]
  simp only
  rw [Xb2 _ _ _ (fun _ _ _=>.inr trivial)]
theorem Memo.low_after {e:Memo} {m:Mem}:(e.after m).low=m.low:=by unfold Memo.after; split <;> rfl
theorem Xw5 {P:Program} {W0:World} {g:Tab} (hT:X1d P W0 g) {e:Memo} (hgood:e.good=true) (hso:e.so (g e.f e.args e.mem)=true):X14 P W0 e.ov:=by
 intro φ m w f args cargs v m' hR hB hA hg
 -- what was found
 unfold Memo.so at hso
 split at hso
 case h_2=>cases hso
 rename_i v0 m1 hres
 split at hso
 case h_2=>cases hso
 rename_i hv0
 split at hso
 case h_2=>cases hso
 rename_i hlow
 split at hso
 case h_2=>cases hso
 rename_i hnx
 have hv0:=Xdt _ _ _ hv0
 subst hv0
 have hlow:=Nat.le_of_ble_eq_true hlow
 have hnx:=Nat.eq_of_beq_eq_true hnx
 -- well made
 unfold Memo.good at hgood
 simp only [Bool.and_eq_true] at hgood
 obtain ⟨g1,g2,g3,g4,g5⟩:=hgood
 have g5:=Nat.le_of_ble_eq_true g5
 -- asked so
 simp only [Memo.ov] at hg
 split at hg
 ·cases hg
 rename_i hf
 split at hg
 ·cases hg
 rename_i hargs
 split at hg
 ·cases hg
 rename_i hnext
 split at hg
 ·cases hg
 rename_i hold
 cases hg
 have hf:=Nat.eq_of_beq_eq_true hf
 have hargs:=X66 (Xdt 9) hargs
 subst hf
 subst hargs
 have nexteq:e.new ≠ []→m.next=e.next:=by
  intro hne
  unfold Memo.nextOk at hnext
  split at hnext
  ·rename_i h0; exact absurd h0 hne
  ·exact Nat.eq_of_beq_eq_true hnext
 -- the small map
 let φ0:Pmap:=fun b=>if inL e.old.reverse b=true then φ b else none
 have in0:∀ b,inL e.old.reverse b=true→φ0 b=φ b:=fun b h=>if_pos h
 have in0':∀ b pl,φ0 b=some pl→inL e.old.reverse b=true∧φ b=some pl:=by
  intro b pl h
  by_cases hb:inL e.old.reverse b=true
  ·exact ⟨hb,by rw [← in0 b hb]; exact h⟩
  ·have:φ0 b=none:=if_neg hb
   rw [this] at h; cases h
 have oldget:∀ b o,lget e.old.reverse b=some o→m.get b=some o∧Xbb (inL e.old.reverse) 9 o=true∧b < e.next:=by
  intro b o h
  have hm:=List.mem_reverse.mp (Xgq h)
  have:=List.all_eq_true.mp g2 _ hm
  simp only [Bool.and_eq_true] at this
  refine ⟨Xe5 hold hm,this.1,?_⟩
  have h2:=this.2
  simp only [Nat.blt,Nat.ble_eq] at h2
  omega
 have newget:∀ b o,lget e.new.reverse b=some o→m1.get b=some o∧Xbb (fun b=>inL e.old.reverse b || inL e.new.reverse b) 9 o=true∧Xg9 o=true∧e.next ≤ b∧b < e.next':=by
  intro b o h
  have hm:=List.mem_reverse.mp (Xgq h)
  have:=List.all_eq_true.mp g4 _ hm
  simp only [Bool.and_eq_true] at this
  refine ⟨Xe5 hso hm,this.1,this.2.1,Nat.le_of_ble_eq_true this.2.2.1,?_⟩
  have h2:=this.2.2.2
  simp only [Nat.blt,Nat.ble_eq] at h2
  omega
 have R0:Rel W0.heap.size φ0 e.mem w:=by
  refine ⟨fun b pl hb=>?_,fun b b' pl pl' hb hb'=>hR.inj b b' pl pl' (in0' b pl hb).2 (in0' b' pl' hb').2,fun b pl hb=>hR.base b pl (in0' b pl hb).2,hR.size,fun b hb=>?_⟩
  ·obtain ⟨h1,h2⟩:=in0' b pl hb
   obtain ⟨o,ho⟩:=Xc4 h1
   obtain ⟨q1,q2,q3⟩:=oldget b o ho
   obtain ⟨r1,o',r2,r3⟩:=hR.blocks b pl h2
   rw [q1] at r2
   cases r2
   exact ⟨q3,o,by rw [Memo.get_mem]; exact ho,r3.swap (fun b h=>(in0 b h).symm) q2⟩
  ·rw [Memo.get_mem]
   cases hl:lget e.old.reverse b with
   | none=>rfl
   | some o=>have:=(oldget b o hl).2.2; have hb':e.next ≤ b:=hb; omega
 have A0:VRels φ0 e.args cargs:=Xcy (fun b h=>(in0 b h).symm) 9 g1 hA
 have key:∀ cv w',After W0.heap.size φ0 e.mem w e.v m1 cv w'→After W0.heap.size φ m w e.v (e.after m) cv w':=by
  rintro cv w' ⟨φ1,R1,V1,S⟩
  -- the new blocks are above all that is old
  have newnext:∀ b o,lget e.new.reverse b=some o→m.next ≤ b∧m.next=e.next:=by
   intro b o h
   have hne:e.new ≠ []:=by
    intro h0
    rw [h0] at h
    cases h
   have:m.next=e.next:=nexteq hne
   exact ⟨by rw [this]; exact (newget b o h).2.2.2.1,this⟩
  let φ':Pmap:=fun b=>if b < m.next then φ b else if inL e.new.reverse b=true then φ1 b else none
  have oldmap:∀ b,b < m.next→φ' b=φ b:=fun b h=>if_pos h
  have newmap:∀ b,inL e.new.reverse b=true→φ' b=φ1 b:=by
   intro b h
   obtain ⟨o,ho⟩:=Xc4 h
   have:=(newnext b o ho).1
   show (if b < m.next then φ b else if inL e.new.reverse b=true then φ1 b else none)=φ1 b
   rw [if_neg (by omega),if_pos h]
  have notmap:∀ b,¬ b < m.next→¬ inL e.new.reverse b=true→φ' b=none:=by
   intro b h k
   show (if b < m.next then φ b else if inL e.new.reverse b=true then φ1 b else none)=none
   rw [if_neg h,if_neg k]
  have le:φ.le φ':=fun b pl h=>⟨pl,by rw [oldmap b (hR.blocks b pl h).1]; exact h,.inl rfl⟩
  have same0:∀ b,inL e.old.reverse b=true→m1.get b=e.mem.get b∧φ1 b=φ0 b:=by
   intro b h
   obtain ⟨o,ho⟩:=Xc4 h
   have:=(oldget b o ho).2.2
   exact S.same b (by omega) this
  have oldold:∀ b,inL e.old.reverse b=true→φ' b=φ1 b:=by
   intro b h
   obtain ⟨o,ho⟩:=Xc4 h
   have h1:=(same0 b h).2
   rw [in0 b h] at h1
   rw [h1]
   by_cases hb:b < m.next
   ·exact oldmap b hb
   ·have hm:=(oldget b o ho).1
    rw [hR.fresh b (by omega)] at hm
    cases hm
  have both:∀ b,(inL e.old.reverse b || inL e.new.reverse b)=true→φ1 b=φ' b:=by
   intro b h
   rcases Bool.or_eq_true _ _ ▸ h with h | h
   ·exact (oldold b h).symm
   ·exact (newmap b h).symm
  have newof:∀ b pl,φ' b=some pl→¬ b < m.next→∃ o,lget e.new.reverse b=some o∧φ1 b=some pl∧pl.ro=false:=by
   intro b pl h hb
   by_cases hn:inL e.new.reverse b=true
   ·obtain ⟨o,ho⟩:=Xc4 hn
    rw [newmap b hn] at h
    obtain ⟨q1,q2,q3,_⟩:=newget b o ho
    obtain ⟨_,o',h1,h2⟩:=R1.blocks b pl h
    rw [q1] at h1
    cases h1
    exact ⟨o,ho,h,Xnh h2 q3⟩
   ·rw [notmap b hb hn] at h; cases h
  have oldblk:∀ b pl,φ b=some pl→pl.blk < w.heap.size:=by
   intro b pl h
   obtain ⟨_,o,_,h3⟩:=hR.blocks b pl h
   exact h3.there
  have newinj:∀ b b' pl pl',φ' b=some pl→¬ b < m.next→φ b'=some pl'→pl.blk=pl'.blk→b=b':=by
   intro b b' pl pl' h hb h' he
   obtain ⟨o,ho,h1,hr⟩:=newof b pl h hb
   rcases S.img b pl h1 hr with ⟨b2,pl2,k1,k2,k3⟩ | k
   ·obtain ⟨k4,k5⟩:=in0' b2 pl2 k1
    have e2:=hR.inj b2 b' pl2 pl' k5 h' k2 (k3.trans he)
    subst e2
    have:φ1 b2=some pl2:=by rw [(same0 b2 k4).2]; exact k1
    exact R1.inj b b2 pl pl2 h1 this hr k3.symm
   ·have:=oldblk b' pl' h'
    omega
  refine ⟨φ',⟨fun b pl hb=>?_,fun b b' pl pl' hb hb' hr he=>?_,fun b pl hb hr=>?_,Nat.le_trans hR.size S.size,fun b hb=>?_⟩,X50 (fun b h=>both b h) 9 g3 V1,
   ⟨le,?_,by rw [Memo.low_after]; exact Nat.le_refl _,fun b h1 h2=>?_,S.os,S.tape,S.output,S.size,fun B hB hn=>S.frame B hB (fun b pl hb hr=>hn b pl (in0' b pl hb).2 hr),fun b pl hb hr=>?_,fun b h1 h2=>?_⟩⟩
  ·-- the blocks
   by_cases hlt:b < m.next
   ·have hnew:lget e.new.reverse b=none:=by
     cases hl:lget e.new.reverse b with
     | none=>rfl
     | some o=>have:=(newnext b o hl).1; omega
    rw [oldmap b hlt] at hb
    obtain ⟨q1,o,q2,q3⟩:=hR.blocks b pl hb
    refine ⟨?_,o,by rw [Memo.get_after,hnew]; exact q2,?_⟩
    ·unfold Memo.after
     split
     ·exact q1
     ·rename_i hne
      have:m.next=e.next:=nexteq hne
      have:b < e.next':=by omega
      exact this
    ·by_cases hin:inL e.old.reverse b=true
     ·obtain ⟨o',ho'⟩:=Xc4 hin
      obtain ⟨p1,p2,p3⟩:=oldget b o' ho'
      rw [q2] at p1
      cases p1
      have hb1:φ1 b=some pl:=by rw [(same0 b hin).2,in0 b hin]; exact hb
      obtain ⟨_,o2,r2,r3⟩:=R1.blocks b pl hb1
      rw [(same0 b hin).1,Memo.get_mem,ho'] at r2
      cases r2
      exact r3.swap (fun b h=>(oldold b h).symm) p2
     ·refine (q3.of_heap (S.frame pl.blk (oldblk b pl hb) fun b' pl' hb' hr' he=>?_)).mono le
      obtain ⟨k1,k2⟩:=in0' b' pl' hb'
      have:=hR.inj b' b pl' pl k2 hb hr' he
      subst this
      exact hin k1
   ·obtain ⟨o,ho,h1,hr⟩:=newof b pl hb hlt
    obtain ⟨q1,q2,q3,q4,q5⟩:=newget b o ho
    obtain ⟨_,o',r1,r2⟩:=R1.blocks b pl h1
    rw [q1] at r1
    cases r1
    refine ⟨?_,o,by rw [Memo.get_after,ho],r2.swap (fun b h=>both b h) q2⟩
    unfold Memo.after
    split
    ·rename_i h0; rw [h0] at ho; cases ho
    ·exact q5
  ·-- injective
   by_cases hlt:b < m.next
   ·rw [oldmap b hlt] at hb
    by_cases hlt':b' < m.next
    ·rw [oldmap b' hlt'] at hb'
     exact hR.inj b b' pl pl' hb hb' hr he
    ·exact (newinj b' b pl' pl hb' hlt' hb he.symm).symm
   ·by_cases hlt':b' < m.next
    ·rw [oldmap b' hlt'] at hb'
     exact newinj b b' pl pl' hb hlt hb' he
    ·obtain ⟨_,_,h1,_⟩:=newof b pl hb hlt
     obtain ⟨_,_,h2,_⟩:=newof b' pl' hb' hlt'
     exact R1.inj b b' pl pl' h1 h2 hr he
  ·by_cases hlt:b < m.next
   ·rw [oldmap b hlt] at hb
    exact hR.base b pl hb hr
   ·obtain ⟨_,_,h1,_⟩:=newof b pl hb hlt
    exact R1.base b pl h1 hr
  ·rw [Memo.get_after]
   have hge:m.next ≤ b∧lget e.new.reverse b=none:=by
    unfold Memo.after at hb
    split at hb
    ·rename_i h0; rw [h0]; exact ⟨hb,rfl⟩
    ·rename_i hne
     have:m.next=e.next:=nexteq hne
     have hb':e.next' ≤ b:=hb
     refine ⟨by omega,?_⟩
     cases hl:lget e.new.reverse b with
     | none=>rfl
     | some o=>have:=(newget b o hl).2.2.2.2; omega
   rw [hge.2]
   exact hR.fresh b hge.1
  ·unfold Memo.after
   split
   ·exact Nat.le_refl _
   ·rename_i hne
    have:m.next=e.next:=nexteq hne
    show m.next ≤ e.next'
    omega
  ·refine ⟨?_,oldmap b h2⟩
   rw [Memo.get_after]
   cases hl:lget e.new.reverse b with
   | none=>rfl
   | some o=>have:=(newnext b o hl).1; omega
  ·by_cases hlt:b < m.next
   ·rw [oldmap b hlt] at hb
    exact .inl ⟨b,pl,hb,hr,rfl⟩
   ·obtain ⟨_,_,h1,_⟩:=newof b pl hb hlt
    rcases S.img b pl h1 hr with ⟨b2,pl2,k1,k2,k3⟩ | k
    ·exact .inl ⟨b2,pl2,(in0' b2 pl2 k1).2,k2,k3⟩
    ·exact .inr k
  ·refine ⟨by rw [oldmap b h1]; exact h2,?_⟩
   rw [Memo.get_after]
   cases hl:lget e.new.reverse b with
   | none=>rfl
   | some o=>have:=(newnext b o hl).1; omega
 have h:=hT φ0 e.mem w e.f e.args cargs e.v m1 R0 hB A0 hres
 rcases h with ⟨h1,h2⟩ | ⟨cv,w',h1,h2⟩
 ·exact .inl ⟨h1,h2.mono fun x w' ⟨cv,hx,ha⟩=>⟨cv,hx,key cv w' ha⟩⟩
 ·exact .inr ⟨cv,w',h1,key cv w' h2⟩
end
end Go.Ab

namespace Go.Ab
noncomputable section
open Go
open Go.RowKit (Below)
variable {P:Program} {W0:World}
theorem Xhg {w:World} (hB:Below W0.heap.size W0 w) {n:String} {cs:Array Value} (h:W0.var? P n=some cs):w.var? P n=some cs:=by
 unfold World.var? at h ⊢
 cases hg:P.globalNamed n with
 | none=>rw [hg] at h; cases h
 | some g =>
  rw [hg] at h
  simp only [Option.bind_some] at h ⊢
  have hlt:g < W0.heap.size:=by
   rcases Nat.lt_or_ge g W0.heap.size with hh | hh
   ·exact hh
   ·rw [Array.getElem?_eq_none hh] at h; cases h
  rw [hB.block g hlt]
  exact h
theorem Xsf {B0:Nat} {φ:Pmap} {m:Mem} {w w1:World} (h:Rel B0 φ m w) (hbl:Below w.heap.size w w1)
  (pl:Pl) (hblk:w.heap.size ≤ pl.blk) (o:AObj) (hb:BRel (φ.upd m.next pl) w1 pl o) :
  Rel B0 (φ.upd m.next pl) (m.push o) w1∧Stp φ m w (φ.upd m.next pl) (m.push o) w1:=by
 have hfresh:∀ pl',φ m.next ≠ some pl':=fun pl' hx=>by have:=(h.blocks _ _ hx).1; omega
 have hle:φ.le (φ.upd m.next pl):=fun b p hb=>⟨p,by rw [Pmap.upd_other pl (fun x=>hfresh p (by rw [← x]; exact hb)),hb],.inl rfl⟩
 have hold:∀ B,B < w.heap.size→w1.heap[B]?=w.heap[B]?:=fun B hB=>hbl.block B hB
 refine ⟨⟨fun b p hp=>?_,fun b b' p p' hp hp' hr heq=>?_,fun b p hp hr=>?_,Nat.le_trans h.size hbl.size,fun b hb=>by rw [Mem.get_push,if_neg (by simp at hb; omega)]; exact h.fresh b (by simp at hb; omega)⟩,?_⟩
 ·by_cases hbn:b=m.next
  ·subst hbn
   rw [Pmap.upd_same] at hp
   cases hp
   exact ⟨by simp,o,by rw [Mem.get_push,if_pos rfl],hb⟩
  ·rw [Pmap.upd_other pl hbn] at hp
   obtain ⟨h1,o',h2,h3⟩:=h.blocks b p hp
   refine ⟨by simp; omega,o',by rw [Mem.get_push,if_neg (Ne.symm hbn)]; exact h2,?_⟩
   exact (h3.mono hle).of_heap (hold _ h3.there)
 ·by_cases hbn:b=m.next
  ·by_cases hbn':b'=m.next
   ·rw [hbn,hbn']
   ·subst hbn
    rw [Pmap.upd_same] at hp
    rw [Pmap.upd_other pl hbn'] at hp'
    cases hp
    obtain ⟨_,o',_,h3⟩:=h.blocks b' p' hp'
    have:=h3.there
    omega
  ·by_cases hbn':b'=m.next
   ·subst hbn'
    rw [Pmap.upd_same] at hp'
    rw [Pmap.upd_other pl hbn] at hp
    cases hp'
    obtain ⟨_,o',_,h3⟩:=h.blocks b p hp
    have:=h3.there
    omega
   ·rw [Pmap.upd_other pl hbn] at hp
    rw [Pmap.upd_other pl hbn'] at hp'
    exact h.inj b b' p p' hp hp' hr heq
 ·by_cases hbn:b=m.next
  ·subst hbn
   rw [Pmap.upd_same] at hp
   cases hp
   exact Nat.le_trans h.size hblk
  ·rw [Pmap.upd_other pl hbn] at hp
   exact h.base b p hp hr
 ·refine ⟨hle,by simp,by simp,fun b _ hb2=>?_,hbl.os,hbl.tape,hbl.output,hbl.size,fun B hB _=>hold B hB,fun b p hp hr=>?_,fun b hb1 hb2=>?_⟩
  ·have hne:b ≠ m.next:=by omega
   exact ⟨by rw [Mem.get_push,if_neg (Ne.symm hne)],Pmap.upd_other pl hne⟩
  ·by_cases hbn:b=m.next
   ·subst hbn
    rw [Pmap.upd_same] at hp
    cases hp
    exact .inr hblk
   ·rw [Pmap.upd_other pl hbn] at hp
    exact .inl ⟨b,p,hp,hr,rfl⟩
  ·have hne:b ≠ m.next:=by omega
   exact ⟨by rw [Pmap.upd_other pl hne]; exact hb2,by rw [Mem.get_push,if_neg (Ne.symm hne)]⟩
theorem X7j {f:FuncId} {cargs:List Value} {φ:Pmap} {m:Mem} {w:World} {x:Value} {T:TypeId} (he:(callFunc f cargs.toArray).run P w=.ok (.enter f cargs.toArray) w) (hx:X49 x=true)
  (hc:Calls P f cargs.toArray w fun e w'=>∃ N,e=.returned (.tuple #[x,.iface T (.pointer (some ⟨N,0,none⟩))])∧w.heap.size ≤ N∧(∃ C ty,w'.heap[N]?=some (.cells C ty (0,0)))∧Below w.heap.size w w') (hR:Rel W0.heap.size φ m w) :
  Xil P f cargs w (After W0.heap.size φ m w (.tuple #[x,.iface T (.pointer (some ⟨m.next,0,some 0⟩))]) (m.push (.cells [] 0 0 false none))):=by
 refine .inl ⟨he,hc.mono fun e w' h=>?_⟩
 obtain ⟨N,rfl,hN,⟨C,ty,hC⟩,hb⟩:=h
 refine ⟨_,rfl,φ.upd m.next ⟨N,0,0,C.size,0,false⟩,?_⟩
 have hb2:BRel (φ.upd m.next ⟨N,0,0,C.size,0,false⟩) w' ⟨N,0,0,C.size,0,false⟩ (.cells [] 0 0 false none):=by
  refine ⟨rfl,rfl,Nat.le_refl _,C,ty,0,0,hC,rfl,fun i v _ h=>?_,fun _ i _ _ _=>by omega,fun t h=>by cases h⟩
  simp at h
 obtain ⟨h1,h2⟩:=Xsf hR hb _ hN _ hb2
 refine ⟨h1,.tuple _ _ (.cons _ _ _ _ (X1b hx) (.cons _ _ _ _ (.iface _ _ _ (.ptr m.next 0 0 N 0 _ (Pmap.upd_same _ _ _) (Nat.le_refl _) fun _=>⟨rfl,Nat.le_refl _,rfl⟩)) .nil)),h2⟩
def dig:Nat→Nat→List UInt8→List UInt8
 | 0,_,acc=>acc
 | f + 1,n,acc=>match Nat.blt n 10 with | true=>UInt8.ofNat (48 + n) :: acc | false=>dig f (n / 10) (UInt8.ofNat (48 + n % 10) :: acc)
theorem Xqc:∀ (f n:Nat) (acc:List UInt8),n < 10 ^ f→1 ≤ f→dig f n acc=Lib.decDigits n ++ acc
 | 0,_,_,_,h=>by omega
 | f + 1,n,acc,h,_=>by
  rw [Lib.decDigits]
  by_cases hn:n < 10
  ·have:Nat.blt n 10=true:=by simp [Nat.blt,Nat.ble_eq]; omega
   simp only [dig,this,dif_pos hn]
   rfl
  ·have:Nat.blt n 10=false:=by
    cases hb:Nat.blt n 10
    ·rfl
    ·simp [Nat.blt,Nat.ble_eq] at hb; omega
   have hf:1 ≤ f:=by
    rcases Nat.eq_zero_or_pos f with rfl | hh
    ·simp at h; omega
    ·exact hh
   simp only [dig,this,dif_neg hn]
   rw [Xqc f (n / 10) _ (by rw [Nat.pow_succ] at h; omega) hf]
   simp
def Xw7 (n:Int):List UInt8:=match n with | .ofNat k=>dig 20 k [] | .negSucc k=>45 :: dig 20 (k + 1) []
theorem Xmm {n:Int} (h0:-9223372036854775808 ≤ n) (h1:n ≤ 9223372036854775807):Xw7 n=Lib.itoa n:=by
 cases n with
 | ofNat k =>
  have hk:(k:Int) ≤ 9223372036854775807:=h1
  show dig 20 k []=Lib.itoa (k:Int)
  rw [Xqc 20 k [] (by omega) (by omega),List.append_nil,Lib.itoa,if_neg (by omega),Int.toNat_natCast]
 | negSucc k =>
  have e:Int.negSucc k=-((k:Int) + 1):=by omega
  have hk:-((k:Int) + 1) ≥ -9223372036854775808:=by rw [← e]; exact h0
  show 45 :: dig 20 (k + 1) []=Lib.itoa (Int.negSucc k)
  rw [Xqc 20 (k + 1) [] (by omega) (by omega),List.append_nil,Lib.itoa,if_pos (by omega)]
  have:(Int.negSucc k).natAbs=k + 1:=rfl
  rw [this]
def Xb3 (n:Int):Bool:=match n with | .ofNat k=>Nat.blt k 9223372036854775808 | .negSucc k=>Nat.blt k 9223372036854775808
theorem Xe8 {n:Int} (h:Xb3 n=true):-9223372036854775808 ≤ n∧n ≤ 9223372036854775807:=by
 cases n with
 | ofNat k =>
  simp [Xb3,Nat.blt,Nat.ble_eq] at h
  constructor <;> (show _ ≤ _; simp only [Int.ofNat_eq_natCast]; omega)
 | negSucc k =>
  simp [Xb3,Nat.blt,Nat.ble_eq] at h
  constructor <;> omega
def Xmo (f0:FuncId):Over:=fun f args m=>match args with
 | [.int .i64 n]=>if f=f0∧Xb3 n=true then some (.string ⟨(Xw7 n).toArray⟩,m) else none
 | _=>none
theorem Xpg {f0:FuncId} {fn:Func} {c:Code} (hf:P.funcs[f0]?=some fn) (hb:fn.body=some c) (hn:(fn.name == "runtime.NumGoroutine")=false) (htab:Lib.TabIs P W0 "internal/strconv.uint64pow10" .u64 Lib.pow10Tab)
  (hc:∀ (n:Int) (w:World),-9223372036854775808 ≤ n→n ≤ 9223372036854775807→Lib.TabIs P w "internal/strconv.uint64pow10" .u64 Lib.pow10Tab→Calls P f0 #[.int .i64 n] w fun e w'=>e=.returned (.string ⟨(Lib.itoa n).toArray⟩)∧Below w.heap.size w w'):X14 P W0 (Xmo f0):=by
 intro φ m w f args cargs v m' hR hB hA hg
 simp only [Xmo] at hg
 split at hg
 ·rename_i n
  split at hg
  ·rename_i h
   obtain ⟨rfl,hi⟩:=h
   simp only [Option.some.injEq,Prod.mk.injEq] at hg
   obtain ⟨rfl,rfl⟩:=hg
   obtain ⟨c1,rfl,h1⟩:=hA.ints1
   cases h1.nils
   obtain ⟨q1,q2⟩:=Xe8 hi
   rw [Xmm q1 q2]
   exact X3b (enters hf hb hn _ _) (hc n w q1 q2 (Xhg hB htab)) hR (.string _)
  ·cases hg
 ·cases hg
def errV (x:Value) (T:TypeId) (m:Mem):Option Rs:=some (.tuple #[x,.iface T (.pointer (some ⟨m.next,0,some 0⟩))],m.push (.cells [] 0 0 false none))
def Xml (f0:FuncId) (T:TypeId):Over:=fun f args m=>match args with
 | [.string s]=>if f=f0∧s.size ≤ 281474976710656 then (match Lib.atoiAll s.data.toList with
   | .ok v=>some (.tuple #[.int .i64 v,.nilIface],m)
   | Lib.NumEnd.syntax=>errV (.int .i64 0) T m
   | .range=>errV (.int .i64 (Lib.atoiSat s.data.toList)) T m) else none
 | _=>none
theorem Xqr {f0:FuncId} {T:TypeId} {fn:Func} {c:Code} (hf:P.funcs[f0]?=some fn) (hb:fn.body=some c) (hn:(fn.name == "runtime.NumGoroutine")=false)
  {V:World→Prop} (hV:∀ w,Below W0.heap.size W0 w→V w)
  (h1:∀ (s:ByteArray) (v:Int) (w:World),s.size ≤ 281474976710656→Lib.atoiAll s.data.toList=.ok v→Calls P f0 #[.string s] w fun e w'=>e=.returned (.tuple #[.int .i64 v,.nilIface])∧Below w.heap.size w w')
  (h2:∀ (s:ByteArray) (w:World),s.size ≤ 281474976710656→Lib.atoiAll s.data.toList=Lib.NumEnd.syntax→V w→Calls P f0 #[.string s] w fun e w'=>∃ N,e=.returned (.tuple #[.int .i64 0,.iface T (.pointer (some ⟨N,0,none⟩))])∧w.heap.size ≤ N∧(∃ C ty,w'.heap[N]?=some (.cells C ty (0,0)))∧Below w.heap.size w w')
  (h3:∀ (s:ByteArray) (w:World),s.size ≤ 281474976710656→Lib.atoiAll s.data.toList=.range→V w→Calls P f0 #[.string s] w fun e w'=>∃ N,e=.returned (.tuple #[.int .i64 (Lib.atoiSat s.data.toList),.iface T (.pointer (some ⟨N,0,none⟩))])∧w.heap.size ≤ N∧(∃ C ty,w'.heap[N]?=some (.cells C ty (0,0)))∧Below w.heap.size w w') :
  X14 P W0 (Xml f0 T):=by
 intro φ m w f args cargs v m' hR hB hA hg
 simp only [Xml] at hg
 split at hg
 ·rename_i s
  split at hg
  ·rename_i h
   obtain ⟨rfl,hs⟩:=h
   obtain ⟨c1,rfl,k1⟩:=hA.strings
   cases k1.nils
   split at hg
   ·rename_i u hu
    simp only [Option.some.injEq,Prod.mk.injEq] at hg
    obtain ⟨rfl,rfl⟩:=hg
    exact X3b (enters hf hb hn _ _) (h1 s u w hs hu) hR (.tuple _ _ (.cons _ _ _ _ (.int _ _) (.cons _ _ _ _ .nilIface .nil)))
   ·rename_i hu
    simp only [errV,Option.some.injEq,Prod.mk.injEq] at hg
    obtain ⟨rfl,rfl⟩:=hg
    exact X7j (enters hf hb hn _ _) rfl (h2 s w hs hu (hV w hB)) hR
   ·rename_i hu
    simp only [errV,Option.some.injEq,Prod.mk.injEq] at hg
    obtain ⟨rfl,rfl⟩:=hg
    exact X7j (enters hf hb hn _ _) rfl (h3 s w hs hu (hV w hB)) hR
  ·cases hg
 ·cases hg
def ovPu (f0:FuncId) (T:TypeId) (size:Int) (B:Nat):Over:=fun f args m=>match args with
 | [.string s,.int .i64 ba,.int .i64 sz]=>if f=f0∧s.size ≤ 281474976710656∧ba=10∧sz=size then (match Lib.parseUintB B s.data.toList with
   | .ok u=>some (.tuple #[.int .u64 u,.nilIface],m)
   | Lib.NumEnd.syntax=>errV (.int .u64 0) T m
   | .range=>errV (.int .u64 (2 ^ B - 1:Nat)) T m) else none
 | _=>none
theorem Xqn {f0:FuncId} {T:TypeId} {size:Int} {B:Nat} {fn:Func} {c:Code} (hf:P.funcs[f0]?=some fn) (hb:fn.body=some c) (hn:(fn.name == "runtime.NumGoroutine")=false)
  {V:World→Prop} (hV:∀ w,Below W0.heap.size W0 w→V w)
  (h1:∀ (s:ByteArray) (u:Nat) (w:World),s.size ≤ 281474976710656→Lib.parseUintB B s.data.toList=.ok u→Calls P f0 #[.string s,.int .i64 10,.int .i64 size] w fun e w'=>e=.returned (.tuple #[.int .u64 u,.nilIface])∧Below w.heap.size w w')
  (h2:∀ (s:ByteArray) (w:World),s.size ≤ 281474976710656→Lib.parseUintB B s.data.toList=Lib.NumEnd.syntax→V w→Calls P f0 #[.string s,.int .i64 10,.int .i64 size] w fun e w'=>∃ N,e=.returned (.tuple #[.int .u64 0,.iface T (.pointer (some ⟨N,0,none⟩))])∧w.heap.size ≤ N∧(∃ C ty,w'.heap[N]?=some (.cells C ty (0,0)))∧Below w.heap.size w w')
  (h3:∀ (s:ByteArray) (w:World),s.size ≤ 281474976710656→Lib.parseUintB B s.data.toList=.range→V w→Calls P f0 #[.string s,.int .i64 10,.int .i64 size] w fun e w'=>∃ N,e=.returned (.tuple #[.int .u64 (2 ^ B - 1:Nat),.iface T (.pointer (some ⟨N,0,none⟩))])∧w.heap.size ≤ N∧(∃ C ty,w'.heap[N]?=some (.cells C ty (0,0)))∧Below w.heap.size w w') :
  X14 P W0 (ovPu f0 T size B):=by
 intro φ m w f args cargs v m' hR hB hA hg
 simp only [ovPu] at hg
 split at hg
 ·rename_i s ba sz
  split at hg
  ·rename_i h
   obtain ⟨rfl,hs,rfl,rfl⟩:=h
   obtain ⟨c1,rfl,k1⟩:=hA.strings
   obtain ⟨c2,rfl,k2⟩:=k1.ints1
   obtain ⟨c3,rfl,k3⟩:=k2.ints1
   cases k3.nils
   split at hg
   ·rename_i u hu
    simp only [Option.some.injEq,Prod.mk.injEq] at hg
    obtain ⟨rfl,rfl⟩:=hg
    exact X3b (enters hf hb hn _ _) (h1 s u w hs hu) hR (.tuple _ _ (.cons _ _ _ _ (.int _ _) (.cons _ _ _ _ .nilIface .nil)))
   ·rename_i hu
    simp only [errV,Option.some.injEq,Prod.mk.injEq] at hg
    obtain ⟨rfl,rfl⟩:=hg
    exact X7j (enters hf hb hn _ _) rfl (h2 s w hs hu (hV w hB)) hR
   ·rename_i hu
    simp only [errV,Option.some.injEq,Prod.mk.injEq] at hg
    obtain ⟨rfl,rfl⟩:=hg
    exact X7j (enters hf hb hn _ _) rfl (h3 s w hs hu (hV w hB)) hR
  ·cases hg
 ·cases hg
def strsOf:List Value→Option (List ByteArray)
 | []=>some []
 | .string s :: r=>(match strsOf r with | some l=>some (s :: l) | none=>none)
 | _=>none
theorem Xev {φ:Pmap}:∀ {cs ccs:List Value} {l:List ByteArray},strsOf cs=some l→VRels φ cs ccs→ccs=l.map .string∧cs.length=l.length
 | [],_,l,h,hv=>by
  cases hv
  simp only [strsOf,Option.some.injEq] at h
  subst h
  exact ⟨rfl,rfl⟩
 | v :: r,_,l,h,hv=>by
  cases hv with
  | cons _ v' _ l' hv hl =>
   cases v with
   | string s =>
    simp only [strsOf] at h
    split at h
    ·rename_i l2 h2
     cases h
     obtain ⟨e1,e2⟩:=Xev h2 hl
     cases hv
     exact ⟨by rw [e1]; rfl,by simp [e2]⟩
    ·cases h
   | _=>cases h
def Xfx (l:List ByteArray) (sep:ByteArray):List UInt8:=Lib.join (l.map (·.data.toList)) sep.data.toList
def Xmc (f0:FuncId):Over:=fun f args m=>match args with
 | [.slice none 0 0,.string _]=>if f=f0 then some (.string ⟨#[]⟩,m) else none
 | [.slice (some a) n r,.string sep]=>if f=f0 then (match getCells m ⟨a.block,a.off,some (r / 2)⟩ n with
   | some cs=>(match strsOf cs with
    | some l=>(match Nat.ble n 140737488355328 && Nat.ble (Xfx l sep).length 140737488355328 with
     | true=>some (.string ⟨(Xfx l sep).toArray⟩,m)
     | false=>none)
    | none=>none)
   | none=>none) else none
 | _=>none
theorem Xrg {f0:FuncId} {fn:Func} {c:Code} (hf:P.funcs[f0]?=some fn) (hb:fn.body=some c) (hn:(fn.name == "runtime.NumGoroutine")=false)
  (h0:∀ (a:Option Addr) (c:Nat) (sep:ByteArray) (w:World),Calls P f0 #[.slice a 0 c,.string sep] w fun e w'=>e=.returned (.string ⟨#[]⟩)∧w'=w)
  (h1:∀ (bk o c:Nat) (xs:List ByteArray) (sep:ByteArray) (w:World),(∀ (j:Nat) x,xs[j]?=some x→w.cell? ⟨bk,o + j,none⟩=some (.string x))→bk < w.heap.size→xs.length ≤ 140737488355328→xs.length ≤ c →
   (Lib.join (xs.map (·.data.toList)) sep.data.toList).length ≤ 140737488355328 →
   Calls P f0 #[.slice (some ⟨bk,o,none⟩) xs.length c,.string sep] w fun e w'=>e=.returned (.string ⟨(Lib.join (xs.map (·.data.toList)) sep.data.toList).toArray⟩)∧Below w.heap.size w w'):X14 P W0 (Xmc f0):=by
 intro φ m w f args cargs v m' hR hB hA hg
 simp only [Xmc] at hg
 split at hg
 ·rename_i sep
  split at hg
  ·rename_i h
   subst h
   simp only [Option.some.injEq,Prod.mk.injEq] at hg
   obtain ⟨rfl,rfl⟩:=hg
   cases hA with
   | cons _ v' _ l' hv hl =>
    cases hv
    obtain ⟨c2,rfl,k2⟩:=hl.strings
    cases k2.nils
    exact X2q (enters hf hb hn _ _) (h0 none 0 sep w) hR (.string _)
  ·cases hg
 ·rename_i a n r sep
  split at hg
  ·rename_i h
   subst h
   split at hg
   ·rename_i cs hcs
    split at hg
    ·rename_i l hl
     split at hg
     ·rename_i hbd
      simp only [Option.some.injEq,Prod.mk.injEq] at hg
      obtain ⟨rfl,rfl⟩:=hg
      simp only [Bool.and_eq_true] at hbd
      have b1:=Nat.le_of_ble_eq_true hbd.1
      have b2:=Nat.le_of_ble_eq_true hbd.2
      cases hA with
      | cons _ v' _ l' hv hl' =>
       obtain ⟨c2,rfl,k2⟩:=hl'.strings
       cases k2.nils
       have hlen:cs.length=n:=by
        rw [Xw] at hcs; unfold X10 at hcs
        split at hcs
        ·split at hcs
         ·rename_i hh
          simp only [Bool.and_eq_true,decide_eq_true_eq] at hh
          simp only [Option.some.injEq] at hcs
          rw [← hcs]
          simp only [List.length_take,List.length_drop]
          have:=hh.2
          omega
         ·cases hcs
        ·cases hcs
       cases hv with
       | slice b o es _ t B O cap pl hbm hes hnc hr hpp =>
        by_cases hn0:n=0
        ·subst hn0
         have hl0:l=[]:=by
          cases cs with
          | nil=>simp only [strsOf,Option.some.injEq] at hl; exact hl.symm
          | cons x y=>simp at hlen
         subst hl0
         exact X2q (enters hf hb hn _ _) (h0 _ cap sep w) hR (.string _)
        ·have hcap:cap ≠ 0:=by omega
         have hp:VRel φ (.pointer (some ⟨b,o,some (r / 2)⟩)) (.pointer (some ⟨B,O,none⟩)):=by
          refine .ptr b o (r / 2) B O pl hbm hr fun e=>?_
          obtain ⟨q,_⟩:=hpp e
          rcases q with q | ⟨q1,q2,q3,_⟩
          ·exact absurd q hcap
          ·exact ⟨q1,q2,q3⟩
         obtain ⟨ccs,v1,v2,v3⟩:=X2o hR hp hcs
         obtain ⟨e1,e2⟩:=Xev hl v1
         have hll:l.length=n:=by rw [← e2]; exact hlen
         have hcell:∀ (j:Nat) x,l[j]?=some x→w.cell? ⟨B,O + j,none⟩=some (.string x):=by
          intro j x hj
          have:=v3 j (.string x) (by rw [e1,List.getElem?_map,hj]; rfl)
          rw [Addr.add_none] at this
          exact this
         have hB':B < w.heap.size:=by
          have h0:0 < l.length:=by omega
          have hc0:=hcell 0 l[0] (by simp)
          rcases Nat.lt_or_ge B w.heap.size with hh | hh
          ·exact hh
          ·unfold World.cell? at hc0
           simp only at hc0
           rw [Array.getElem?_eq_none hh] at hc0
           cases hc0
         have hcc:=h1 B O cap l sep w hcell hB' (by omega) (by omega) b2
         rw [hll] at hcc
         exact X3b (enters hf hb hn _ _) hcc hR (.string _)
     ·cases hg
    ·cases hg
   ·cases hg
  ·cases hg
 ·cases hg
end
end Go.Ab

namespace Go.Ab
noncomputable section
open Go
variable {P:Program} {W0:World}
def Tr.All {α:Type} (p:α→Prop):Tr α→Prop
 | .nil=>True
 | .node v l r=>(match v with | some x=>p x | none=>True)∧l.All p∧r.All p
theorem Tr.All.get {α:Type} {p:α→Prop}:∀ {t:Tr α},t.All p→∀ {k:Nat} {x:α},t.get k=some x→p x
 | .nil,_,k,x,h=>by simp [Tr.get_nil] at h
 | .node v l r,ha,k,x,h=>by
  simp only [Tr.get_node,X4m] at h
  split at h
  ·have h1:=ha.1
   rw [h] at h1
   exact h1
  ·split at h
   ·exact ha.2.1.get h
   ·exact ha.2.2.get h
def ovTr (t:Tr Over):Over:=fun f args m=>Option.rec none (fun o=>o f args m) (t.get (Nat.succ f))
theorem Xjx (t:Tr Over) (f:FuncId) (args:List Value) (m:Mem):ovTr t f args m=match t.get (f + 1) with | some o=>o f args m | none=>none:=by
 show (Option.rec none (fun o=>o f args m) (t.get (f + 1)):Option Rs)=_
 cases t.get (f + 1) <;> rfl
theorem Xpu {t:Tr Over} (h:t.All (X14 P W0)):X14 P W0 (ovTr t):=by
 intro φ m w f args cargs v m' hR hB hA hg
 simp only [Xjx] at hg
 split at hg
 ·rename_i o ho
  exact h.get ho φ m w f args cargs v m' hR hB hA hg
 ·cases hg
theorem Tr.All.e {α:Type} {p:α→Prop}:(Tr.nil:Tr α).All p:=trivial
theorem Tr.All.n {α:Type} {p:α→Prop} {l r:Tr α} (hl:l.All p) (hr:r.All p):(Tr.node none l r).All p:=⟨trivial,hl,hr⟩
theorem Tr.All.s {α:Type} {p:α→Prop} {x:α} {l r:Tr α} (hx:p x) (hl:l.All p) (hr:r.All p):(Tr.node (some x) l r).All p:=⟨hx,hl,hr⟩
end
end Go.Ab

namespace Go.Ab
noncomputable section
open Go
def ixB:List UInt8→Nat→Nat→Option Nat
 | [],_,_=>none
 | b :: l,c,i=>match Nat.beq b.toNat c with | true=>some i | false=>Xa2 (i + 1) fun i=>ixB l c i
theorem Xuh (c:UInt8):∀ (l:List UInt8) (i:Nat),ixB l c.toNat i=if Lib.indexByte l c=-1 then none else some (i + (Lib.indexByte l c).toNat)
 | [],i=>by simp [ixB,Lib.indexByte]
 | b :: l,i=>by
  have hge:=Lib.indexByte_ge l c
  simp only [ixB,nbeq,X41]
  by_cases h:b=c
  ·subst h
   simp [Lib.indexByte]
  ·have hn:¬ b.toNat=c.toNat:=fun x=>h (UInt8.toNat_inj.mp x)
   have hb:(b == c)=false:=by simpa using h
   simp only [hn,decide_false,Xuh c l,Lib.indexByte,hb,Bool.false_eq_true,if_false]
   by_cases h1:Lib.indexByte l c=-1
   ·simp [h1]
   ·have hb1:(Lib.indexByte l c == -1)=false:=by simpa using h1
    have h2:¬ Lib.indexByte l c + 1=-1:=by omega
    simp only [h1,hb1,h2,if_false,Bool.false_eq_true,Option.some.injEq]
    omega
def Xdn (s:List UInt8) (c:Int):Value:=Xa2 (c.toNat % 256) fun c=>match ixB s c 0 with | some i=>.int .i64 (.ofNat i) | none=>.int .i64 (.negSucc 0)
theorem Xfh (s:List UInt8) (c:Int):Xdn s c=.int .i64 (Lib.indexByte s c.toNat.toUInt8):=by
 have e:c.toNat % 256=c.toNat.toUInt8.toNat:=by simp
 have hge:=Lib.indexByte_ge s c.toNat.toUInt8
 unfold Xdn
 rw [X41,e,Xuh]
 by_cases h:Lib.indexByte s c.toNat.toUInt8=-1
 ·rw [if_pos h,h]; rfl
 ·rw [if_neg h]
  simp only [Nat.zero_add]
  congr 1
  show ((Lib.indexByte s c.toNat.toUInt8).toNat:Int)=_
  omega
def cntB:List UInt8→Nat→Nat→Nat
 | [],_,n=>n
 | b :: l,c,n=>match Nat.beq b.toNat c with | true=>Xa2 (n + 1) fun n=>cntB l c n | false=>cntB l c n
theorem Xrx (c:UInt8):∀ (l:List UInt8) (n:Nat),cntB l c.toNat n=n + Lib.countByte l c
 | [],n=>by simp [cntB,Lib.countByte]
 | b :: l,n=>by
  have ih:=fun n=>Xrx c l n
  simp only [Lib.countByte] at ih ⊢
  simp only [cntB,nbeq,X41,ih,List.count_cons]
  by_cases h:b=c
  ·subst h; simp; omega
  ·have hn:¬ b.toNat=c.toNat:=fun x=>h (UInt8.toNat_inj.mp x)
   simp [hn,h]
def cntF (l:List UInt8) (c:UInt8):Nat:=Xa2 c.toNat fun c=>cntB l c 0
theorem Xqs:cntF=Lib.countByte:=by
 funext l c
 unfold cntF
 rw [X41,Xrx,Nat.zero_add]
def preB:List UInt8→List UInt8→Bool
 | [],_=>true
 | _ :: _,[]=>false
 | a :: p,b :: l=>match Nat.beq a.toNat b.toNat with | true=>preB p l | false=>false
theorem Xqu:∀ (p l:List UInt8),preB p l=p.isPrefixOf l
 | [],_=>by simp [preB]
 | _ :: _,[]=>by simp [preB]
 | a :: p,b :: l=>by
  simp only [preB,nbeq,List.isPrefixOf,Xqu p l]
  by_cases h:a=b
  ·subst h; simp
  ·have hn:¬ a.toNat=b.toNat:=fun x=>h (UInt8.toNat_inj.mp x)
   simp [hn,h]
def ixS (sub:List UInt8):List UInt8→Nat→Option Nat
 | [],i=>(match sub with | []=>some i | _ :: _=>none)
 | b :: l,i=>match preB sub (b :: l) with | true=>some i | false=>Xa2 (i + 1) fun i=>ixS sub l i
theorem Xuc (sub:List UInt8):∀ (l:List UInt8) (i:Nat),ixS sub l i=if Lib.index l sub=-1 then none else some (i + (Lib.index l sub).toNat)
 | [],i=>by cases sub <;> simp [ixS,Lib.index]
 | b :: l,i=>by
  have hge:=Lib.index_ge l sub
  simp only [ixS,Xqu,X41,Xuc sub l,Lib.index]
  by_cases hp:sub.isPrefixOf (b :: l)=true
  ·simp only [hp,if_true]
   simp
  ·have hf:sub.isPrefixOf (b :: l)=false:=Bool.eq_false_iff.mpr hp
   simp only [hf,Bool.false_eq_true,if_false]
   by_cases h1:Lib.index l sub=-1
   ·simp [h1]
   ·have hb1:(Lib.index l sub == -1)=false:=by simpa using h1
    have h2:¬ Lib.index l sub + 1=-1:=by omega
    simp only [h1,hb1,h2,if_false,Bool.false_eq_true,Option.some.injEq]
    omega
def ixF (s sub:List UInt8):Int:=match ixS sub s 0 with | some i=>.ofNat i | none=>.negSucc 0
theorem Xup:ixF=Lib.index:=by
 funext s sub
 have hge:=Lib.index_ge s sub
 unfold ixF
 rw [Xuc]
 by_cases h:Lib.index s sub=-1
 ·rw [if_pos h,h]; rfl
 ·rw [if_neg h]
  simp only [Nat.zero_add]
  show ((Lib.index s sub).toNat:Int)=_
  omega
end
end Go.Ab

namespace Go.Ab
noncomputable section
open Go
variable {P:Program} {W0:World}
structure Fr (W:List Nat) (m m':Mem):Prop where
 next:m.next ≤ m'.next
 low:m'.low ≤ m.low
 low2:∀ x,x ≤ m.low→x ≤ m.next→(∀ w ∈ W,x ≤ w)→x ≤ m'.low
 get:∀ b,b < m.next→b ∉ W→m'.get b=m.get b
 lo:∀ b,b < m.next→m'.low ≤ b∨m'.get b=m.get b
theorem Fr.refl (W:List Nat) (m:Mem):Fr W m m:=⟨Nat.le_refl _,Nat.le_refl _,fun _ h _ _=>h,fun _ _ _=>rfl,fun _ _=>.inr rfl⟩
theorem Fr.trans {W:List Nat} {m m1 m2:Mem} (h:Fr W m m1) (k:Fr W m1 m2):Fr W m m2 where
 next:=Nat.le_trans h.next k.next
 low:=Nat.le_trans k.low h.low
 low2:=fun x h1 h2 h3=>k.low2 x (h.low2 x h1 h2 h3) (Nat.le_trans h2 h.next) h3
 get:=fun b h1 h2=>by rw [k.get b (Nat.lt_of_lt_of_le h1 h.next) h2,h.get b h1 h2]
 lo:=fun b h1=>by
  rcases k.lo b (Nat.lt_of_lt_of_le h1 h.next) with q | q
  ·exact .inl q
  ·rcases h.lo b h1 with q2 | q2
   ·exact .inl (Nat.le_trans k.low q2)
   ·exact .inr (q.trans q2)
theorem Fr.push {W:List Nat} {m:Mem} (o:AObj):Fr W m (m.push o) where
 next:=Nat.le_succ _
 low:=Nat.le_refl _
 low2:=fun _ h _ _=>h
 get:=fun b h _=>by rw [Mem.get_push,if_neg (by omega)]
 lo:=fun b h=>.inr (by rw [Mem.get_push,if_neg (by omega)])
theorem Fr.put {W:List Nat} {m m1:Mem} (h:Fr W m m1) {b:Nat} (o:AObj) (hb:b ∈ W∨m.next ≤ b):Fr W m (m1.put b o) where
 next:=by rw [Mem.next_put]; exact h.next
 low:=by rw [Mem.low_put]; exact Nat.le_trans (Nat.min_le_left _ _) h.low
 low2:=fun x h1 h2 h3=>by
  rw [Mem.low_put]
  have:=h.low2 x h1 h2 h3
  rcases hb with hb | hb
  ·have:=h3 b hb; omega
  ·omega
 get:=fun c h1 h2=>by
  rw [Mem.get_put,if_neg ?_,h.get c h1 h2]
  rcases hb with hb | hb
  ·intro e; subst e; exact h2 hb
  ·omega
 lo:=fun c h1=>by
  rw [Mem.low_put,Mem.get_put]
  by_cases e:b=c
  ·subst e; exact .inl (Nat.min_le_right _ _)
  ·rw [if_neg e]
   rcases h.lo c h1 with q | q
   ·exact .inl (Nat.le_trans (Nat.min_le_left _ _) q)
   ·exact .inr q
theorem Fr.meq {W:List Nat} {m m1 m2:Mem} (h:Fr W m m1) (e:MEq m1 m2):Fr W m m2 where
 next:=by rw [e.next]; exact h.next
 low:=by rw [e.low]; exact h.low
 low2:=fun x h1 h2 h3=>by rw [e.low]; exact h.low2 x h1 h2 h3
 get:=fun b h1 h2=>by rw [e.get]; exact h.get b h1 h2
 lo:=fun b h1=>by rw [e.low,e.get]; exact h.lo b h1
theorem Fr.call {W:List Nat} {m m1:Mem} (v:Value) (h:Fr W (withLow m m.next) m1) :
  ∃ m2,gc m v m1=(v,m2)∧Fr W m m2∧m2.next ≤ m1.next∧(∀ b,b < m.next→m2.get b=m1.get b):=by
 rw [Xhc]; unfold gcO
 cases hc:Nat.ble m.next m1.low && refs m.next 8 v
 ·refine ⟨withLow m1 (min m.low m1.low),rfl,⟨h.next,Nat.min_le_left _ _,fun x h1 h2 h3=>?_,h.get,fun b hb=>?_⟩,Nat.le_refl _,fun b hb=>rfl⟩
  ·have:=h.low2 x h2 h2 h3
   show x ≤ min m.low m1.low
   omega
  ·rcases h.lo b hb with q | q
   ·exact .inl (Nat.le_trans (Nat.min_le_right _ _) q)
   ·exact .inr q
 ·simp only [Bool.and_eq_true] at hc
  have hlow:=Nat.le_of_ble_eq_true hc.1
  refine ⟨m,rfl,.refl _ _,h.next,fun b hb=>?_⟩
  rcases h.lo b hb with q | q
  ·omega
  ·exact q.symm
end
end Go.Ab

namespace Go.Ab
noncomputable section
open Go
theorem Xco (c' r:Nat) (l:List (Nat × Nat)) (c:Nat):lkL ((c',r) :: l) c=if c'=c then some r else lkL l c:=by
 show (Bool.rec (lkL l c) (some r) (Nat.beq c' c):Option Nat)=_
 rw [nbeq]
 by_cases h:c'=c <;> simp [h]
theorem Xez (c' r:Nat):∀ (l:List (Nat × Nat)) (c:Nat),lkL (l ++ [(c',r)]) c=match lkL l c with | some x=>some x | none=>if c'=c then some r else none
 | [],c=>by rw [List.nil_append,Xco]; rfl
 | (d,x) :: l,c=>by
  rw [List.cons_append,Xco,Xco,Xez c' r l c]
  by_cases h:d=c <;> simp [h]
theorem Xjs (t:Tr (List (Nat × Nat))) (c:Nat):lkT t c=match t.get (256 + c % 251) with | some l=>lkL l c | none=>none:=by
 show (Option.rec none (fun l=>lkL l c) (t.get (256 + c % 251)):Option Nat)=_
 cases t.get (256 + c % 251) <;> rfl
def bkt (t:Tr (List (Nat × Nat))) (c:Nat):List (Nat × Nat):=Option.rec [] (fun l=>l) (t.get (Nat.add 256 (Nat.mod c 251)))
theorem Xv9 {t:Tr (List (Nat × Nat))} {c r:Nat} (h:lkT t c=none) (c':Nat) :
  lkT (Tr.put (Nat.add 256 (Nat.mod c 251)) t (Nat.add 256 (Nat.mod c 251)) ((c,r) :: bkt t c)) c'=if c=c' then some r else lkT t c':=by
 rw [Xjs]
 show (match (Tr.put (256 + c % 251) t (256 + c % 251) ((c,r) :: bkt t c)).get (256 + c' % 251) with | some l=>lkL l c' | none=>none)=_
 rw [Tr.get_put _ _ _ _ _ (by omega) (by omega) (Nat.le_refl _)]
 by_cases e:256 + c % 251=256 + c' % 251
 ·rw [if_pos e]
  simp only
  rw [Xco]
  by_cases e2:c=c'
  ·rw [if_pos e2,if_pos e2]
  ·rw [if_neg e2,if_neg e2,Xjs,← e]
   unfold bkt
   show lkL (Option.rec [] (fun l=>l) (t.get (256 + c % 251))) c'=_
   cases t.get (256 + c % 251) <;> rfl
 ·rw [if_neg e,if_neg (fun x=>e (by rw [x])),Xjs]
def TB.look (T:TB) (c:Nat):Option Nat:=TB.rec (motive:=fun _=>Option Nat) (fun _ _ t _=>lkT t c) T
theorem TB.wf_ins {l:List (Nat × Nat)} {n:Nat} {t:Tr (List (Nat × Nat))} (wf:(∀ c,lkT t c=lkL l.reverse c)∧n=l.length) (c r:Nat) (h:lkT t c=none) :
  (∀ c',lkT (Tr.put (Nat.add 256 (Nat.mod c 251)) t (Nat.add 256 (Nat.mod c 251)) ((c,r) :: bkt t c)) c'=lkL ((c,r) :: l).reverse c')∧Nat.succ n=((c,r) :: l).length:=by
 refine ⟨fun c'=>?_,by rw [List.length_cons,wf.2]⟩
 rw [Xv9 h,List.reverse_cons,Xez,← wf.1]
 by_cases e:c=c'
 ·subst e; simp [h]
 ·simp only [if_neg e]
  cases lkT t c' <;> rfl
def TB.ins (T:TB) (c r:Nat):Option TB:=
 X4a c fun c=>X4a r fun r=>TB.rec (motive:=fun _=>Option TB) (fun l n t wf=>Option.rec (motive:=fun o=>lkT t c=o→Option TB)
  (fun h=>some ⟨(c,r) :: l,Nat.succ n,Tr.put (Nat.add 256 (Nat.mod c 251)) t (Nat.add 256 (Nat.mod c 251)) ((c,r) :: bkt t c),TB.wf_ins wf c r h⟩) (fun _ _=>none) (lkT t c) rfl) T
theorem TB.ins_some {T T':TB} {c r:Nat} (h:T.ins c r=some T'):T.look c=none∧T'.l=(c,r) :: T.l∧T'.n=T.n + 1:=by
 unfold TB.ins at h
 rw [X3d,X3d] at h
 cases T with
 | mk l n t wf =>
  have aux:∀ (o:Option Nat) (e:lkT t c=o),(Option.rec (motive:=fun o=>lkT t c=o→Option TB)
   (fun h=>some ⟨(c,r) :: l,Nat.succ n,Tr.put (Nat.add 256 (Nat.mod c 251)) t (Nat.add 256 (Nat.mod c 251)) ((c,r) :: bkt t c),TB.wf_ins wf c r h⟩) (fun _ _=>none) o e:Option TB)=some T'→lkT t c=none∧T'.l=(c,r) :: l∧T'.n=n + 1:=by
   intro o e h
   cases o with
   | some _=>cases h
   | none=>cases h; exact ⟨e,rfl,rfl⟩
  exact aux (lkT t c) rfl h
def TB.nil:TB:=⟨[],0,.nil,fun _=>rfl,rfl⟩
theorem Xv3 (H x:Nat):bitN H x=H.testBit x:=by
 unfold bitN
 rw [Nat.testBit_eq_decide_div_mod_eq,nbeq,← Nat.shiftRight_eq_div_pow]
 rfl
theorem SB.wf_add {l:List Nat} {n H:Nat} (wf:(∀ x,bitN H x=l.contains x)∧n=l.length) (x:Nat):(∀ y,bitN (Nat.lor H (Nat.pow 2 x)) y=(x :: l).contains y)∧Nat.succ n=(x :: l).length:=by
 refine ⟨fun y=>?_,by rw [List.length_cons,wf.2]⟩
 have:=wf.1 y
 rw [Xv3] at this ⊢
 show (H ||| 2 ^ x).testBit y=_
 rw [Nat.testBit_or,this,Nat.testBit_two_pow,List.contains_cons]
 by_cases e:x=y
 ·subst e; simp
 ·have e2:¬ y=x:=fun h=>e h.symm
  simp [e,e2]
def SB.has (S:SB) (x:Nat):Bool:=SB.rec (motive:=fun _=>Bool) (fun _ _ _ H _=>bitN H x) S
def SB.add (S:SB) (x:Nat):SB:=
 X4a x fun x=>SB.rec (motive:=fun _=>SB) (fun k l n H wf=>Bool.rec ⟨k,x :: l,Nat.succ n,Nat.lor H (Nat.pow 2 x),SB.wf_add wf x⟩ ⟨k,l,n,H,wf⟩ (bitN H x)) S
theorem SB.add_has {S:SB} {x:Nat} (h:S.has x=true):S.add x=S:=by
 unfold SB.add
 rw [X3d]
 cases S with
 | mk k l n H wf =>
  have h:bitN H x=true:=h
  simp only [h]
theorem SB.add_new {S:SB} {x:Nat} (h:S.has x=false):(S.add x).k=S.k∧(S.add x).l=x :: S.l∧(S.add x).n=S.n + 1:=by
 unfold SB.add
 rw [X3d]
 cases S with
 | mk k l n H wf =>
  have h:bitN H x=false:=h
  simp only [h]
  exact ⟨trivial,trivial,trivial⟩
theorem SB.k_add (S:SB) (x:Nat):(S.add x).k=S.k:=by
 cases h:S.has x
 ·exact (SB.add_new h).1
 ·rw [SB.add_has h]
def ndP (N n x:Nat):Nat:=X4a (Nat.mul 48 n) fun s=>Nat.add (Nat.mod N (Nat.shiftLeft 1 s)) (Nat.shiftLeft x s)
def cod (a b c:Nat):Nat:=Nat.add a (Nat.add (Nat.mul b 65536) (Nat.mul c 4294967296))
end
end Go.Ab

namespace Go.Ab
noncomputable section
open Go
def bI {α:Type} (c:Bool) (t e:α):α:=Bool.rec e t c
structure ASt where
 N:Nat
 n:Nat
 ver:Nat
 B:TB
 I:TB
inductive MkR:ASt→Nat→Nat→Nat→Nat→ASt→Prop where
 | same (s:ASt) (v lo:Nat):MkR s v lo lo lo s
 | old (s:ASt) (v lo hi i:Nat) (hne:lo ≠ hi) (hv:v < 65536) (hlo:lo < 65536) (hhi:hi < 65536) (hl:s.B.look (cod v lo hi)=some i):MkR s v lo hi i s
 | new (s:ASt) (v lo hi:Nat) (B':TB) (hne:lo ≠ hi) (hv:v < 65536) (hlo:lo < 65536) (hhi:hi < 65536) (hl:s.B.look (cod v lo hi)=none) (hn:s.n < 65535) (hi':s.B.ins (cod v lo hi) s.n=some B') :
   MkR s v lo hi s.n ⟨ndP s.N s.n (cod v lo hi),s.n + 1,s.ver + 1,B',s.I⟩
def cutP (N f v:Nat) (b:Bool):Nat:=bI (Nat.beq (ndc N (Nat.mul 3 f)) v) (bI b (ndc N (Nat.add (Nat.mul 3 f) 2)) (ndc N (Nat.add (Nat.mul 3 f) 1))) f
def minP (a b:Nat):Nat:=bI (Nat.blt b a) b a
inductive IteR:ASt→Nat→Nat→Nat→Nat→ASt→Prop where
 | a (s:ASt) (f g h:Nat) (hc:f=1∨g=h):IteR s f g h g s
 | b (s:ASt) (g h:Nat) (h2:g ≠ h):IteR s 0 g h h s
 | c (s:ASt) (f:Nat) (h1:f ≠ 1) (h3:f ≠ 0):IteR s f 1 0 f s
 | d (s:ASt) (f g h r:Nat) (h1:f ≠ 1) (h2:g ≠ h) (h3:f ≠ 0) (h4:¬ (g=1∧h=0)) (hf:f < s.n) (hg:g < s.n) (hh:h < s.n) (hn:s.n ≤ 65536) (hl:s.I.look (cod f g h)=some r):IteR s f g h r s
 | e (s s1 s2 s3:ASt) (f g h v lo hi r:Nat) (I4:TB) (h1:f ≠ 1) (h2:g ≠ h) (h3:f ≠ 0) (h4:¬ (g=1∧h=0)) (hf:f < s.n) (hg:g < s.n) (hh:h < s.n) (hn:s.n ≤ 65536) (hl:s.I.look (cod f g h)=none)
   (hv:v=minP (minP (ndc s.N (3 * f)) (ndc s.N (3 * g))) (ndc s.N (3 * h)))
   (k1:IteR s (cutP s.N f v false) (cutP s.N g v false) (cutP s.N h v false) lo s1) (hn1:s.n ≤ s1.n)
   (k2:IteR s1 (cutP s1.N f v true) (cutP s1.N g v true) (cutP s1.N h v true) hi s2) (k3:MkR s2 v lo hi r s3) (k4:s3.I.ins (cod f g h) r=some I4) :
   IteR s f g h r ⟨s3.N,s3.n,s3.ver,s3.B,I4⟩
end
end Go.Ab

namespace Go.Ab
noncomputable section
open Go
def SB.nil (k:IntKind):SB:=⟨k,[],0,0,fun x=>by unfold bitN; show Nat.beq ((0 >>> x) % 2) 1=_; rw [Nat.zero_shiftRight]; rfl,rfl⟩
def SB.num (S:SB):Nat:=SB.rec (motive:=fun _=>Nat) (fun _ _ n _ _=>n) S
inductive GR (N n:Nat) (H:SB):SB→Nat→SB→Prop where
 | seen (Z:SB) (f:Nat) (h1:Z.has f=true):GR N n H Z f Z
 | held (Z:SB) (f:Nat) (h1:Z.has f=false) (h2:H.has f=true):GR N n H Z f Z
 | go (Z Z1 Z2:SB) (f:Nat) (h1:Z.has f=false) (h2:H.has f=false) (hf:f < n) (hz:Z.l.length < 100000) (k1:GR N n H (Z.add f) (ndc N (3 * f + 1)) Z1) (k2:GR N n H Z1 (ndc N (3 * f + 2)) Z2):GR N n H Z f Z2
def SB.lst (S:SB):List Nat:=SB.rec (motive:=fun _=>List Nat) (fun _ l _ _ _=>l) S
def Z0:SB:=SB.add (SB.add (SB.nil .i32) 0) 1
inductive GiveR (N n most:Nat) (G H:SB) (f:Nat):SB→SB→Prop where
 | mk (Z:SB) (hn:n ≤ 65536) (hf:f < 65536) (hh:H.l.length < 100000) (hw:GR N n H Z0 f Z) (hm:H.l.length + (Z.l.length - 2) ≤ most) :
   GiveR N n most G H f (G.add f) ((Z.l.take (Z.l.length - 2)).foldr (fun g H=>H.add g) H)
theorem GR.more {N n:Nat} {H Z Z':SB} {f:Nat} (h:GR N n H Z f Z'):∃ F,Z'.l=F ++ Z.l∧Z'.k=Z.k:=by
 induction h with
 | seen=>exact ⟨[],rfl,rfl⟩
 | held=>exact ⟨[],rfl,rfl⟩
 | go Z Z1 Z2 f h1 h2 hf hz k1 k2 ih1 ih2 =>
  obtain ⟨F1,e1,e2⟩:=ih1
  obtain ⟨F2,e3,e4⟩:=ih2
  exact ⟨F2 ++ F1 ++ [f],by rw [e3,e1,(SB.add_new h1).2.1]; simp,by rw [e4,e2,SB.k_add]⟩
theorem GR.len {N n:Nat} {H Z Z':SB} {f:Nat} (h:GR N n H Z f Z'):Z'.l.length ≤ max Z.l.length 100000:=by
 induction h with
 | seen=>omega
 | held=>omega
 | go Z Z1 Z2 f h1 h2 hf hz k1 k2 ih1 ih2 =>
  rw [(SB.add_new h1).2.1,List.length_cons] at ih1
  omega
end
end Go.Ab

namespace Go.Ab
noncomputable section
open Go
theorem X4 {α:Type} {v:Value} {m:Mem} {k:Value→Mem→Option α}:bp (pur (some v) m) k=k v m:=Eq.trans rfl rfl
theorem Xp {α:Type} {m':Mem} {k:Value→Mem→Option α}:bp (unt (some m')) k=k undef m':=Eq.trans rfl rfl
theorem X6 {α:Type} {v:Value} {m:Mem} {k:Value→Mem→Option α}:bp (some (v,m)) k=k v m:=Eq.trans rfl rfl
theorem Xc {α:Type} {a b:Option α}:brb (.bool true) a b=a:=Eq.trans rfl rfl
theorem Xa {α:Type} {a b:Option α}:brb (.bool false) a b=b:=Eq.trans rfl rfl
theorem X2c {α:Type} {x:Option α}:ckB true x=x:=Eq.trans rfl rfl
abbrev pt (b o r:Nat):Value:=.pointer (some ⟨b,o,some r⟩)
abbrev i32 (n:Nat):Value:=.int .i32 (Int.ofNat n)
theorem Xj (b o r:Nat):X5 (pt b o r)=some (pt b o r):=Eq.trans rfl rfl
theorem Xe (k b o r:Nat):X3 k (pt b o r)=some (pt b (o + k) r):=Eq.trans rfl rfl
theorem X17 {m:Mem} {b o ver fro:Nat} {c:List Value} {ro:Bool} {ty:Option Nat} {v:Value} (h:m.get b=some (.cells c ver fro ro ty)) (hv:c[o]?=some v):X7 false 1 (pt b o ver) m=some v:=by
 have hlt:o < c.length:=(List.getElem?_eq_some_iff.mp hv).1
 rw [Xdc]
 simp only [Xi8,h,X1h,decide_true,Xgz]
 exact hv
theorem Xx {m:Mem} {b o ver fro n:Nat} {c cs:List Value} {ro:Bool} {ty:Option Nat} (h:m.get b=some (.cells c ver fro ro ty)) (hv:o + n ≤ c.length) (hc:(c.drop o).take n=cs):X7 true n (pt b o ver) m=some (.agg ⟨cs⟩):=by
 rw [Xdc]
 simp [Xi8,h,Xw,X10,hv,hc]
theorem Xs1 {r:Raw} {c:List Value} {ver fro off:Nat} {ty:Option Nat} {vs:List Value} (h:r.norm=.cells c ver fro false ty) (hf:fro ≤ off) (ho:off + vs.length ≤ c.length) (h1:vs.all one=true):∃ r',X6z r off (some ver) vs=some r':=by
 cases r with
 | plain o =>
  have h:o=.cells c ver fro false ty:=h
  subst h
  refine ⟨.plain (.cells (c.take off ++ vs ++ c.drop (off + vs.length)) ver fro false ty),?_⟩
  show (Bool.rec none (Bool.rec none (Bool.rec none (Option.rec none (fun c'=>some (.plain (.cells c' ver fro false ty))) (setR vs c off)) (X4c vs)) (Nat.ble fro off)) (X1m (some ver) ver):Option Raw)=_
  rw [X1h,nble,X3m,Xb5,Xbp]
  simp only [hf,ho,h1,decide_true,if_true]
 | arr t n ver' fro' ro ty' =>
  have h:AObj.cells (X4r t n) ver' fro' ro ty'=.cells c ver fro false ty:=h
  cases h
  refine ⟨.arr (Xau vs off t) n ver fro false ty,?_⟩
  rw [X2e] at ho
  show (Bool.rec none (Bool.rec none (Bool.rec none (Bool.rec none (some (.arr (Xau vs off t) n ver fro false ty)) (Nat.ble (off + lenA vs 0) n)) (X4c vs)) (Nat.ble fro off)) (X1m (some ver) ver):Option Raw)=_
  rw [X1h,nble,X3m,X4u,nble,Nat.add_zero]
  simp only [hf,ho,h1,decide_true]
 | sp s =>
  have h:s.norm=.cells c ver fro false ty:=h
  refine ⟨.plain (.cells (c.take off ++ vs ++ c.drop (off + vs.length)) ver fro false ty),?_⟩
  show (Xc7 (some s.norm) fun c ver' fro ro ty=>(Bool.rec (Bool.rec none (Bool.rec none (Bool.rec none (Option.rec none (fun c'=>some (.plain (.cells c' ver' fro false ty))) (setR vs c off)) (X4c vs)) (Nat.ble fro off)) (X1m (some ver) ver')) none ro:Option Raw))=_
  rw [h]
  show (Bool.rec none (Bool.rec none (Bool.rec none (Option.rec none (fun c'=>some (.plain (.cells c' ver fro false ty))) (setR vs c off)) (X4c vs)) (Nat.ble fro off)) (X1m (some ver) ver):Option Raw)=_
  rw [X1h,nble,X3m,Xb5,Xbp]
  simp only [hf,ho,h1,decide_true,if_true]
theorem Xjm {m:Mem} {b off ver fro:Nat} {c:List Value} {ty:Option Nat} {vs:List Value} (h:m.get b=some (.cells c ver fro false ty)) (hf:fro ≤ off) (ho:off + vs.length ≤ c.length) (h1:vs.all one=true) :
  ∃ m',setCells m ⟨b,off,some ver⟩ vs=some m':=by
 rw [Mem.get_def] at h
 cases hr:m.tr.get (b + 1) with
 | none=>rw [hr] at h; cases h
 | some r =>
  rw [hr] at h
  simp only [Option.map_some,Option.some.injEq] at h
  obtain ⟨r',k⟩:=Xs1 h hf ho h1
  refine ⟨m.putR b r',?_⟩
  show (Option.rec none (fun r=>Option.rec none (fun r'=>some (m.putR b r')) (X6z r off (some ver) vs)) (m.tr.get (b + 1)):Option Mem)=_
  rw [hr]
  show (Option.rec none (fun r'=>some (m.putR b r')) (X6z r off (some ver) vs):Option Mem)=_
  rw [k]
theorem X1s {m:Mem} {b o ver fro:Nat} {c c':List Value} {ty:Option Nat} {v:Value} {n:Nat} (h:m.get b=some (.cells c ver fro false ty)) (hn:v.cells.size=n) (hf:fro ≤ o) (ho:o + n ≤ c.length) (h1:v.cells.toList.all one=true)
  (hc:c.take o ++ v.cells.toList ++ c.drop (o + n)=c'):∃ m',X8 n (pt b o ver) v m=some m'∧MEq (m.put b (.cells c' ver fro false ty)) m':=by
 have hl:v.cells.toList.length=n:=by rw [Array.length_toList]; exact hn
 have hs:X4z m ⟨b,o,some ver⟩ v.cells.toList=some (m.put b (.cells c' ver fro false ty)):=by
  simp only [X4z,h]
  have:o + v.cells.toList.length ≤ c.length:=by rw [hl]; exact ho
  rw [hl]
  simp [hf,ho,h1,hc]
 cases hx:setCells m ⟨b,o,some ver⟩ v.cells.toList with
 | none =>
  obtain ⟨m',k⟩:=Xjm h hf (by rw [hl]; exact ho) h1
  rw [hx] at k; cases k
 | some m' =>
  obtain ⟨m2,k1,k2⟩:=Xcd hx
  rw [hs] at k1
  cases k1
  refine ⟨m',?_,k2⟩
  rw [X6l]
  simp only [X8y,hn,if_true,hx]
structure Ids where
 a:Nat
 av:Nat
 aty:Option Nat
 vars:Value
 most:Int
 nb:Nat
 bb:Nat
 ib:Nat
 gb:Nat
 hb:Nat
 nty:Option Nat
def Ids.W (I:Ids):List Nat:=[I.a,I.nb,I.bb,I.ib,I.gb,I.hb]
structure Ar (I:Ids) (s:ASt) (G H:SB) (m:Mem):Prop where
 a:m.get I.a=some (.cells [I.vars,.int .i64 I.most,.slice (some ⟨I.nb,0,some 3⟩) s.n (2 * s.ver),.map (some I.bb),.map (some I.ib),.map (some I.gb),.map (some I.hb)] I.av 0 false I.aty)
 n:m.get I.nb=some (Sp.norm (.nds s.N (3 * s.n) s.ver I.nty))
 b:m.get I.bb=some (Sp.norm (.tab s.B))
 i:m.get I.ib=some (Sp.norm (.tab s.I))
 g:m.get I.gb=some (Sp.norm (.set G))
 h:m.get I.hb=some (Sp.norm (.set H))
 lt:∀ w ∈ I.W,w < m.next
 nd:I.W.Nodup
 gk:G.k=.i64
 hk:H.k=.i32
theorem Ar.keep {I:Ids} {s:ASt} {G H:SB} {m m':Mem} (h:Ar I s G H m) (hn:m.next ≤ m'.next) (hg:∀ w ∈ I.W,m'.get w=m.get w):Ar I s G H m' where
 a:=by rw [hg _ (by simp [Ids.W])]; exact h.a
 n:=by rw [hg _ (by simp [Ids.W])]; exact h.n
 b:=by rw [hg _ (by simp [Ids.W])]; exact h.b
 i:=by rw [hg _ (by simp [Ids.W])]; exact h.i
 g:=by rw [hg _ (by simp [Ids.W])]; exact h.g
 h:=by rw [hg _ (by simp [Ids.W])]; exact h.h
 lt:=fun w hw=>Nat.lt_of_lt_of_le (h.lt w hw) hn
 nd:=h.nd
 gk:=h.gk
 hk:=h.hk
theorem Ar.fr {I:Ids} {s:ASt} {G H:SB} {m m':Mem} (h:Ar I s G H m) (f:Fr [] m m'):Ar I s G H m':=
 h.keep f.next fun w hw=>f.get w (h.lt w hw) (by simp)
def Va (m:Mem) (b:Nat) (v:Value):Prop:=∃ ty,m.get b=some (.cells [v] 0 0 false ty)
theorem Va.load {m:Mem} {b:Nat} {v:Value} (h:Va m b v):X7 false 1 (pt b 0 0) m=some v:=by
 obtain ⟨ty,h⟩:=h
 exact X17 h rfl
theorem Va.fr {W:List Nat} {m m':Mem} {b:Nat} {v:Value} (h:Va m b v) (f:Fr W m m') (hb:b < m.next) (hw:b ∉ W):Va m' b v:=by
 obtain ⟨ty,h⟩:=h
 exact ⟨ty,by rw [f.get b hb hw]; exact h⟩
theorem Ar.cell {I:Ids} {s:ASt} {G H:SB} {m:Mem} (h:Ar I s G H m) {j:Nat} (hj:j < 3 * s.n):X7 false 1 (pt I.nb j s.ver) m=some (i32 (ndc s.N j)):=
 X17 (by rw [h.n]; rfl) (by rw [Xl1,if_pos hj])
theorem Ar.node {I:Ids} {s:ASt} {G H:SB} {m:Mem} (h:Ar I s G H m) {f:Nat} (hf:f < s.n):X7 true 3 (pt I.nb (0 + f * 3) s.ver) m=some (.agg ⟨[i32 (ndc s.N (3 * f)),i32 (ndc s.N (3 * f + 1)),i32 (ndc s.N (3 * f + 2))]⟩):=by
 refine Xx (by rw [h.n]; rfl) (by rw [Xfk]; omega) ?_
 rw [Xlu _ _ _ _ (by omega),Nat.zero_add,Nat.mul_comm f 3]
 apply List.ext_getElem?
 intro i
 rw [Xdx]
 by_cases hi:i < 3
 ·rw [if_pos hi]
  have:i=0∨i=1∨i=2:=by omega
  rcases this with e | e | e <;> subst e <;> rfl
 ·rw [if_neg hi,List.getElem?_eq_none (by simp; omega)]
theorem Ar.idx {I:Ids} {s:ASt} {f:Nat} (hf:f < s.n):Xb 3 (.slice (some ⟨I.nb,0,some 3⟩) s.n (2 * s.ver)) (i32 f)=some (pt I.nb (0 + f * 3) s.ver):=by
 rw [X1v]
 have h1:Nat.blt f s.n=true:=Nat.blt_eq.mpr hf
 have h2:2 * s.ver / 2=s.ver:=by omega
 simp [X3v,h1,X1h,h2]
theorem X2g (W:List Nat) (m:Mem) (ty:Option Nat) (z:List Value) {v:Value} {n:Nat} (hz:z.length=n) (hv:v.cells.size=n) (h1:v.cells.toList.all one=true) :
  ∃ m2,X8 n (pt m.next 0 0) v (m.push (.cells z 0 0 false ty))=some m2∧Fr W m m2∧m2.next=m.next + 1∧m2.get m.next=some (.cells v.cells.toList 0 0 false ty):=by
 have hp:(m.push (.cells z 0 0 false ty)).get m.next=some (.cells z 0 0 false ty):=by rw [Mem.get_push,if_pos rfl]
 obtain ⟨m2,k1,k2⟩:=X1s (o:=0) (c':=v.cells.toList) hp hv (Nat.zero_le _) (by omega) h1 (by
  rw [List.take_zero,List.nil_append,List.drop_eq_nil_of_le (by omega),List.append_nil])
 refine ⟨m2,k1,((Fr.push _).put _ (.inr (Nat.le_refl _))).meq k2,by rw [k2.next,Mem.next_put]; rfl,?_⟩
 rw [k2.get,Mem.get_put,if_pos rfl]
theorem Xq7 {r:Raw} {c new:List Value} {ver fro k ty2:Nat} {ty:Option Nat} (h:r.norm=.cells c ver fro false ty) (hf:fro ≤ k) (hk:k ≤ c.length):∃ r',Xdf r ver k new true ty2=some (ver + 1,r'):=by
 have hb:Nat.beq ver ver=true:=Nat.beq_refl ver
 have hfk:Nat.ble fro k=true:=Nat.ble_eq.mpr hf
 cases r with
 | plain o =>
  have h:o=.cells c ver fro false ty:=h
  subst h
  simp only [Xdf,hb,hfk,Bool.not_false,Bool.and_self,Xdr,Xdq,if_pos hk]
  cases Nat.blt 48 k <;> exact ⟨_,rfl⟩
 | arr t n ver' fro' ro ty' =>
  have h:AObj.cells (X4r t n) ver' fro' ro ty'=.cells c ver fro false ty:=h
  cases h
  rw [X2e] at hk
  have hkn:Nat.ble k n=true:=Nat.ble_eq.mpr hk
  simp only [Xdf,hb,hfk,hkn,Bool.not_false,Bool.and_self]
  exact ⟨_,rfl⟩
 | sp s =>
  cases s with
  | nds N n ver' ty' =>
   have h:AObj.cells (ndl N n) ver' 0 false ty'=.cells c ver fro false ty:=h
   cases h
   have h0:Nat.ble 0 k=true:=Nat.ble_eq.mpr (Nat.zero_le _)
   simp only [Xdf,hb,h0,Bool.and_self,Xdr,Xdq,if_pos hk]
   exact ⟨_,rfl⟩
  | tab T=>cases h
  | set S=>cases h
theorem Xgb {m:Mem} {b size:Nat} {c:List Value} {fro:Nat} {ro:Bool} {ty:Option Nat} (h:m.get b=some (.cells c 0 fro ro ty)) (hc:c.length=size):X1t size 1 (.slice (some ⟨b,0,some size⟩) 1 1) m=some c:=by
 simp [X1t,Xw,X10,h,hc]
 rw [← hc,List.take_length]
theorem Xms {e size bytes:Nat} {s v:Value} {a:Option Addr} {n r:Nat} {m m':Mem} (h:X3o e size bytes s (.slice a n r) m=some (v,m')):apS e size bytes s (.slice a n r) m=some (v,m'):=h
theorem Xug {m:Mem} {e size bytes b b2 len ver fro fro2:Nat} {c new:List Value} {ty ty2:Option Nat} {ro2:Bool} (h:m.get b=some (.cells c ver fro false ty)) (h2:m.get b2=some (.cells new 0 fro2 ro2 ty2)) (hn:new.length=size) (h1:new.all one=true) (hs:1 ≤ size)
  (hf:fro ≤ len * size) (hl:len * size ≤ c.length) (hb:fits (len + 1) bytes=true) :
  ∃ m',apS e size bytes (.slice (some ⟨b,0,some size⟩) len (2 * ver)) (.slice (some ⟨b2,0,some size⟩) 1 1) m=some (.slice (some ⟨b,0,some size⟩) (len + 1) (2 * (ver + 1)),m') ∧
   MEq (m.put b (.cells (c.take (len * size) ++ new) (ver + 1) fro false (tyOf ty (2 * e)))) m':=by
 have hO:X24 e size bytes (.slice (some ⟨b,0,some size⟩) len (2 * ver)) (.slice (some ⟨b2,0,some size⟩) 1 1) m =
   some (.slice (some ⟨b,0,some size⟩) (len + 1) (2 * (ver + 1)),m.put b (.cells (c.take (len * size) ++ new) (ver + 1) fro false (tyOf ty (2 * e)))):=by
  unfold X24
  have e1:2 * ver / 2=ver:=by omega
  have e2:¬ 2 * ver % 2=1:=by omega
  have e3:Nat.ble 1 size=true:=Nat.ble_eq.mpr hs
  have e4:Nat.ble fro (len * size)=true:=Nat.ble_eq.mpr hf
  have e5:Nat.ble (len * size) c.length=true:=Nat.ble_eq.mpr hl
  simp only [X2s,Xgb h2 hn,h1,e3,Bool.and_self,Bool.not_true,Bool.false_eq_true,if_false,h,Nat.zero_add,e1,Nat.beq_refl,e5,hb,beq_self_eq_true,e2,e4,Bool.not_false,if_true,Nat.one_ne_zero]
 have hx:∃ p,X3o e size bytes (.slice (some ⟨b,0,some size⟩) len (2 * ver)) (.slice (some ⟨b2,0,some size⟩) 1 1) m=some p:=by
  unfold X3o
  have e1:Nat.div (2 * ver) 2=ver:=by show 2 * ver / 2=ver; omega
  have e2:(Nat.beq 1 0 || Nat.beq (2 * ver % 2) 1)=false:=by
   have:2 * ver % 2=0:=by omega
   rw [this]; rfl
  have e3:Nat.ble 1 size=true:=Nat.ble_eq.mpr hs
  rw [Mem.get_def] at h
  cases hr:m.tr.get (b + 1) with
  | none=>rw [hr] at h; cases h
  | some r =>
   rw [hr] at h
   simp only [Option.map_some,Option.some.injEq] at h
   obtain ⟨r',k⟩:=Xq7 (new:=new) (ty2:=2 * e) h hf hl
   simp only [X2s,e2,Xgb h2 hn,X3m,h1,e3,Bool.and_self,Nat.succ_eq_add_one,hr,e1,X1h,decide_true,hb,Nat.zero_add,k]
   exact ⟨_,rfl⟩
 obtain ⟨⟨v,m'⟩,hx⟩:=hx
 obtain ⟨m2,k1,k2⟩:=Xdd hx
 rw [hO] at k1
 cases k1
 exact ⟨m',Xms hx,k2⟩
theorem Fr.mono {W W':List Nat} {m m':Mem} (h:Fr W m m') (hw:∀ w ∈ W,w ∈ W'):Fr W' m m':=
 ⟨h.next,h.low,fun x h1 h2 h3=>h.low2 x h1 h2 fun w k=>h3 w (hw w k),fun b h1 h2=>h.get b h1 fun k=>h2 (hw b k),h.lo⟩
structure Ids.Ne (I:Ids):Prop where
 an:I.a ≠ I.nb
 ab:I.a ≠ I.bb
 ai:I.a ≠ I.ib
 ag:I.a ≠ I.gb
 ah:I.a ≠ I.hb
 nb:I.nb ≠ I.bb
 ni:I.nb ≠ I.ib
 ng:I.nb ≠ I.gb
 nh:I.nb ≠ I.hb
 bi:I.bb ≠ I.ib
 bg:I.bb ≠ I.gb
 bh:I.bb ≠ I.hb
 ig:I.ib ≠ I.gb
 ih:I.ib ≠ I.hb
 gh:I.gb ≠ I.hb
theorem Ids.ne {I:Ids} (h:I.W.Nodup):I.Ne:=by
 simp only [Ids.W,List.nodup_cons,List.mem_cons,List.not_mem_nil,or_false,not_or,not_false_eq_true,List.nodup_nil,and_true] at h
 obtain ⟨⟨a1,a2,a3,a4,a5⟩,⟨b1,b2,b3,b4⟩,⟨c1,c2,c3⟩,⟨d1,d2⟩,e1⟩:=h
 exact ⟨a1,a2,a3,a4,a5,b1,b2,b3,b4,c1,c2,c3,d1,d2,e1⟩
theorem Xb9 (a:Option Addr) (n r:Nat) (m:Mem):lenK 1 (.slice a n r) m=some (.int .i64 (Int.ofNat n)):=Eq.trans rfl rfl
theorem Xck (b:Bool):un .not (.bool b)=some (.bool (!b)):=Eq.trans rfl rfl
theorem Ar.wl {I:Ids} {s:ASt} {Gs H:SB} {m:Mem} (h:Ar I s Gs H m) (l:Nat):Ar I s Gs H (withLow m l):=h.keep (Nat.le_refl _) fun _ _=>rfl
theorem Ar.back {I:Ids} {s s':ASt} {Gs Gs' H H':SB} {m m1 m2:Mem} (hA:Ar I s Gs H m) (k:Ar I s' Gs' H' m1) (hn:m.next ≤ m2.next) (q:∀ b,b < m.next→m2.get b=m1.get b):Ar I s' Gs' H' m2 where
 a:=by rw [q _ (hA.lt _ (by simp [Ids.W]))]; exact k.a
 n:=by rw [q _ (hA.lt _ (by simp [Ids.W]))]; exact k.n
 b:=by rw [q _ (hA.lt _ (by simp [Ids.W]))]; exact k.b
 i:=by rw [q _ (hA.lt _ (by simp [Ids.W]))]; exact k.i
 g:=by rw [q _ (hA.lt _ (by simp [Ids.W]))]; exact k.g
 h:=by rw [q _ (hA.lt _ (by simp [Ids.W]))]; exact k.h
 lt:=fun w hw=>Nat.lt_of_lt_of_le (hA.lt w hw) hn
 nd:=hA.nd
 gk:=k.gk
 hk:=k.hk
theorem Va.push (m:Mem) (v:Value) (ty:Option Nat):Va (m.push (.cells [v] 0 0 false ty)) m.next v:=⟨ty,by rw [Mem.get_push,if_pos rfl]⟩
structure Fb (B:Nat) (m m':Mem):Prop where
 next:m.next ≤ m'.next
 low:m'.low ≤ m.low
 low2:∀ x,x ≤ m.low→x ≤ B→x ≤ m'.low
 get:∀ b,b < B→m'.get b=m.get b
 lo:∀ b,b < m.next→m'.low ≤ b∨m'.get b=m.get b
theorem Fb.refl (B:Nat) (m:Mem):Fb B m m:=⟨Nat.le_refl _,Nat.le_refl _,fun _ h _=>h,fun _ _=>rfl,fun _ _=>.inr rfl⟩
theorem Fb.trans {B:Nat} {m m1 m2:Mem} (h:Fb B m m1) (k:Fb B m1 m2):Fb B m m2 where
 next:=Nat.le_trans h.next k.next
 low:=Nat.le_trans k.low h.low
 low2:=fun x h1 h2=>k.low2 x (h.low2 x h1 h2) h2
 get:=fun b h1=>by rw [k.get b h1,h.get b h1]
 lo:=fun b h1=>by
  rcases k.lo b (Nat.lt_of_lt_of_le h1 h.next) with q | q
  ·exact .inl q
  ·rcases h.lo b h1 with q2 | q2
   ·exact .inl (Nat.le_trans k.low q2)
   ·exact .inr (q.trans q2)
theorem Fb.push {B:Nat} {m:Mem} (o:AObj) (hB:B ≤ m.next):Fb B m (m.push o) where
 next:=Nat.le_succ _
 low:=Nat.le_refl _
 low2:=fun _ h _=>h
 get:=fun b h=>by rw [Mem.get_push,if_neg (by omega)]
 lo:=fun b h=>.inr (by rw [Mem.get_push,if_neg (by omega)])
theorem Fb.put {B:Nat} {m m1:Mem} (h:Fb B m m1) {b:Nat} (o:AObj) (hb:B ≤ b):Fb B m (m1.put b o) where
 next:=by rw [Mem.next_put]; exact h.next
 low:=by rw [Mem.low_put]; exact Nat.le_trans (Nat.min_le_left _ _) h.low
 low2:=fun x h1 h2=>by
  rw [Mem.low_put]
  have:=h.low2 x h1 h2
  omega
 get:=fun c h1=>by rw [Mem.get_put,if_neg (by omega),h.get c h1]
 lo:=fun c h1=>by
  rw [Mem.low_put,Mem.get_put]
  by_cases e:b=c
  ·subst e; exact .inl (Nat.min_le_right _ _)
  ·rw [if_neg e]
   rcases h.lo c h1 with q | q
   ·exact .inl (Nat.le_trans (Nat.min_le_left _ _) q)
   ·exact .inr q
theorem Fb.meq {B:Nat} {m m1 m2:Mem} (h:Fb B m m1) (e:MEq m1 m2):Fb B m m2 where
 next:=by rw [e.next]; exact h.next
 low:=by rw [e.low]; exact h.low
 low2:=fun x h1 h2=>by rw [e.low]; exact h.low2 x h1 h2
 get:=fun b h1=>by rw [e.get]; exact h.get b h1
 lo:=fun b h1=>by rw [e.low,e.get]; exact h.lo b h1
theorem Fb.fr {W:List Nat} {m m1 m2:Mem} (h:Fr W m m1) (k:Fb m.next m1 m2):Fr W m m2 where
 next:=Nat.le_trans h.next k.next
 low:=Nat.le_trans k.low h.low
 low2:=fun x h1 h2 h3=>k.low2 x (h.low2 x h1 h2 h3) h2
 get:=fun b h1 h2=>by rw [k.get b h1,h.get b h1 h2]
 lo:=fun b h1=>by
  rcases k.lo b (Nat.lt_of_lt_of_le h1 h.next) with q | q
  ·exact .inl q
  ·rcases h.lo b h1 with q2 | q2
   ·exact .inl (Nat.le_trans k.low q2)
   ·exact .inr (q.trans q2)
theorem Fb.call {B:Nat} {m m1:Mem} (v:Value) (h:Fb B (withLow m m.next) m1) (hB:B ≤ m.next) (hw:m1.low < m.next∨(m1.next=m.next∧∀ b,m1.get b=m.get b)) :
  ∃ m2,gc m v m1=(v,m2)∧Fb B m m2∧m2.next=m1.next∧(∀ b,m2.get b=m1.get b):=by
 rw [Xhc]; unfold gcO
 cases hc:Nat.ble m.next m1.low && refs m.next 8 v
 ·refine ⟨withLow m1 (min m.low m1.low),rfl,⟨h.next,Nat.min_le_left _ _,fun x h1 h2=>?_,h.get,fun b hb=>?_⟩,rfl,fun b=>rfl⟩
  ·have:=h.low2 x (Nat.le_trans h2 hB) h2
   show x ≤ min m.low m1.low
   omega
  ·rcases h.lo b hb with q | q
   ·exact .inl (Nat.le_trans (Nat.min_le_right _ _) q)
   ·exact .inr q
 ·simp only [Bool.and_eq_true] at hc
  have hlow:=Nat.le_of_ble_eq_true hc.1
  rcases hw with hw | ⟨hw1,hw2⟩
  ·omega
  ·exact ⟨m,rfl,.refl _ _,hw1.symm,fun b=>(hw2 b).symm⟩
theorem Xrz {m:Mem} {e size bytes b2 fro2:Nat} {new:List Value} {ty2:Option Nat} {ro2:Bool} (h2:m.get b2=some (.cells new 0 fro2 ro2 ty2)) (hn:new.length=size) (h1:new.all one=true) (hs:1 ≤ size) (hb:fits 1 bytes=true) :
  apS e size bytes (.slice none 0 0) (.slice (some ⟨b2,0,some size⟩) 1 1) m=some (.slice (some ⟨m.next,0,some size⟩) 1 0,m.push (.cells new 0 0 false (some (2 * e)))):=by
 have e3:Nat.ble 1 size=true:=Nat.ble_eq.mpr hs
 refine Xms ?_
 unfold X3o
 simp only [X2s]
 unfold X24
 simp only [X2s,Xgb h2 hn,h1,e3,Bool.and_self,Bool.not_true,Bool.false_eq_true,if_false,hb,if_true,Nat.one_ne_zero]
structure Gv (I:Ids) (s:ASt) (Gs H:SB) (fn:Nat) (B pv av fv wv zb:Nat) (Z:SB) (F:List Nat) (m:Mem):Prop where
 ar:Ar I s Gs H m
 wB:∀ w ∈ I.W,w < B
 bd:(B ≤ pv∧B ≤ av∧B ≤ fv∧B ≤ wv∧B ≤ zb)∧(pv < m.next∧av < m.next∧fv < m.next∧wv < m.next∧zb < m.next)
 ne:(zb ≠ pv∧zb ≠ av∧zb ≠ fv∧zb ≠ wv)∧(fv ≠ pv∧fv ≠ av∧fv ≠ wv)
 zs:m.get zb=some (Sp.norm (.set Z))
 p:Va m pv (.map (some zb))
 a:Va m av (pt I.a 0 I.av)
 w:Va m wv (.func (.func fn) ⟨[]⟩ ⟨[pt pv 0 0,pt av 0 0,pt fv 0 0,pt wv 0 0]⟩)
 k:Z.k=.i32
 l:Z.l=F ++ [1,0]
 f:(F=[]∧Va m fv (.slice none 0 0))∨(∃ fb ty,F ≠ []∧Va m fv (.slice (some ⟨fb,0,some 1⟩) F.length (2 * (F.length - 1)))∧m.get fb=some (.cells (F.reverse.map i32) (F.length - 1) 0 false ty) ∧
  B ≤ fb∧fb < m.next∧fb ≠ pv∧fb ≠ av∧fb ≠ fv∧fb ≠ wv∧fb ≠ zb)
theorem Gv.same {I:Ids} {s:ASt} {Gs H:SB} {fn B pv av fv wv zb:Nat} {Z:SB} {F:List Nat} {m m':Mem} (h:Gv I s Gs H fn B pv av fv wv zb Z F m) (hn:m.next ≤ m'.next) (hg:∀ b,m'.get b=m.get b):Gv I s Gs H fn B pv av fv wv zb Z F m' where
 ar:=h.ar.keep hn fun w _=>hg w
 wB:=h.wB
 bd:=⟨h.bd.1,by have:=h.bd.2; omega⟩
 ne:=h.ne
 zs:=by rw [hg]; exact h.zs
 p:=by obtain ⟨ty,x⟩:=h.p; exact ⟨ty,by rw [hg]; exact x⟩
 a:=by obtain ⟨ty,x⟩:=h.a; exact ⟨ty,by rw [hg]; exact x⟩
 w:=by obtain ⟨ty,x⟩:=h.w; exact ⟨ty,by rw [hg]; exact x⟩
 k:=h.k
 l:=h.l
 f:=by
  rcases h.f with ⟨e,ty,x⟩ | ⟨fb,ty,e,⟨ty2,x⟩,y,z⟩
  ·exact .inl ⟨e,ty,by rw [hg]; exact x⟩
  ·exact .inr ⟨fb,ty,e,⟨ty2,by rw [hg]; exact x⟩,by rw [hg]; exact y,by omega⟩
theorem Fr.toFb {B:Nat} {m m1:Mem} (h:Fr [] m m1) (hB:B ≤ m.next):Fb B m m1 where
 next:=h.next
 low:=h.low
 low2:=fun x h1 h2=>h.low2 x h1 (Nat.le_trans h2 hB) (by simp)
 get:=fun b h1=>h.get b (Nat.lt_of_lt_of_le h1 hB) (by simp)
 lo:=h.lo
theorem Fb.toFr {W:List Nat} {m m1:Mem} (h:Fb m.next m m1):Fr W m m1 where
 next:=h.next
 low:=h.low
 low2:=fun x h1 h2 _=>h.low2 x h1 h2
 get:=fun b h1 _=>h.get b h1
 lo:=h.lo
theorem Va.fb {B:Nat} {m m':Mem} {b:Nat} {v:Value} (h:Va m b v) (hg:m'.get b=m.get b):Va m' b v:=by
 obtain ⟨ty,h⟩:=h
 exact ⟨ty,by rw [hg]; exact h⟩
end
end Go.Ab

namespace Go.Ab
noncomputable section
open Go
variable {P:Program} {W0:World}
theorem MkR.mono {s s':ASt} {v lo hi r:Nat} (h:MkR s v lo hi r s'):s.n ≤ s'.n∧(s'.n=s.n→s'=s)∧s'.I=s.I:=by
 cases h with
 | same=>exact ⟨Nat.le_refl _,fun _=>rfl,rfl⟩
 | old=>exact ⟨Nat.le_refl _,fun _=>rfl,rfl⟩
 | new=>exact ⟨Nat.le_succ _,fun h=>by simp only at h; omega,rfl⟩
theorem IteR.mono {s s':ASt} {f g h r:Nat} (k:IteR s f g h r s'):s.n ≤ s'.n∧s.I.n ≤ s'.I.n∧(s'.n=s.n→s'.N=s.N∧s'.ver=s.ver∧s'.B=s.B)∧(s'.I.n=s.I.n→s'.I=s.I):=by
 induction k with
 | a | b | c | d=>exact ⟨Nat.le_refl _,Nat.le_refl _,fun _=>⟨rfl,rfl,rfl⟩,fun _=>rfl⟩
 | e s s1 s2 s3 f g h v lo hi r I4 h1 h2 h3 h4 hf hg hh hn hl hv k1 hn1 k2 k3 k4 ih1 ih2 =>
  obtain ⟨a1,a2,a3,a4⟩:=ih1
  obtain ⟨b1,b2,b3,b4⟩:=ih2
  obtain ⟨c1,c2,c3⟩:=k3.mono
  obtain ⟨_,_,d3⟩:=TB.ins_some k4
  rw [c3] at d3
  refine ⟨by simp only; omega,by simp only; omega,fun e=>?_,fun e=>by simp only at e; omega⟩
  simp only at e
  have e1:s1.n=s.n:=by omega
  have e2:s2.n=s1.n:=by omega
  have e3:s3.n=s2.n:=by omega
  obtain ⟨x1,x2,x3⟩:=a3 e1
  obtain ⟨y1,y2,y3⟩:=b3 e2
  have:=c2 e3
  rw [this]
  exact ⟨y1.trans x1,y2.trans x2,y3.trans x3⟩
theorem SB.add_mono (S:SB) (x:Nat):S.l.length ≤ (S.add x).l.length∧((S.add x).l.length=S.l.length→S.add x=S):=by
 cases h:S.has x
 ·rw [(SB.add_new h).2.1]
  exact ⟨by simp,fun e=>by simp at e⟩
 ·rw [SB.add_has h]
  exact ⟨Nat.le_refl _,fun _=>rfl⟩
theorem Xf7 (H:SB):∀ (l:List Nat),H.l.length ≤ (l.foldr (fun g H=>H.add g) H).l.length∧((l.foldr (fun g H=>H.add g) H).l.length=H.l.length→l.foldr (fun g H=>H.add g) H=H)
 | []=>⟨Nat.le_refl _,fun _=>rfl⟩
 | x :: l=>by
  obtain ⟨a1,a2⟩:=Xf7 H l
  obtain ⟨b1,b2⟩:=SB.add_mono (l.foldr (fun g H=>H.add g) H) x
  rw [List.foldr_cons]
  exact ⟨by omega,fun e=>by rw [b2 (by omega)]; exact a2 (by omega)⟩
theorem GiveR.mono {N n most f:Nat} {G H G' H':SB} (h:GiveR N n most G H f G' H'):(G'.l.length=G.l.length→G'=G)∧(H'.l.length=H.l.length→H'=H):=by
 cases h with
 | mk Z=>exact ⟨(SB.add_mono _ _).2,(Xf7 _ _).2⟩
end
end Go.Ab

namespace Go.Ab
noncomputable section
open Go
variable {P:Program} {W0:World}
def minW (I:Ids) (l:Nat):Nat:=minP (minP (minP (minP (minP (minP l I.a) I.nb) I.bb) I.ib) I.gb) I.hb
def lowM (I:Ids) (m:Mem):Mem:=Mem.rec (motive:=fun _=>Mem) (fun n l t=>X4a (minW I l) fun l'=>⟨n,l',t⟩) m
def Xvp (I:Ids) (n ver:Nat):List Value:=Ids.rec (motive:=fun _=>List Value) (fun _ _ _ vars most nb bb ib gb hb _=>[vars,.int .i64 most,.slice (some ⟨nb,0,some 3⟩) n (Nat.mul 2 ver),.map (some bb),.map (some ib),.map (some gb),.map (some hb)]) I
def cput (c:Bool) (m:Mem) (b:Nat) (r:Raw):Mem:=bI c m (X4a b fun b=>m.putR b r)
def wr (m:Mem) (I:Ids) (s s':ASt) (G G' H H':SB):Mem:=
 cput (Nat.beq H'.num H.num) (cput (Nat.beq G'.num G.num) (cput (Nat.beq s'.I.n s.I.n) (cput (Nat.beq s'.n s.n) (cput (Nat.beq s'.n s.n) (cput (Nat.beq s'.n s.n) (lowM I m)
  I.nb (.sp (.nds s'.N (Nat.mul 3 s'.n) s'.ver I.nty))) I.bb (.sp (.tab s'.B))) I.a (.plain (.cells (Xvp I s'.n s'.ver) I.av 0 false I.aty))) I.ib (.sp (.tab s'.I))) I.gb (.sp (.set G'))) I.hb (.sp (.set H'))
end
end Go.Ab

namespace Go.Ab
noncomputable section
open Go
variable {P:Program} {W0:World}
theorem MEq.trans {a b c:Mem} (h:MEq a b) (k:MEq b c):MEq a c:=⟨k.next.trans h.next,k.low.trans h.low,fun x=>(k.get x).trans (h.get x)⟩
end
end Go.Ab

namespace Go.Ab
noncomputable section
open Go
end
end Go.Ab
