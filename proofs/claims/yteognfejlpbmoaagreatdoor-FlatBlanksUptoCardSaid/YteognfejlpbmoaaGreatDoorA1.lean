/-
  What the functions of the program answer, at every text and every question. No conditions.
-/
import Derived.Test.YteognfejlpbmoaaGreatDoorA0
import GoSem.ClaimChange
import Derived.IntWalk
set_option linter.unusedSimpArgs false
set_option linter.unusedVariables false
set_option maxRecDepth 100000
noncomputable section
namespace Go.Ab
open Go Go.Lib
end Go.Ab
namespace Go.Ab.Sh
open Go Go.Ab Go.Lib
def numV (o:Option Nat):Nat:=o.getD 0
theorem c_lexNumber' (s:Str) (hs:s.length <= 4194304) (most:Nat) (hm:most < 1000000000000) (d:Nat) (m:Mem) :
  TA (d + 1) Qde [sv s,I most] m=some (.tuple ⟨[I (numV (num most s)),.bool (num most s).isSome]⟩,m):=by
 rw [c_lexNumber s hs most hm];cases num most s <;> rfl
end Go.Ab.Sh
namespace Go.Ab
open Go Go.Lib Go.Ab.Sh
structure Rl where
 permit:Bool
 proto:Int
 sa:Nat
 sb:Int
 da:Nat
 db:Int
 sl:Nat
 sh:Nat
 dl:Nat
 dh:Nat
structure Q_n where
 kind:Nat
 dev:Str
 ifc:Str
 vrf:Str
 en:Nat
 r:Rl
 a:Nat
 b:Nat
 p:Nat
 m:Nat
 n:Nat
 hops:Int
 ad:Nat
end Go.Ab
namespace Go.Ab.Sh
open Go Go.Ab Go.Lib
end Go.Ab.Sh
namespace Go.Ab
open Go Go.Lib Go.Ab.Sh
end Go.Ab
namespace Go.Ab.Sh
open Go Go.Ab Go.Lib
end Go.Ab.Sh
namespace Go.Ab
open Go Go.Lib Go.Ab.Sh
theorem Xv9 {W:List Nat} {m m1:Mem} {v:Value} {x:Option Rs} (hx:x=some (v,m1)) (hF:Fr W (withLow m m.next) m1) :
  ∃ m2,outOf m x=some (v,m2)/\Fr W m m2/\m2.next <= m1.next/\(∀ b,b < m.next->m2.get b=m1.get b):=by
 obtain ⟨m2,k1,k2,k3,k4⟩:=Fr.call v hF;exact ⟨m2,by rw [hx]; simp only [outOf,k1],k2,k3,k4⟩
end Go.Ab
namespace Go.Ab.Sh
open Go Go.Ab Go.Lib
end Go.Ab.Sh
namespace Go.Ab
open Go Go.Lib Go.Ab.Sh
end Go.Ab
namespace Go.Ab.Sh
open Go Go.Ab Go.Lib
variable {mW:Mem} {v:Value} {ws:List Str} {b2 b5:Nat} {m:Mem} {q:Q_n}
end Go.Ab.Sh
namespace Go.Ab
open Go Go.Lib Go.Ab.Sh
variable {B:Nat} {m:Mem} {v:Value} {vs:List Value}
def GA (B:Nat) (m:Mem) (v:Value) (vs:List Value):Prop:=
 (vs=[]/\v=.slice none 0 0)\/(vs ≠ []/\∃ b ver r ty,r < 2/\v=.slice (some ⟨b,0,some 1⟩) vs.length (2 * ver + r)/\B <= b/\b < m.next/\m.get b=some (.cells vs ver 0 false ty))
theorem GA.len (h:GA B m v vs) (m':Mem):lenK 1 v m'=some (I vs.length):=by
 rcases h with ⟨rfl,rfl⟩ | ⟨_,b,ver,r,ty,_,rfl,_⟩
 ·exact Xa6 _ _ _ _
 ·exact Xa6 _ _ _ _
theorem GA.fb {m':Mem} (h:GA B m v vs) (hn:m.next <= m'.next) (hg:∀ b,B <= b->b < m.next->m'.get b=m.get b):GA B m' v vs:=by
 rcases h with h | ⟨h1,b,ver,r,ty,hr,h2,h3,h4,h5⟩
 ·exact .inl h
 ·exact .inr ⟨h1,b,ver,r,ty,hr,h2,h3,by omega,by rw [hg b h3 h4]; exact h5⟩
theorem GA.at {B:Nat} {m:Mem} {v:Value} {vs:List Value} (h:GA B m v vs) {i:Nat} {w:Value} (hw:vs[i]?=some w):∃ p,Xa 1 v (.int .i64 (i:Int))=some p/\X8 false 1 p m=some w /\
  ∀ x:Value,x.cells.size=1->x.cells.toList=[x]->one x=true->∃ m',Xd 1 p x m=some m'/\Fb B m m'/\m'.next=m.next/\GA B m' v (vs.set i x)/\∀ b,(∃ len r,v=.slice (some ⟨b,0,some 1⟩) len r)\/m'.get b=m.get b:=by
 have hi:i < vs.length:=by
  by_cases hh:i < vs.length
  ·exact hh
  ·rw [List.getElem?_eq_none (by omega)] at hw; cases hw
 rcases h with ⟨rfl,rfl⟩ | ⟨hne,b,ver,r,ty,hr,rfl,h2,h3,h4⟩
 ·simp at hi
 ·refine ⟨_,Xrl b vs.length (2 * ver + r) i hi,?_,?_⟩
  ·rw [show (2 * ver + r) / 2=ver by omega];exact X12 h4 hw
  ·intro x hx1 hx2 hx3;rw [show (2 * ver + r) / 2=ver by omega];obtain ⟨m',k1,k2⟩:=X1u (o:=i) (n:=1) (v:=x) (c':=vs.set i x) h4 hx1 (Nat.zero_le _) (by omega) (by rw [hx2]; simp [hx3]) (by
    rw [hx2,List.set_eq_take_append_cons_drop,if_pos hi]; simp)
   refine ⟨m',k1,((Fb.refl B m).put _ h2).meq k2,by rw [k2.next,Mem.next_put],.inr ⟨?_,b,ver,r,ty,hr,by rw [List.length_set],h2,by rw [k2.next,Mem.next_put]; exact h3,by rw [k2.get,Mem.get_put,if_pos rfl]⟩,fun b'=>?_⟩
   ·intro h;have:=congrArg List.length h;simp at this;exact hne this
   ·by_cases e:b'=b
    ·subst e; exact .inl ⟨_,_,rfl⟩
    ·right;rw [k2.get,Mem.get_put,if_neg (by omega)]
abbrev by8 (c:UInt8):Value:=.int .u8 (c.toNat:Int)
theorem Xlz:∀ l:Str,X1g (l.map by8)=some l
 | []=>rfl
 | c :: l=>by
  show (match X1g (l.map by8) with | some l=>some (UInt8.ofNat ((c.toNat:Int)).toNat :: l) | none=>none)=_
  rw [Xlz l];simp
theorem GA.conv {B:Nat} {m:Mem} {v:Value} {l:Str} (h:GA B m v (l.map by8)):conv .str v m=some (sv l,m):=by
 rcases h with ⟨h1,rfl⟩ | ⟨hne,b,ver,r,ty,hr,rfl,h2,h3,h4⟩
 ·have:l=[]:=by simpa using h1
  subst this; rfl
 ·show (match getCells m ⟨b,0,some ((2 * ver + r) / 2)⟩ (l.map by8).length with
   | some cs=>(match X1g cs with | some l=>some (Value.string ⟨l.toArray⟩,m) | none=>none)
   | none=>none)=_
  rw [show (2 * ver + r) / 2=ver by omega];have:getCells m ⟨b,0,some ver⟩ (l.map by8).length=some (l.map by8):=by
   simp [Xn,Xy,h4];rw [List.take_of_length_le (by simp)]
  rw [this];simp only [Xlz];rfl
end Go.Ab
namespace Go.Ab
open Go
variable {L:Lc} {X X0:NX} {a b vs:List Value} {base cap lo n o sz:Nat} {held:Bool} {k q:Key} {l:List Cl} {m m0:Mem} {t:TypeId} {ty:Option Nat} {v:Value} {w:World} {φ φ0:Phi}
inductive Lf where | b | i (k:IntKind) | s
inductive Fits:List Lf->List Value->Prop where
 | nil:Fits [] []
 | b {L:List Lf} {cs:List Value} (x:Bool) (h:Fits L cs):Fits (.b :: L) (.bool x :: cs)
 | i {L:List Lf} {cs:List Value} (k:IntKind) (z:Int) (w:(Lit.int k z).wf=true) (h:Fits L cs):Fits (.i k :: L) (.int k z :: cs)
 | s {L:List Lf} {cs:List Value} (x:ByteArray) (h:Fits L cs):Fits (.s :: L) (.string x :: cs)
theorem Fits.app {L M:List Lf} (h:Fits L a) (k:Fits M b):Fits (L ++ M) (a ++ b):=by
 induction h with
 | nil=>exact k
 | b x _ ih=>exact .b x ih
 | i k z w _ ih=>exact .i k z w ih
 | s x _ ih=>exact .s x ih
def strs:List Value->Nat
 | []=>0
 | .string x :: r=>x.size + strs r
 | _ :: r=>strs r
theorem Xkt:∀ a b:List Value,strs (a ++ b)=strs a + strs b
 | [],b=>by simp [strs]
 | v :: a,b=>by
  have ih:=Xkt a b;cases v <;> simp only [List.cons_append,strs,ih] <;> omega
def layF (P:Program) (g:TypeId->Option (List Lf)):List Field->Nat->Option (List Lf)
 | [],_=>some []
 | f :: fs,o=>if f.offset=o then (match g f.type with
  | none=>none
  | some L=>if P.cellsOf f.type=L.length then (match layF P g fs (o + L.length) with | none=>none | some R=>some (L ++ R)) else none) else none
def layT (P:Program):Nat->TypeId->Option (List Lf)
 | 0,_=>none
 | n + 1,t=>match P.underlying t with
  | some .bool=>some [.b]
  | some (.int k)=>some [.i k]
  | some .string=>some [.s]
  | some (.struct fs)=>(match layF P (layT P n) fs.toList 0 with
   | some L=>if P.cellsOf t=L.length then some L else none
   | none=>none)
  | _=>none
section
variable {H:Type} {enc:TypeId × Value->H} {P:Program}
structure Bulk (H:Type) where
 one:DataW H->Nat
 all:List (DataW H)->Nat
 str:∀ l,one (.lit (.string l))=l.length + 1
 agg:∀ l,one (.agg l)=all l + 1
 cons:∀ d l,all (d :: l)=one d + all l
def Reads (B:Bulk H) (enc:TypeId × Value->H) (P:Program) (fuel:Nat) (t:TypeId) (L:List Lf) (cs:List Value) (d:DataW H) (ps:List MemPlace):Prop:=
 Fits L cs/\ps=[]/\strs cs <= B.one d/\∀ (w:World) (base:Nat) (sp:Nat->Bool) (held:Bool),DataW.trod enc P w base sp held fuel t cs=some (d,[])
theorem Xe7 (B:Bulk H) {w:World} {base:Nat} {sp:Nat->Bool} {held:Bool} {fuel:Nat} {g:TypeId->Option (List Lf)}
  (hg:∀ t L,g t=some L->∀ cs d ps,DataW.trod enc P w base sp held fuel t cs=some (d,ps)->Reads B enc P fuel t L cs d ps) (cs:List Value):∀ (fs:List Field) (o:Nat) (R:List Lf) (xs:List (DataW H × List MemPlace)),
  layF P g fs o=some R->o + R.length <= cs.length->(fs.mapM fun f=>DataW.trod enc P w base sp held fuel f.type ((cs.drop f.offset).take (P.cellsOf f.type)))=some xs ->
  Fits R ((cs.drop o).take R.length)/\xs.flatMap (·.2)=[]/\strs ((cs.drop o).take R.length) <= B.all (xs.map (·.1)) /\
   ∀ (w:World) (base:Nat) (sp:Nat->Bool) (held:Bool),(fs.mapM fun f=>DataW.trod enc P w base sp held fuel f.type ((cs.drop f.offset).take (P.cellsOf f.type)))=some xs
 | [],o,R,xs,hl,ho,hx=>by
  simp only [layF,Option.some.injEq] at hl;subst hl;simp only [List.mapM_nil,pure,Option.some.injEq] at hx;subst hx;exact ⟨.nil,rfl,Nat.zero_le _,fun _ _ _ _=>rfl⟩
 | f :: fs,o,R,xs,hl,ho,hx=>by
  unfold layF at hl;split at hl
  ·rename_i hof;cases hgt:g f.type with
   | none=>rw [hgt] at hl; cases hl
   | some L =>
    rw [hgt] at hl;simp only at hl;split at hl
    ·rename_i hc;cases hR:layF P g fs (o + L.length) with
     | none=>rw [hR] at hl; cases hl
     | some R' =>
      rw [hR] at hl;simp only [Option.some.injEq] at hl;subst hl;rw [List.mapM_cons] at hx;cases h1:DataW.trod enc P w base sp held fuel f.type ((cs.drop f.offset).take (P.cellsOf f.type)) with
      | none=>rw [h1] at hx; cases hx
      | some y =>
       cases h2:(fs.mapM fun f=>DataW.trod enc P w base sp held fuel f.type ((cs.drop f.offset).take (P.cellsOf f.type))) with
       | none=>rw [h1,h2] at hx; cases hx
       | some ys =>
        rw [h1,h2] at hx;have hx:some (y :: ys)=some xs:=hx;cases hx;obtain ⟨d,ps⟩:=y;have hof:=hof;rw [hof,hc] at h1;obtain ⟨a1,a2,a3,a4⟩:=hg f.type L hgt _ d ps h1;rw [List.length_append] at ho;obtain ⟨b1,b2,b3,b4⟩:=Xe7 B hg cs fs (o + L.length) R' ys hR (by omega) h2;subst a2;have e:(cs.drop o).take (L ++ R').length=(cs.drop o).take L.length ++ (cs.drop (o + L.length)).take R'.length:=by
         rw [List.length_append,List.take_add,List.drop_drop]
        rw [e];refine ⟨a1.app b1,?_,?_,?_⟩
        ·simpa using b2
        ·rw [Xkt,List.map_cons,B.cons];show _ <= B.one d + _;omega
        ·intro w base sp held;rw [List.mapM_cons,hof,hc,a4 w base sp held,b4 w base sp held];rfl
    ·cases hl
  ·cases hl
theorem lay_reads (B:Bulk H) {w:World} {base:Nat} {sp:Nat->Bool} {held:Bool}:∀ (n:Nat) (t:TypeId) (L:List Lf),layT P n t=some L->∀ (fuel:Nat) (cs:List Value) (d:DataW H) (ps:List MemPlace),DataW.trod enc P w base sp held fuel t cs=some (d,ps)->Reads B enc P fuel t L cs d ps
 | 0,t,L,hl,fuel,cs,d,ps,h=>by cases hl
 | n + 1,t,L,hl,0,cs,d,ps,h=>by cases h
 | n + 1,t,L,hl,fuel + 1,cs,d,ps,h=>by
  unfold layT at hl;cases hu:P.underlying t with
  | none=>rw [hu] at hl; cases hl
  | some T =>
   rw [hu] at hl;cases T <;> simp only at hl
   case bool =>
    cases hl;unfold DataW.trod at h;rw [hu] at h
    match cs,h with
    | [.bool x],h =>
     simp only [Option.some.injEq,Prod.mk.injEq] at h;obtain ⟨rfl,rfl⟩:=h;exact ⟨.b x .nil,rfl,Nat.zero_le _,fun _ _ _ _=>by unfold DataW.trod; rw [hu]⟩
   case int k =>
    cases hl;unfold DataW.trod at h;rw [hu] at h
    match cs,h with
    | [.int k' z],h =>
     simp only at h;split at h
     ·rename_i hk;simp only [Option.some.injEq,Prod.mk.injEq] at h;obtain ⟨rfl,rfl⟩:=h;obtain ⟨rfl,hw⟩:=hk;exact ⟨.i k' z hw .nil,rfl,Nat.zero_le _,fun _ _ _ _=>by unfold DataW.trod; rw [hu]; simp [hw]⟩
     ·cases h
   case string =>
    cases hl;unfold DataW.trod at h;rw [hu] at h
    match cs,h with
    | [.string x],h =>
     simp only at h;split at h
     ·rename_i hk;simp only [Option.some.injEq,Prod.mk.injEq] at h;obtain ⟨rfl,rfl⟩:=h;refine ⟨.s x .nil,rfl,?_,fun _ _ _ _=>by unfold DataW.trod; rw [hu]; simp only; rw [if_pos hk]⟩;rw [B.str,Array.length_toList];show x.size + 0 <= x.size + 1;omega
     ·cases h
   case struct fs =>
    cases hR:layF P (layT P n) fs.toList 0 with
    | none=>rw [hR] at hl; cases hl
    | some R =>
     rw [hR] at hl;simp only at hl;split at hl
     ·rename_i hc;obtain rfl:R=L:=Option.some.inj hl;unfold DataW.trod at h;rw [hu] at h;simp only at h;split at h
      ·rename_i hlen;cases hx:(fs.toList.mapM fun f=>DataW.trod enc P w base sp held fuel f.type ((cs.drop f.offset).take (P.cellsOf f.type))) with
       | none=>rw [hx] at h; cases h
       | some xs =>
        rw [hx] at h;simp only [Option.map_some,Option.some.injEq,Prod.mk.injEq] at h;obtain ⟨rfl,rfl⟩:=h;obtain ⟨a1,a2,a3,a4⟩:=Xe7 B (fun t L ht cs d ps hh=>lay_reads B n t L ht fuel cs d ps hh) cs fs.toList 0 R xs hR (by omega) hx;have e:(cs.drop 0).take R.length=cs:=by rw [List.drop_zero,<- hc,<- hlen,List.take_length]
        rw [e] at a1 a3;refine ⟨a1,a2,by rw [B.agg]; omega,fun w' base' sp' held'=>?_⟩;unfold DataW.trod;rw [hu];simp only;rw [if_pos hlen,a4 w' base' sp' held'];simp only [Option.map_some,a2]
      ·cases h
     ·cases hl
   all_goals cases hl
theorem Xi8 (B:Bulk H) {sp:Nat->Bool} {L:List Lf} (hl:layT P n t=some L) {d:DataW H} {ps:List MemPlace} (h:DataW.Trod enc P w base sp held t v d ps) :
  Fits L v.cells.toList/\ps=[]/\strs v.cells.toList <= B.one d/\∀ (w:World) (base:Nat) (sp:Nat->Bool) (held:Bool),DataW.Trod enc P w base sp held t v d []:=by
 obtain ⟨fuel,hf⟩:=h;obtain ⟨a,b,c,e⟩:=lay_reads B n t L hl fuel _ d ps hf;exact ⟨a,b,c,fun w base sp held=>⟨fuel,e w base sp held⟩⟩
end
theorem X8q (φ:Phi) (k:Key) (vs:List Value):cells φ k (vs.map .v)=vs:=by
 apply List.ext_getElem?;intro i;rw [Xm,List.getElem?_map];cases vs[i]? <;> rfl
theorem NR.own (h:NR cap m φ X) (hk:X k=some (.c l)) (ho:l[o]?=some (.v (slV L n sz))) (hn:n ≠ 0) (hz:0 < sz) (hX:X (o :: k)=none) (hfr:∀ k',X k' ≠ none->(φ k').b ≠ L.b) (hlt:L.b < m.next) (hr:L.r < 2) (hg:m.get L.b=some (.cells vs L.ver 0 false ty)) (hl:vs.length=n * sz) (h1:vs.all one=true) :
  NR (max cap n) m (φ.set (o :: k) L) ((X.set (o :: k) (some (.c (vs.map .v)))).set k (some (.c (l.set o (.s n sz))))):=by
 have hol:o < l.length:=(List.getElem?_eq_some_iff.mp ho).1;let X':NX:=(X.set (o :: k) (some (.c (vs.map .v)))).set k (some (.c (l.set o (.s n sz))));have X'k:X' k=some (.c (l.set o (.s n sz))):=NX.set_eq _ _ _;have X'o:X' (o :: k)=some (.c (vs.map .v)):=by
  grind [NX.set,NX.set_ne,X3c,NX.set_eq]
 have X'n:∀ a,a ≠ k->a ≠ o :: k->X' a=X a:=fun a h1 h2=>by
  show (NX.set _ _ _) _=_;rw [NX.set_ne _ _ h1,NX.set_ne _ _ h2]
 have X'd:∀ a,X' a ≠ none->a ≠ o :: k->X a ≠ none:=fun a ha hne=>by
  grind
 have hφb:∀ a,a ≠ o :: k->(φ.set (o :: k) L) a=φ a:=fun a ha=>Phi.set_ne _ _ ha;have hφk:(φ.set (o :: k) L) k=φ k:=hφb k (fun e=>X3c o k e.symm);have hcl:∀ a l2,a ≠ k->cells (φ.set (o :: k) L) a l2=cells φ a l2:=fun a l2 hne=>X87 fun i n' sz' _ _=>Phi.set_ne _ _ (fun e=>hne (by injection e));have hclk:cells (φ.set (o :: k) L) k (l.set o (.s n sz))=cells φ k l:=by
  apply List.ext_getElem?;intro i;rw [Xm,List.getElem?_set,Xm];by_cases e:o=i
  ·subst e;rw [if_pos rfl,if_pos hol,ho];show some (slV ((φ.set (o :: k) L) (o :: k)) n sz)=some (slV L n sz);rw [Phi.set_eq]
  ·rw [if_neg e];cases hc:l[i]? with
   | none=>rfl
   | some c =>
    cases c with
    | v x=>rfl
    | s n' sz' =>
     show some (slV ((φ.set (o :: k) L) (i :: k)) n' sz')=some (slV (φ (i :: k)) n' sz');rw [Phi.set_ne _ _ (fun e2=>e (by injection e2 with e3; exact e3.symm))]
 show NR _ _ _ X';exact {
  inj:=fun a b ha hb' e=>by
   by_cases e1:a=o :: k
   ·by_cases e2:b=o :: k
    ·rw [e1,e2]
    ·rw [e1,Phi.set_eq,hφb b e2] at e;exact absurd e.symm (hfr b (X'd b hb' e2))
   ·by_cases e2:b=o :: k
    ·rw [e2,Phi.set_eq,hφb a e1] at e;exact absurd e (hfr a (X'd a ha e1))
    ·rw [hφb a e1,hφb b e2] at e;exact h.inj a b (X'd a ha e1) (X'd b hb' e2) e
  hi:=fun a ha=>by
   by_cases e1:a=o :: k
   ·rw [e1,Phi.set_eq]; exact hlt
   ·rw [hφb a e1]; exact h.hi a (X'd a ha e1)
  r2:=fun a ha=>by
   by_cases e1:a=o :: k
   ·rw [e1,Phi.set_eq]; exact hr
   ·rw [hφb a e1]; exact h.r2 a (X'd a ha e1)
  at':=fun a ob ha=>by
   by_cases e1:a=k
   ·subst e1;rw [X'k] at ha;cases ha;obtain ⟨ty0,q⟩:=h.at' _ _ hk;refine ⟨ty0,?_⟩;rw [hφk,hclk];exact q
   ·by_cases e2:a=o :: k
    ·subst e2;rw [X'o] at ha;cases ha;refine ⟨ty,?_⟩;rw [Phi.set_eq,X8q];exact hg
    ·rw [X'n a e1 e2] at ha;have:=h.at' a ob ha;cases ob with
     | c l2 =>
      obtain ⟨ty3,q3⟩:=this;refine ⟨ty3,?_⟩;rw [hφb a e2,hcl _ _ e1];exact q3
     | m es cl =>
      show m.get ((φ.set (o :: k) L) a).b=_;rw [hφb a e2];exact this
  ok:=fun a l2 ha=>by
   by_cases e1:a=k
   ·subst e1;rw [X'k] at ha;cases ha;have:=h.ok _ _ hk;rw [List.all_eq_true] at this ⊢;intro c hc;rcases List.mem_or_eq_of_mem_set hc with q | q
    ·exact this c q
    ·rw [q]; rfl
   ·by_cases e2:a=o :: k
    ·subst e2;rw [X'o] at ha;cases ha;rw [List.all_eq_true] at h1 ⊢;intro c hc;obtain ⟨y,hy,rfl⟩:=List.mem_map.mp hc;exact h1 y hy
    ·rw [X'n a e1 e2] at ha;exact h.ok a l2 ha
  ow:=fun a l2 i n' sz' ha hi=>by
   by_cases e1:a=k
   ·rw [e1] at ha ⊢;rw [X'k] at ha;cases ha;rw [List.getElem?_set] at hi;by_cases e2:o=i
    ·subst e2;rw [if_pos rfl,if_pos hol] at hi;cases hi;refine ⟨Nat.le_max_right _ _,hz,?_⟩;rw [if_neg hn];exact ⟨_,X'o,by rw [List.length_map]; exact hl⟩
    ·rw [if_neg e2] at hi;obtain ⟨q1,q2,q3⟩:=h.ow _ _ _ _ _ hk hi;refine ⟨Nat.le_trans q1 (Nat.le_max_left _ _),q2,?_⟩;rw [X'n (i :: k) (X3c i k) (fun e=>e2 (by injection e with e3; exact e3.symm))];exact q3
   ·by_cases e2:a=o :: k
    ·subst e2;rw [X'o] at ha;cases ha;rw [List.getElem?_map] at hi;cases hq:vs[i]? with
     | none=>rw [hq] at hi; cases hi
     | some y=>rw [hq] at hi; cases hi
    ·rw [X'n a e1 e2] at ha;obtain ⟨q1,q2,q3⟩:=h.ow _ _ _ _ _ ha hi;refine ⟨Nat.le_trans q1 (Nat.le_max_left _ _),q2,?_⟩;have hio:i :: a ≠ o :: k:=fun e=>by injection e with e3 e4; exact e1 e4
     by_cases e3:i :: a=k
     ·rw [e3] at q3 ⊢;rw [hk] at q3;by_cases hz':n'=0
      ·rw [if_pos hz'] at q3; cases q3
      ·rw [if_neg hz'] at q3 ⊢;obtain ⟨l',q4,q5⟩:=q3;cases q4;exact ⟨_,X'k,by rw [List.length_set]; exact q5⟩
     ·rw [X'n _ e3 hio]; exact q3
  par:=fun i j a ha=>by
   by_cases e1:i :: j :: a=o :: k
   ·injection e1 with e2 e3;subst e2;rw [e3];exact ⟨_,n,sz,X'k,by rw [List.getElem?_set,if_pos rfl,if_pos hol],hn⟩
   ·obtain ⟨l5,n5,sz5,z1,z2,z3⟩:=h.par i j a (X'd _ ha e1);by_cases e2:j :: a=k
    ·rw [e2,hk] at z1;cases z1;have:o ≠ i:=fun e=>e1 (by rw [e,e2]);exact ⟨_,n5,sz5,by rw [e2]; exact X'k,by rw [List.getElem?_set,if_neg this]; exact z2,z3⟩
    ·by_cases e3:j :: a=o :: k
     ·rw [e3,hX] at z1; cases z1
     ·exact ⟨l5,n5,sz5,by rw [X'n _ e2 e3]; exact z1,z2,z3⟩ }
theorem NR.disown (h:NR cap m φ X) (hk:X k=some (.c l)) (ho:l[o]?=some (.s n sz)) (hs:∀ i,X (i :: o :: k)=none) :
  NR cap m φ ((X.set (o :: k) none).set k (some (.c (l.set o (.v (slV (φ (o :: k)) n sz)))))):=by
 have hol:o < l.length:=(List.getElem?_eq_some_iff.mp ho).1;let X':NX:=(X.set (o :: k) none).set k (some (.c (l.set o (.v (slV (φ (o :: k)) n sz)))));have X'k:X' k=some (.c (l.set o (.v (slV (φ (o :: k)) n sz)))):=NX.set_eq _ _ _;have X'o:X' (o :: k)=none:=by
  show (NX.set _ _ _) _=_;rw [NX.set_ne _ _ (X3c o k),NX.set_eq]
 have X'n:∀ a,a ≠ k->a ≠ o :: k->X' a=X a:=fun a h1 h2=>by
  show (NX.set _ _ _) _=_;rw [NX.set_ne _ _ h1,NX.set_ne _ _ h2]
 have X'd:∀ a,X' a ≠ none->X a ≠ none:=fun a ha=>by
  by_cases e:a=k
  ·subst e; rw [hk]; simp
  ·by_cases e2:a=o :: k
   ·rw [e2] at ha; exact absurd X'o ha
   ·rwa [X'n a e e2] at ha
 have X'ne:∀ a,X' a ≠ none->a ≠ o :: k:=fun a ha e=>by rw [e] at ha; exact ha X'o
 have hclk:cells φ k (l.set o (.v (slV (φ (o :: k)) n sz)))=cells φ k l:=by
  apply List.ext_getElem?;intro i;rw [Xm,List.getElem?_set,Xm];by_cases e:o=i
  ·subst e;rw [if_pos rfl,if_pos hol,ho];rfl
  ·rw [if_neg e]
 show NR _ _ _ X';exact {
  inj:=fun a b ha hb e=>h.inj a b (X'd a ha) (X'd b hb) e
  hi:=fun a ha=>h.hi a (X'd a ha)
  r2:=fun a ha=>h.r2 a (X'd a ha)
  at':=fun a ob ha=>by
   have hne:=X'ne a (by rw [ha]; simp);by_cases e1:a=k
   ·subst e1;rw [X'k] at ha;cases ha;obtain ⟨ty0,q⟩:=h.at' _ _ hk;refine ⟨ty0,?_⟩;rw [hclk];exact q
   ·rw [X'n a e1 hne] at ha;exact h.at' a ob ha
  ok:=fun a l2 ha=>by
   have hne:=X'ne a (by rw [ha]; simp);by_cases e1:a=k
   ·subst e1;rw [X'k] at ha;cases ha;have:=h.ok _ _ hk;rw [List.all_eq_true] at this ⊢;intro c hc;rcases List.mem_or_eq_of_mem_set hc with q | q
    ·exact this c q
    ·rw [q]; exact X76 _ _ _
   ·rw [X'n a e1 hne] at ha;exact h.ok a l2 ha
  ow:=fun a l2 i n' sz' ha hi=>by
   have hne:=X'ne a (by rw [ha]; simp);have key:∃ l3,X a=some (.c l3)/\l3[i]?=some (Cl.s n' sz')/\i :: a ≠ o :: k:=by
    by_cases e1:a=k
    ·subst e1;rw [X'k] at ha;cases ha;rw [List.getElem?_set] at hi;by_cases e2:o=i
     ·subst e2;rw [if_pos rfl,if_pos hol] at hi;cases hi
     ·rw [if_neg e2] at hi;exact ⟨l,hk,hi,fun e=>e2 (by injection e with e3; exact e3.symm)⟩
    ·rw [X'n a e1 hne] at ha;exact ⟨l2,ha,hi,fun e=>by injection e with e3 e4; exact e1 e4⟩
   obtain ⟨l3,w1,w2,w3⟩:=key;obtain ⟨q1,q2,q3⟩:=h.ow _ _ _ _ _ w1 w2;refine ⟨q1,q2,?_⟩;by_cases e3:i :: a=k
   ·rw [e3] at q3 ⊢;rw [hk] at q3;by_cases hz':n'=0
    ·rw [if_pos hz'] at q3; cases q3
    ·rw [if_neg hz'] at q3 ⊢;obtain ⟨l',q4,q5⟩:=q3;cases q4;exact ⟨_,X'k,by rw [List.length_set]; exact q5⟩
   ·rw [X'n _ e3 w3]; exact q3
  par:=fun i j a ha=>by
   have hne:=X'ne _ ha;obtain ⟨l5,n5,sz5,z1,z2,z3⟩:=h.par i j a (X'd _ ha);by_cases e2:j :: a=k
   ·rw [e2,hk] at z1;cases z1;have:o ≠ i:=fun e=>hne (by rw [e,e2]);exact ⟨_,n5,sz5,by rw [e2]; exact X'k,by rw [List.getElem?_set,if_neg this]; exact z2,z3⟩
   ·by_cases e3:j :: a=o :: k
    ·have:=X'd _ ha;rw [e3,hs i] at this;exact absurd rfl this
    ·exact ⟨l5,n5,sz5,by rw [X'n _ e2 e3]; exact z1,z2,z3⟩ }
theorem Wk.sub {m':Mem} {φ':Phi} {X1 X2:NX} (w:Wk m φ X1 m' φ' X2) (hs:∀ k,X1 k ≠ none->X k ≠ none):Wk m φ X m' φ' X2 where
 next:=w.next
 low:=w.low
 low2:=fun x a b c=>w.low2 x a b fun k hk=>c k (hs k hk)
 get:=fun b a c=>w.get b a fun k hk=>c k (hs k hk)
 lo:=w.lo
 nw:=fun k hk=>by
  rcases w.nw k hk with q | ⟨k0,q1,q2⟩
  ·exact .inl q
  ·grind
 kp:=by
  rcases w.kp with ⟨k,a,b⟩ | ⟨a,b⟩
  ·grind
  ·grind
theorem Wk.low_of (w:Wk m0 φ0 X0 m φ X) (hk:X k ≠ none) (h1:lo <= (φ k).b) (h2:lo <= m.low):∃ k0,X0 k0 ≠ none/\lo <= (φ0 k0).b:=by
 rcases w.kp with ⟨q,a,b⟩ | ⟨e1,e2⟩
 ·grind
 ·grind
theorem Wk.own {X':NX} (w:Wk m0 φ0 X0 m φ X) (hL:m0.next <= L.b) (hkp:∃ k0,X0 k0 ≠ none/\m.low <= (φ0 k0).b) (hX:∀ k,X' k ≠ none->k=q\/X k ≠ none):Wk m0 φ0 X0 m (φ.set q L) X' where
 next:=w.next
 low:=w.low
 low2:=w.low2
 get:=w.get
 lo:=w.lo
 nw:=fun k hk=>by
  by_cases e:k=q
  ·simp_all [Phi.set_eq,hL]
  ·rw [Phi.set_ne _ _ e];rcases hX k hk with h | h
   ·grind
   ·exact w.nw k h
 kp:=.inl hkp
end Go.Ab
namespace Go.Ab.Sh
open Go Go.Ab Go.Lib
variable {T b cap1 i n o r r' sz:Nat} {X X':NX} {cs cs' vs xs z zero:List Value} {k1 k2:Option Rs} {l:List Cl} {m' m1:Mem} {ty:Option Nat} {ws:List Str} {y:Value} {φ' φ1:Phi}
inductive Fd where
 | i (k:IntKind)
 | s
 | b
 | l (r:Nat)
 | f
def rowT:Nat->List Fd
 | 0=>[.s,.i .u8,.l 1,.l 2,.l 3,.l 5,.l 6,.l 7,.l 9,.l 12,.l 14,.l 16,.f,.s,.f,.b,.b,.i .i64]
 | 1=>[.s]
 | 2=>[.s,.s,.i .u32,.i .i64,.b,.s,.s,.i .u8,.i .i64,.i .i64,.b]
 | 3=>[.s,.l 4]
 | 4=>[.b,.i .i64,.i .u32,.i .i64,.i .u32,.i .i64,.i .u32,.i .u32,.i .u32,.i .u32]
 | 5=>[.b,.s,.i .u32]
 | 6=>[.s,.i .u32,.i .i64,.i .u32,.b,.i .i64,.i .i64]
 | 7=>[.s,.l 8]
 | 8=>[.b,.i .u32,.i .i64,.i .i64,.i .i64]
 | 9=>[.s,.l 10]
 | 10=>[.b,.l 11]
 | 11=>[.i .u32]
 | 12=>[.s,.l 13,.b]
 | 13=>[.i .i64,.i .u8,.s,.s,.i .i64,.i .i64,.i .i64,.i .i64,.i .i64,.i .i64,.l 11,.b,.l 11,.i .u32,.i .i64]
 | 14=>[.s,.i .u32,.l 15]
 | 15=>[.i .u8,.i .i64,.i .u8,.s]
 | 16=>[.s,.i .u32,.i .u32,.l 17,.l 18,.l 15]
 | 17=>[.i .u32,.i .i64]
 | 18=>[.i .u32,.i .u32,.s,.s,.b,.b]
 | _=>[.f]
def rowL (r:Nat):Nat:=(rowT r).length
theorem Xf8 (r:Nat):0 < rowL r:=by
 unfold rowL rowT;split <;> exact Nat.succ_pos _
def fdAt (r o:Nat):Option Fd:=(rowT r)[o % rowL r]?
theorem fdAt_row (r i f:Nat) (h:f < rowL r):fdAt r (i * rowL r + f)=(rowT r)[f]?:=by
 unfold fdAt;rw [Nat.mul_comm,Nat.mul_add_mod,Nat.mod_eq_of_lt h]
def kt:Key->Option Nat
 | []=>none
 | [a]=>if a=0 then some 0 else none
 | o :: k :: t=>(kt (k :: t)).bind fun r=>match fdAt r o with | some (.l r')=>some r' | _=>none
theorem X2d {k:Key} (h:kt k=some r) (hf:fdAt r o=some (.l r')):kt (o :: k)=some r':=by
 cases k with
 | nil=>cases h
 | cons a t =>
  show (kt (a :: t)).bind _=_;rw [h];show (match fdAt r o with | some (.l r')=>some r' | _=>none)=_
  rw [hf]
abbrev SB:Nat:=262144
def okc:Option Fd->Cl->Prop
 | some (.i k),.v x=>∃ n,x=.int k n
 | some .s,.v x=>∃ t:Str,x=sv t/\t.length <= SB
 | some .b,.v x=>∃ b,x=.bool b
 | some (.l r),.s _ sz=>sz=rowL r
 | some .f,.v _=>True
 | _,_=>False
structure WT (X:NX):Prop where
 root:∃ l,X [0]=some (.c l)/\l.length=18
 set:∃ w,X [2]=some (setO w)
 no1:X [1]=none
 ty:∀ k l,X k=some (.c l)->∃ r,kt k=some r/\∀ o c,l[o]?=some c->okc (fdAt r o) c
def cl (X:NX) (k:Key) (o:Nat):Cl:=match X k with | some (.c l)=>(l[o]?).getD (.v .nilFunc) | _=>.v .nilFunc
def nOf (X:NX) (k:Key) (o:Nat):Nat:=match cl X k o with | .s n _=>n | _=>0
def vOf (X:NX) (k:Key) (o:Nat):Value:=match cl X k o with | .v x=>x | _=>.nilFunc
def sOf (X:NX) (k:Key) (o:Nat):Str:=match vOf X k o with | .string b=>b.data.toList | _=>[]
def iOf (X:NX) (k:Key) (o:Nat):Int:=match vOf X k o with | .int _ n=>n | _=>0
def stF (X:NX) (k:Key) (o:Nat) (xs:List Value):NX:=match X k with | some (.c l)=>X.set k (some (.c (l.take o ++ xs.map .v ++ l.drop (o + xs.length)))) | _=>X
def apF (X:NX) (k:Key) (o:Nat) (cs:List Cl):NX:=match X k with | some (.c l)=>(X.set (o :: k) (some (.c (X25 X (o :: k) ++ cs)))).set k (some (.c (l.set o (.s (nOf X k o + 1) cs.length)))) | _=>X
theorem get_put {z:List Cl} (ho:o + z.length <= l.length) (i:Nat):(l.take o ++ z ++ l.drop (o + z.length))[i]?=if o <= i/\i < o + z.length then z[i - o]? else l[i]?:=by
 have e1:(l.take o).length=o:=by simp; omega
 rw [get3,e1];by_cases a:i < o
 ·rw [if_pos a,if_neg (by omega),List.getElem?_take,if_pos a]
 ·rw [if_neg a];by_cases b:i < o + z.length
  ·rw [if_pos b,if_pos ⟨by omega,b⟩]
  ·rw [if_neg b,if_neg (by omega),List.getElem?_drop,show o + z.length + (i - o - z.length)=i by omega]
theorem Xvr {z:List Cl} (ho:o + z.length <= l.length):(l.take o ++ z ++ l.drop (o + z.length)).length=l.length:=by simp; omega
theorem Xyd {f:Option Fd} {d:Cl} (h:okc f (.v y)) (h2:okc f d):∃ z,d=.v z:=by
 cases d with
 | v z=>exact ⟨z,rfl⟩
 | s n sz =>
  cases f with
  | none=>exact False.elim h
  | some g=>cases g <;> first | exact False.elim h2 | exact False.elim h
theorem X1l {k:Key} (h:kt k=some r):k ≠ [1]/\k ≠ [2]:=⟨fun e=>(by rw [e] at h; cases h),fun e=>(by rw [e] at h; cases h)⟩
theorem X1b {k:Key} (h:X k=some (.c l)) (o:Nat) (xs:List Value):stF X k o xs=X.set k (some (.c (l.take o ++ xs.map .v ++ l.drop (o + xs.length)))):=by unfold stF; rw [h]
theorem Xx9 {k:Key} (h:X k=some (.c l)) {c:Cl} (ho:l[o]?=some c):cl X k o=c:=by unfold cl; rw [h]; show (l[o]?).getD _=c; rw [ho]; rfl
theorem Xbf {k:Key} (h:X k=some (.c l)) (ho:l[o]?=some (.s n sz)) (cs:List Cl) (hs:cs.length=sz) :
  apF X k o cs=(X.set (o :: k) (some (.c (X25 X (o :: k) ++ cs)))).set k (some (.c (l.set o (.s (n + 1) sz)))):=by
 unfold apF nOf;rw [Xx9 h ho,h,hs]
theorem X3f {k:Key} (h:kt k=some r):k ≠ []:=fun e=>by rw [e] at h; cases h
theorem WT.get (w:WT X) {k:Key} (hk:X k=some (.c l)) (hr:kt k=some r) (ho:o < l.length):∃ c,l[o]?=some c/\okc (fdAt r o) c:=by
 obtain ⟨r',h1,h2⟩:=w.ty k l hk;rw [hr] at h1;cases h1;exact ⟨l[o],List.getElem?_eq_getElem ho,h2 o _ (List.getElem?_eq_getElem ho)⟩
theorem WT.st (w:WT X) {k:Key} (hk:X k=some (.c l)) (hr:kt k=some r) (ho:o + xs.length <= l.length) (hx:∀ i x,xs[i]?=some x->okc (fdAt r (o + i)) (.v x)):WT (stF X k o xs):=by
 obtain ⟨n1,n2⟩:=X1l hr;rw [X1b hk];exact {
  root:=by
   by_cases e:[0]=k
   ·obtain ⟨l0,a,b⟩:=w.root;rw [e,hk] at a;cases a;exact ⟨_,by rw [e]; exact NX.set_eq _ _ _,by simp; omega⟩
   ·rw [NX.set_ne _ _ e]; exact w.root
  set:=by rw [NX.set_ne _ _ (Ne.symm n2)]; exact w.set
  no1:=by rw [NX.set_ne _ _ (Ne.symm n1)]; exact w.no1
  ty:=fun k' l' h'=>by
   by_cases e:k'=k
   ·subst e;rw [NX.set_eq] at h';cases h';refine ⟨r,hr,fun j c hj=>?_⟩;obtain ⟨r',h1,h2⟩:=w.ty _ _ hk;rw [hr] at h1;cases h1;have e1:(l.take o).length=o:=by simp; omega
    rw [get3,e1,List.length_map] at hj;by_cases a:j < o
    ·rw [if_pos a,List.getElem?_take,if_pos a] at hj;exact h2 _ _ hj
    ·rw [if_neg a] at hj;by_cases b:j < o + xs.length
     ·rw [if_pos b,List.getElem?_map] at hj;cases hq:xs[j - o]? with
      | none=>rw [hq] at hj; cases hj
      | some y =>
       rw [hq] at hj;cases hj;have:=hx _ _ hq;rwa [show o + (j - o)=j by omega] at this
     ·rw [if_neg b,List.getElem?_drop,show o + xs.length + (j - o - xs.length)=j by omega] at hj;exact h2 _ _ hj
   ·rw [NX.set_ne _ _ e] at h';exact w.ty _ _ h' }
theorem WT.ap (w:WT X) {k:Key} {cs:List Cl} (hk:X k=some (.c l)) (hr:kt k=some r) (hf:fdAt r o=some (.l r')) (ho:l[o]?=some (.s n (rowL r'))) (hl:(X25 X (o :: k)).length=n * rowL r') (hc:cs.length=rowL r') (hcs:∀ (i:Nat) (c:Cl),cs[i]?=some c->okc ((rowT r')[i]?) c):WT (apF X k o cs):=by
 obtain ⟨n1,n2⟩:=X1l hr;have hr2:=X2d hr hf;obtain ⟨m1,m2⟩:=X1l hr2;rw [Xbf hk ho cs hc];have hol:o < l.length:=(List.getElem?_eq_some_iff.mp ho).1;exact {
  root:=by
   obtain ⟨l0,a,b⟩:=w.root;by_cases e:[0]=k
   ·rw [e,hk] at a;cases a;exact ⟨_,by rw [e]; exact NX.set_eq _ _ _,by simp; omega⟩
   ·have e2:[0] ≠ o :: k:=fun e=>by
     injection e with e3 e4;exact X3f hr e4.symm
    rw [NX.set_ne _ _ e,NX.set_ne _ _ e2]; exact ⟨l0,a,b⟩
  set:=by rw [NX.set_ne _ _ (Ne.symm n2),NX.set_ne _ _ (Ne.symm m2)]; exact w.set
  no1:=by rw [NX.set_ne _ _ (Ne.symm n1),NX.set_ne _ _ (Ne.symm m1)]; exact w.no1
  ty:=fun k' l' h'=>by
   by_cases e:k'=k
   ·subst e;rw [NX.set_eq] at h';cases h';refine ⟨r,hr,fun j c hj=>?_⟩;obtain ⟨r1,h1,h2⟩:=w.ty _ _ hk;rw [hr] at h1;cases h1;rw [List.getElem?_set] at hj;by_cases a:o=j
    ·subst a;rw [if_pos rfl,if_pos hol] at hj;cases hj;rw [hf];rfl
    ·rw [if_neg a] at hj;exact h2 _ _ hj
   ·rw [NX.set_ne _ _ e] at h';by_cases e2:k'=o :: k
    ·subst e2;rw [NX.set_eq] at h';cases h';refine ⟨r',hr2,fun j c hj=>?_⟩;by_cases a:j < n * rowL r'
     ·rw [List.getElem?_append_left (by omega)] at hj;have:X (o :: k)=some (.c (X25 X (o :: k))):=by
       unfold X25 at hj ⊢;split at hj
       ·rename_i hx; rw [hx]
       ·cases hj
      obtain ⟨r1,h1,h2⟩:=w.ty _ _ this;rw [hr2] at h1;cases h1;exact h2 _ _ hj
     ·rw [List.getElem?_append_right (by omega),hl] at hj;have hb:j - n * rowL r' < rowL r':=Nat.lt_of_lt_of_eq (List.getElem?_eq_some_iff.mp hj).1 hc;have:=hcs _ _ hj;have e3:fdAt r' j=(rowT r')[j - n * rowL r']?:=by
       rw [show j=n * rowL r' + (j - n * rowL r') by omega,fdAt_row _ _ _ (by omega)];congr 1;omega
      rw [e3];exact this
    ·rw [NX.set_ne _ _ e2] at h';exact w.ty _ _ h' }
theorem X84 (X:NX) (k:Key) (l:List Cl) (o:Nat):cl (X.set k (some (.c l))) k o=(l[o]?).getD (.v .nilFunc):=by unfold cl; rw [NX.set_eq]
theorem Xph (X:NX) {k k':Key} (b:Option NO) (o:Nat) (h:k' ≠ k):cl (X.set k b) k' o=cl X k' o:=by unfold cl; rw [NX.set_ne _ _ h]
theorem X6i {k:Key} (h:X k=some (.c l)) (o:Nat):cl X k o=(l[o]?).getD (.v .nilFunc):=by unfold cl; rw [h]
theorem Xp0 (w:WT X) {k:Key} (hk:X k=some (.c l)) (hr:kt k=some r) (ho:o + xs.length <= l.length) (hx:∀ i x,xs[i]?=some x->okc (fdAt r (o + i)) (.v x)) (k':Key) (o':Nat):nOf (stF X k o xs) k' o'=nOf X k' o':=by
 rw [X1b hk];unfold nOf;by_cases e:k'=k
 ·subst e;rw [X84,X6i hk];have g:=get_put (l:=l) (z:=xs.map Cl.v) (o:=o) (by rw [List.length_map]; exact ho) o';rw [List.length_map] at g;rw [g];by_cases p:o <= o'/\o' < o + xs.length
  ·rw [if_pos p,List.getElem?_map];obtain ⟨d,d1,d2⟩:=w.get hk hr (o:=o') (by omega);obtain ⟨y,hy⟩:∃ y,xs[o' - o]?=some y:=⟨_,List.getElem?_eq_getElem (by omega)⟩
   have:=hx _ _ hy;rw [show o + (o' - o)=o' by omega] at this;obtain ⟨z,rfl⟩:=Xyd this d2;rw [d1,hy];rfl
  ·rw [if_neg p]
 ·rw [Xph _ _ _ e]
theorem Xoo {k:Key} (hk:X k=some (.c l)) (ho:l[o]?=some (.s n sz)) (cs:List Cl) (hs:cs.length=sz) (k':Key) (o':Nat):nOf X k' o' <= nOf (apF X k o cs) k' o':=by
 rw [Xbf hk ho cs hs];have hol:o < l.length:=(List.getElem?_eq_some_iff.mp ho).1;unfold nOf;by_cases e:k'=k
 ·subst e;rw [X84,X6i hk,List.getElem?_set];by_cases q:o=o'
  ·subst q;rw [if_pos rfl,if_pos hol,ho];show n <= n + 1;omega
  ·rw [if_neg q]; exact Nat.le_refl _
 ·rw [Xph _ _ _ e];by_cases e2:k'=o :: k
  ·subst e2;rw [X84];cases hx:X (o :: k) with
   | none =>
    rw [show cl X (o :: k) o'=.v .nilFunc by unfold cl; rw [hx]];exact Nat.zero_le _
   | some ob =>
    cases ob with
    | m es c =>
     rw [show cl X (o :: k) o'=.v .nilFunc by unfold cl; rw [hx]];exact Nat.zero_le _
    | c l2 =>
     rw [X6i hx,show X25 X (o :: k)=l2 by unfold X25; rw [hx]];by_cases q:o' < l2.length
     ·rw [List.getElem?_append_left q]; exact Nat.le_refl _
     ·rw [List.getElem?_eq_none (l:=l2) (by omega)]; exact Nat.zero_le _
  ·rw [Xph _ _ _ e2]; exact Nat.le_refl _
def Ge (X X':NX):Prop:=∀ o,nOf X [0] o <= nOf X' [0] o/\nOf X [9,0] o <= nOf X' [9,0] o
theorem Ge.refl (X:NX):Ge X X:=fun _=>⟨Nat.le_refl _,Nat.le_refl _⟩
theorem Ge.to {X'':NX} (h:Ge X X') (g:∀ k o,k=[0]\/k=[9,0]->nOf X' k o <= nOf X'' k o):Ge X X'':=fun o=>⟨Nat.le_trans (h o).1 (g _ _ (.inl rfl)),Nat.le_trans (h o).2 (g _ _ (.inr rfl))⟩
theorem Xjl {a k:Key} (b:Option NO) (o:Nat) (h:k ≠ a):nOf (X.set a b) k o=nOf X k o:=by unfold nOf; rw [Xph _ _ _ h]
def adF (X:NX) (k:Key) (o:Nat) (vs:List Value):NX:=match X k with | some (.c l)=>(X.set (o :: k) (some (.c (vs.map .v)))).set k (some (.c (l.set o (.s vs.length 1)))) | _=>X
theorem Xhc {k:Key} (h:X k=some (.c l)) (o:Nat) (vs:List Value):adF X k o vs=(X.set (o :: k) (some (.c (vs.map .v)))).set k (some (.c (l.set o (.s vs.length 1)))):=by unfold adF; rw [h]
theorem Xu2 (j:Nat):fdAt 11 j=some (.i .u32):=by
 show (rowT 11)[j % 1]?=_;rw [Nat.mod_one]; rfl
theorem WT.adp (w:WT X) {k:Key} (hk:X k=some (.c l)) (hr:kt k=some r) (hf:fdAt r o=some (.l 11)) (ho:l[o]?=some (.s n 1)) (hv:∀ v ∈ vs,∃ z,v=.int .u32 z):WT (adF X k o vs):=by
 obtain ⟨n1,n2⟩:=X1l hr;have hr2:=X2d hr hf;obtain ⟨m1,m2⟩:=X1l hr2;rw [Xhc hk];have hol:o < l.length:=(List.getElem?_eq_some_iff.mp ho).1;exact {
  root:=by
   obtain ⟨l0,a,b⟩:=w.root;by_cases e:[0]=k
   ·rw [e,hk] at a;cases a;exact ⟨_,by rw [e]; exact NX.set_eq _ _ _,by simp; omega⟩
   ·have e2:[0] ≠ o :: k:=fun e=>by
     injection e with e3 e4;exact X3f hr e4.symm
    rw [NX.set_ne _ _ e,NX.set_ne _ _ e2]; exact ⟨l0,a,b⟩
  set:=by rw [NX.set_ne _ _ (Ne.symm n2),NX.set_ne _ _ (Ne.symm m2)]; exact w.set
  no1:=by rw [NX.set_ne _ _ (Ne.symm n1),NX.set_ne _ _ (Ne.symm m1)]; exact w.no1
  ty:=fun k' l' h'=>by
   by_cases e:k'=k
   ·subst e;rw [NX.set_eq] at h';cases h';refine ⟨r,hr,fun j c hj=>?_⟩;obtain ⟨r1,h1,h2⟩:=w.ty _ _ hk;rw [hr] at h1;cases h1;rw [List.getElem?_set] at hj;by_cases a:o=j
    ·subst a;rw [if_pos rfl,if_pos hol] at hj;cases hj;rw [hf];rfl
    ·rw [if_neg a] at hj;exact h2 _ _ hj
   ·rw [NX.set_ne _ _ e] at h';by_cases e2:k'=o :: k
    ·subst e2;rw [NX.set_eq] at h';cases h';refine ⟨11,hr2,fun j c hj=>?_⟩;rw [List.getElem?_map] at hj;cases hq:vs[j]? with
     | none=>rw [hq] at hj; cases hj
     | some y =>
      rw [hq] at hj;cases hj;rw [Xu2];exact hv y (List.mem_of_getElem? hq)
    ·rw [NX.set_ne _ _ e2] at h';exact w.ty _ _ h' }
theorem Xos {k:Key} (hk:X k=some (.c l)) (o:Nat) (vs:List Value) (k':Key) (o':Nat) (h1:k' ≠ k) (h2:k' ≠ o :: k):nOf (adF X k o vs) k' o'=nOf X k' o':=by
 rw [Xhc hk,Xjl _ _ h1,Xjl _ _ h2]
abbrev Wd:=Str × Nat
structure Cu where
 pl:Nat
 er:Option (Nat × Int)
structure Cx where
 C:Nat
 P:Nat
 O:Nat
 wb:Nat
 wv:Value
 ws:List Wd
 ln:Nat
 X0:NX
def Cu.line (c:Cx) (cu:Cu):Nat:=match cu.er with | some _=>c.ln | none=>0
def Cu.col (cu:Cu):Nat:=match cu.er with | some x=>x.1 | none=>0
def Cu.e (cu:Cu):Int:=match cu.er with | some x=>x.2 | none=>0
def cc (c:Cx) (cu:Cu):List Cl:=[.v c.wv,.v (I cu.pl),.v (I (cu.line c)),.v (I cu.col),.v (I cu.e)]
structure PSt where
 cu:Cu
 X:NX
 blk:Nat
 inn:Str
def blkV (c:Cx) (b:Nat):Value:=if b=0 then .nilFunc else .func (.func b) ⟨[pt c.P 0 0]⟩ ⟨[]⟩
def midV (c:Cx) (s:PSt):List Value:=[blkV c s.blk,sv s.inn,mapV c.O]
def toX (c:Cx) (s:PSt):NX:=(stF s.X [0] 12 (midV c s)).set [1] (some (.c (cc c s.cu)))
theorem Xu9 (c:Cx) (s:PSt) (cu:Cu):(toX c s).set [1] (some (.c (cc c cu)))=toX c { s with cu:=cu }:=by
 funext k;unfold toX NX.set;by_cases h:k=[1]
 ·simp [h]
 ·rw [if_neg h,if_neg h,if_neg h]; rfl
theorem Xje (c:Cx) (s:PSt):toX c s [1]=some (.c (cc c s.cu)):=NX.set_eq _ _ _
structure WL (c:Cx) (m:Mem):Prop where
 ne:c.ws ≠ []
 lt:c.wb < m.next
 at':∃ o r cs fro ro ty,c.wv=.slice (some ⟨c.wb,o,some 3⟩) c.ws.length r/\m.get c.wb=some (.cells cs (r / 2) fro ro ty)/\o + 3 * c.ws.length <= cs.length /\
  ∀ i w,c.ws[i]?=some w->cs[o + i * 3]?=some (sv w.1)/\cs[o + i * 3 + 1]?=some (I c.ln)/\cs[o + i * 3 + 2]?=some (I w.2)
 len:c.ws.length <= 65536
 txt:∀ w ∈ c.ws,w.1.length <= 65536/\w.2 <= 65536
structure SOk (c:Cx) (s:PSt):Prop where
 le:s.cu.pl <= c.ws.length
 ee:∀ x,s.cu.er=some x->x.2 ≠ 0/\x.2 ≠ 5
 wt:WT s.X
 il:s.inn.length <= SB
 ge:Ge c.X0 s.X
structure PS (c:Cx) (cap:Nat) (m:Mem) (φ:Phi) (s:PSt):Prop where
 nr:NR cap m φ (toX c s)
 wl:WL c m
 nb:∀ k,toX c s k ≠ none->(φ k).b ≠ c.wb
 pC:φ [1]=⟨c.C,0,0⟩
 pP:φ [0]=⟨c.P,0,0⟩
 pO:φ [2]=⟨c.O,0,0⟩
 ok:SOk c s
theorem PS.le {c:Cx} {cap:Nat} {m:Mem} {φ:Phi} {s:PSt} (h:PS c cap m φ s):s.cu.pl <= c.ws.length:=h.ok.le
theorem PS.ee {c:Cx} {cap:Nat} {m:Mem} {φ:Phi} {s:PSt} (h:PS c cap m φ s):∀ x,s.cu.er=some x->x.2 ≠ 0:=fun x hx=>(h.ok.ee x hx).1
theorem PS.e5 {c:Cx} {cap:Nat} {m:Mem} {φ:Phi} {s:PSt} (h:PS c cap m φ s):∀ x,s.cu.er=some x->x.2 ≠ 5:=fun x hx=>(h.ok.ee x hx).2
theorem PS.wt {c:Cx} {cap:Nat} {m:Mem} {φ:Phi} {s:PSt} (h:PS c cap m φ s):WT s.X:=h.ok.wt
theorem WL.wk {c:Cx} {m:Mem} {φ:Phi} (h:WL c m) (hb:∀ k,X k ≠ none->(φ k).b ≠ c.wb) (w:Wk m φ X m' φ' X'):WL c m':=by
 obtain ⟨o,r,cs,fro,ro,ty,h1,h2,h3⟩:=h.at';exact { h with
  lt:=Nat.lt_of_lt_of_le h.lt w.next
  at':=⟨o,r,cs,fro,ro,ty,h1,by rw [w.get _ h.lt hb]; exact h2,h3⟩ }
theorem PS.step {c:Cx} {cap cap':Nat} {m:Mem} {φ:Phi} {s s':PSt} (h:PS c cap m φ s) (n:NR cap' m' φ' (toX c s')) (w:Wk m φ (toX c s) m' φ' (toX c s')) (hC:φ' [0]=φ [0]/\φ' [1]=φ [1]/\φ' [2]=φ [2]) (ok:SOk c s'):PS c cap' m' φ' s' where
 nr:=n
 wl:=h.wl.wk h.nb w
 nb:=fun k hk=>by
  rcases w.nw k hk with q | ⟨k0,q1,q2⟩
  ·grind [h.wl.lt]
  ·rw [<- q2]; exact h.nb k0 q1
 pC:=by rw [hC.2.1]; exact h.pC
 pP:=by rw [hC.1]; exact h.pP
 pO:=by rw [hC.2.2]; exact h.pO
 ok:=ok
theorem PS.wl' {c:Cx} {cap:Nat} {m:Mem} {φ:Phi} {s:PSt} (h:PS c cap m φ s) (l:Nat):PS c cap (withLow m l) φ s:=
 { h with nr:=h.nr.withLow l,wl:={ h.wl with at':=h.wl.at' } }
theorem PS.call {c:Cx} {cap:Nat} {m:Mem} {φ:Phi} {s:PSt} (h:PS c cap m φ s) {b:Mem->Option Rs} (Q:Value->Nat->Phi->PSt->Prop)
  (go:∀ m0,PS c cap m0 φ s->∃ v m1 cap1 φ1 s1,b m0=some (v,m1)/\PS c cap1 m1 φ1 s1/\Wk m0 φ (toX c s) m1 φ1 (toX c s1)/\Q v cap1 φ1 s1) :
  ∃ v m2 cap1 φ1 s1,outOf m (b (withLow m m.next))=some (v,m2)/\PS c cap1 m2 φ1 s1/\Wk m φ (toX c s) m2 φ1 (toX c s1)/\Q v cap1 φ1 s1:=by
 obtain ⟨v,m1,cap1,φ1,s1,k1,k2,k3,k4⟩:=go _ (h.wl' m.next);obtain ⟨m2,q1,q2,q3⟩:=h.nr.call k1 k2.nr k3;exact ⟨v,m2,cap1,φ1,s1,q1,h.step q2 q3 ⟨by rw [h.pP,k2.pP],by rw [h.pC,k2.pC],by rw [h.pO,k2.pO]⟩ k2.ok,q3,k4⟩
def X27 (c:Cx) (cu:Cu):Bool:=cu.er.isNone && decide (cu.pl < c.ws.length)
def wdC (c:Cx) (i:Nat):Wd:=c.ws[i]?.getD ([],0)
def Xni (c:Cx) (cu:Cu):Nat:=(wdC c (max cu.pl 1 - 1)).2
def X3b (cu:Cu) (col:Nat) (e:Int):Cu:=if cu.er.isNone=true then { cu with er:=some (col,e) } else cu
def badC (c:Cx) (cu:Cu) (e:Int):Cu:=X3b cu (Xni c cu) e
def endC (c:Cx):Nat:=(wdC c (c.ws.length - 1)).2 + (wdC c (c.ws.length - 1)).1.length
def Xf (c:Cx) (cu:Cu):Str × Cu:=if X27 c cu=true then ((wdC c cu.pl).1,{ cu with pl:=cu.pl + 1 }) else ([],X3b cu (endC c) 130)
variable {c:Cx} {cap:Nat} {m:Mem} {φ:Phi} {s:PSt}
theorem Xwg {α:Type} (x:Bool) (a b n:Option α):brt (.bool x) a b n=if x=true then a else b:=by cases x <;> rfl
theorem PS.ld (h:PS c cap m φ s) {x:Value} (hx:(cc c s.cu)[o]?=some (.v x)):X8 false 1 (pt c.C o 0) m=some x:=by
 have:=h.nr.load (k:=[1]) (o:=o) (c:=.v x) (Xje c s) hx;rw [h.pC] at this;exact this
theorem PS.ld0 (h:PS c cap m φ s):X8 false 1 (pt c.C (0 + 0) 0) m=some c.wv:=h.ld rfl
theorem PS.ld1 (h:PS c cap m φ s):X8 false 1 (pt c.C (0 + 1) 0) m=some (I s.cu.pl):=h.ld rfl
theorem PS.ld4 (h:PS c cap m φ s):X8 false 1 (pt c.C (0 + 4) 0) m=some (I s.cu.e):=h.ld rfl
theorem PS.e0 (h:PS c cap m φ s):(s.cu.e=0) ↔ s.cu.er.isNone=true:=by
 unfold Cu.e;cases he:s.cu.er with
 | none=>simp
 | some x=>simp [h.ee x he]
theorem WL.len' {m:Mem} (h:WL c m) (m':Mem):lenK 1 c.wv m'=some (I c.ws.length):=by
 obtain ⟨o,r,cs,fro,ro,ty,h1,h2,h3⟩:=h.at';rw [h1]; exact Xa6 _ _ _ _
theorem Xhv (h:i < c.ws.length):c.ws[i]?=some (wdC c i):=by
 unfold wdC;rw [List.getElem?_eq_getElem h]; rfl
theorem WL.ix {m:Mem} (h:WL c m) (hi:i < c.ws.length):∃ p:Nat->Value,Xa 3 c.wv (I i)=some (p 0)/\(∀ j k,Xx k (p j)=some (p (j + k)))/\X8 false 1 (p 0) m=some (sv (wdC c i).1) /\
  X8 false 1 (p 1) m=some (I c.ln)/\X8 false 1 (p 2) m=some (I (wdC c i).2)/\X8 true 2 (p 1) m=some (.agg ⟨[I c.ln,I (wdC c i).2]⟩)/\X8 true 3 (p 0) m=some (.agg ⟨[sv (wdC c i).1,I c.ln,I (wdC c i).2]⟩):=by
 obtain ⟨o,r,cs,fro,ro,ty,h1,h2,h3,h4⟩:=h.at';obtain ⟨g1,g2,g3⟩:=h4 i _ (Xhv hi);have hb:i * 3 + 3 <= 3 * c.ws.length:=by omega
 refine ⟨fun j=>pt c.wb (o + i * 3 + j) (r / 2),?_,fun j k=>?_,X12 h2 g1,X12 h2 g2,X12 h2 g3,Xv h2 (by omega) ?_,Xv h2 (by omega) ?_⟩
 ·rw [h1,X2b];show (match Nat.blt i c.ws.length && X43 (some 3) 3 with | true=>_ | false=>_)=_
  rw [Nat.blt_eq.mpr hi,X1q];rfl
 ·show Xx k (pt c.wb (o + i * 3 + j) (r / 2))=some (pt c.wb (o + i * 3 + (j + k)) (r / 2));rw [X9,Nat.add_assoc]
 ·rw [List.drop_eq_getElem_cons (by omega),List.drop_eq_getElem_cons (by omega)];rw [List.getElem?_eq_getElem (by omega)] at g2 g3;show List.take 2 (_ :: _ :: _)=_;rw [Option.some.inj g2];have:cs[o + i * 3 + 1 + 1]=I (wdC c i).2:=Option.some.inj g3;rw [this]; rfl
 ·rw [List.drop_eq_getElem_cons (by omega),List.drop_eq_getElem_cons (by omega),List.drop_eq_getElem_cons (by omega)];rw [List.getElem?_eq_getElem (by omega)] at g1 g2 g3;show List.take 3 (_ :: _ :: _ :: _)=_;have e1:cs[o + i * 3 + 0]=sv (wdC c i).1:=Option.some.inj g1;have e2:cs[o + i * 3 + 0 + 1]=I c.ln:=Option.some.inj g2;have e3:cs[o + i * 3 + 0 + 1 + 1]=I (wdC c i).2:=Option.some.inj g3;rw [e1,e2,e3]; rfl
theorem wrap64 (n:Nat) (h:n < 9223372036854775808):IntKind.i64.wrap (n:Int)=(n:Int):=IntWalk.i64_in _ ⟨by show (-9223372036854775808:Int) <= (n:Int); omega,by show (n:Int) <= 9223372036854775807; omega⟩
theorem c_more (h:PS c cap m φ s) (d:Nat):TA (d + 1) Q1k [pt c.C 0 0] m=some (.bool (X27 c s.cu),m):=by
 rw [X8l];refine X1t (m1:=withLow m m.next) ?_ (Fr.refl _ _) rfl;have k:=h.wl' m.next;generalize withLow m m.next=m0 at k;delta Q5r Qdx Q9v K;simp only [Xh,X9,X3,k.ld4,k.ld0,k.ld1,k.wl.len',Q79,Q1d,Xwg];unfold X27;have:=k.e0;by_cases he:s.cu.e=0
 ·rw [decide_eq_true he,if_pos rfl,this.mp he];simp
 ·rw [decide_eq_false he,if_neg (by decide)];have:s.cu.er.isNone=false:=by
   cases hh:s.cu.er.isNone with
   | false=>rfl
   | true=>exact absurd (this.mpr hh) he
  rw [this]; rfl
variable {c:Cx} {cap:Nat} {m:Mem} {φ:Phi} {s:PSt}
abbrev posV (l col:Nat):Value:=.agg ⟨[I l,I col]⟩
theorem Xzp (h:PS c cap m φ s):max s.cu.pl 1 - 1 < c.ws.length:=by
 have:=h.le;have:0 < c.ws.length:=List.length_pos_iff.mpr h.wl.ne;omega
theorem Xz5 (a b:Nat):aMax (I a) (I b)=some (I (max a b:Nat)):=by
 show some (Value.int .i64 (if (b:Int) > (a:Int) then (b:Int) else (a:Int)))=_;congr 2;split <;> omega
theorem c_last (h:PS c cap m φ s) (d:Nat):TA (d + 1) Qbg [pt c.C 0 0] m=some (posV c.ln (Xni c s.cu),m):=by
 rw [X8n];have k:=h.wl' m.next;have hl:=h.wl.len;have hp:=h.le;obtain ⟨m2,n1,n2,n3,n4⟩:=X2c [] (withLow m m.next) (some (2 * Q8 + 1)) Q3 (v:=posV c.ln (Xni c s.cu)) (n:=2) rfl rfl rfl;refine X1t (m1:=m2) ?_ n2 rfl;have k2:=(k.nr.push (.cells Q3 0 0 false (some (2 * Q8 + 1)))).1;have w2:=(k.nr.push (.cells Q3 0 0 false (some (2 * Q8 + 1)))).2;have P2:=k.step k2 w2 ⟨rfl,rfl,rfl⟩ k.ok;generalize hm0:(withLow m m.next).push (.cells Q3 0 0 false (some (2 * Q8 + 1)))=m0 at n1 n2 n3 n4 k2 P2;have hm:Q40 ⟨TA d,18446744073709551616⟩ (pt c.C 0 0) (withLow m m.next)=some (posV c.ln (Xni c s.cu),m2):=by
  delta Q40 qz qa B qq S Y A;rw [Xp,hm0];obtain ⟨p,p1,p2,_,_,_,p3,_⟩:=P2.wl.ix (Xzp h);have e1:bin .sub true true .int (I (max s.cu.pl 1:Nat)) (.int .i64 1)=some (I (max s.cu.pl 1 - 1:Nat)):=by
   rw [Qhs];have:((max s.cu.pl 1:Nat):Int) - 1=((max s.cu.pl 1 - 1:Nat):Int):=by omega
   rw [this,wrap64 _ (by omega)]
  have l2:X8 true 2 (pt (withLow m m.next).next 0 0) m2=some (posV c.ln (Xni c s.cu)):=Xv n4 (by show 2 <= 2; omega) rfl;simp only [Xh,X9,X3,P2.ld0,P2.ld1];rw [show aMax (I s.cu.pl) (.int .i64 1)=_ from Xz5 s.cu.pl 1];simp only [X3,e1,p1,p2,Nat.zero_add,p3];have n1:Xd 2 (pt (withLow m m.next).next 0 0) (posV c.ln (wdC c (max s.cu.pl 1 - 1)).2) m0=some m2:=n1;rw [n1,Xo,l2];rfl
 exact hm
theorem c_fail (h:PS c cap m φ s) (col:Nat) (e:Int) (he:e ≠ 0/\e ≠ 5) (d:Nat):∃ m',TA (d + 1) Q10 [pt c.C 0 0,posV c.ln col,.int .i64 e] m=some (.tuple ⟨[]⟩,m')/\PS c cap m' φ { s with cu:=X3b s.cu col e }/\Wk m φ (toX c s) m' φ (toX c { s with cu:=X3b s.cu col e }):=by
 rw [X8e];obtain ⟨v,m2,cap1,φ1,s1,q1,q2,q3,rfl,rfl,rfl,rfl⟩:=h.call (b:=Q42 ⟨TA d,18446744073709551616⟩ (posV c.ln col) (pt c.C 0 0) (.int .i64 e)) (fun v cap1 φ1 s1=>v=.tuple ⟨[]⟩/\cap1=cap/\φ1=φ/\s1={ s with cu:=X3b s.cu col e }) (fun m0 k=>by
  delta Q42 D qc qr qa T Z S qg A qv;have hn:aNew Q8 (Value.cells (posV c.ln col)).toList m0=(pt m0.next 0 0,m0.push (.cells [I c.ln,I col] 0 0 false (some (2 * Q8 + 1)))):=rfl;obtain ⟨k2,w2⟩:=k.nr.push (.cells [I c.ln,I col] 0 0 false (some (2 * Q8 + 1)));have P2:=k.step k2 w2 ⟨rfl,rfl,rfl⟩ k.ok;have l2:X8 true 2 (pt m0.next 0 0) (m0.push (.cells [I c.ln,I col] 0 0 false (some (2 * Q8 + 1))))=some (posV c.ln col):=Xv (by rw [Mem.get_push,if_pos rfl]) (by simp) rfl;rw [hn,X4];generalize m0.push (.cells [I c.ln,I col] 0 0 false (some (2 * Q8 + 1)))=m1 at k2 w2 P2 l2;simp only [Xh,X9,X3,P2.ld4,Q79,Xt];have e0:=h.e0;by_cases hz:s.cu.e=0
  ·rw [if_pos hz];have hf:X3b s.cu col e={ s.cu with er:=some (col,e) }:=by unfold X3b; rw [if_pos (e0.mp hz)]
   obtain ⟨m3,a1,a2,a3⟩:=P2.nr.put' (k:=[1]) 2 2 (posV c.ln col) [.v c.wv,.v (I s.cu.pl),.v (I c.ln),.v (I col),.v (I s.cu.e)] (Xje c s) rfl rfl (by show 2 + 2 <= 5; omega) (fun i hi=>by
    have:i=0\/i=1:=by omega
    rcases this with rfl | rfl <;> exact ⟨_,rfl⟩) rfl
   rw [P2.pC] at a1;have a1:Xd 2 (pt c.C (0 + 2) 0) (posV c.ln col) m1=some m3:=a1;obtain ⟨m4,b1,b2,b3⟩:=a2.put' (k:=[1]) 4 1 (.int .i64 e) (cc c (X3b s.cu col e)) (NX.set_eq _ _ _) rfl rfl (by simp) (fun i hi=>by
    grind) (by rw [hf]; rfl)
   rw [P2.pC] at b1;have b1:Xd 1 (pt c.C (0 + 4) 0) (.int .i64 e) m3=some m4:=b1;rw [NX.set_set,Xu9] at b2 b3;have W:=(w2.trans a3).trans b3;refine ⟨_,m4,cap,φ,_,?_,k.step b2 W ⟨rfl,rfl,rfl⟩ ⟨by rw [hf]; exact k.le,by grind,k.ok.wt,k.ok.il,k.ok.ge⟩,W,rfl,rfl,rfl,rfl⟩;rw [l2,X3,a1,Xo,b1,Xo]
  ·rw [if_neg hz];have hf:X3b s.cu col e=s.cu:=by simp_all [X3b,if_neg,hz,e0.mpr]
   exact ⟨_,m1,cap,φ,s,rfl,P2,w2,rfl,rfl,rfl,by rw [hf]⟩)
 exact ⟨m2,q1,q2,q3⟩
theorem c_bad (h:PS c cap m φ s) (e:Int) (he:e ≠ 0/\e ≠ 5) (d:Nat):∃ m',TA (d + 2) Q5 [pt c.C 0 0,.int .i64 e] m=some (.tuple ⟨[]⟩,m')/\PS c cap m' φ { s with cu:=badC c s.cu e }/\Wk m φ (toX c s) m' φ (toX c { s with cu:=badC c s.cu e }):=by
 rw [X9h];obtain ⟨v,m2,cap1,φ1,s1,q1,q2,q3,rfl,rfl,rfl,rfl⟩:=h.call (b:=Q4p ⟨TA (d + 1),18446744073709551616⟩ (pt c.C 0 0) (.int .i64 e)) (fun v cap1 φ1 s1=>v=.tuple ⟨[]⟩/\cap1=cap/\φ1=φ/\s1={ s with cu:=badC c s.cu e }) (fun m0 k=>by
  delta Q4p C qo;obtain ⟨m1,a1,a2,a3⟩:=c_fail k (Xni c s.cu) e he d;refine ⟨_,m1,cap,φ,_,?_,a2,a3,rfl,rfl,rfl,rfl⟩;simp only [c_last k d,X4,a1])
 exact ⟨m2,q1,q2,q3⟩
def CuC (c:Cx) (cap:Nat) (m:Mem) (φ:Phi) (s:PSt) (x:Option Rs) (v:Value) (cu:Cu):Prop:=
 ∃ m',x=some (v,m')/\PS c cap m' φ { s with cu:=cu }/\Wk m φ (toX c s) m' φ (toX c { s with cu:=cu })
variable {x:Option Rs} {k:Value->Mem->Option Rs} {v w:Value} {cu cu1:Cu}
theorem CuC.bind (h:CuC c cap m φ s x w cu1) (g:∀ m1,PS c cap m1 φ { s with cu:=cu1 }->CuC c cap m1 φ { s with cu:=cu1 } (k w m1) v cu):CuC c cap m φ s (bp x k) v cu:=by
 obtain ⟨m1,a1,a2,a3⟩:=h;obtain ⟨m2,b1,b2,b3⟩:=g m1 a2;exact ⟨m2,by rw [a1,X4]; exact b1,b2,a3.trans b3⟩
theorem CuC.ret (h:PS c cap m φ s) (v:Value):CuC c cap m φ s (some (v,m)) v s.cu:=⟨m,rfl,h,Wk.refl _ _ _⟩
theorem CuC.pur (hx:x=some (w,m)) (g:CuC c cap m φ s (k w m) v cu):CuC c cap m φ s (bp x k) v cu:=by subst hx; exact g
theorem PS.cu' (h:PS c cap m φ s) {b:Mem->Option Rs} (ht:x=outOf m (b (withLow m m.next))) (go:∀ m0,PS c cap m0 φ s->CuC c cap m0 φ s (b m0) v cu):CuC c cap m φ s x v cu:=by
 subst ht;obtain ⟨v',m2,cap1,φ1,s1,q1,q2,q3,rfl,rfl,rfl,rfl⟩:=h.call (b:=b) (fun v' cap1 φ1 s1=>v'=v/\cap1=cap/\φ1=φ/\s1={ s with cu:=cu }) (fun m0 k=>by
  obtain ⟨m1,a1,a2,a3⟩:=go m0 k;exact ⟨_,m1,cap,φ,_,a1,a2,a3,rfl,rfl,rfl,rfl⟩)
 exact ⟨m2,q1,q2,q3⟩
theorem Xcl (h:PS c cap m φ s) (col:Nat) (e:Int) (he:e ≠ 0/\e ≠ 5) (d:Nat):CuC c cap m φ s (TA (d + 1) Q10 [pt c.C 0 0,posV c.ln col,.int .i64 e] m) (.tuple ⟨[]⟩) (X3b s.cu col e):=c_fail h col e he d
theorem X3t (h:PS c cap m φ s) (e:Int) (he:e ≠ 0/\e ≠ 5) (d:Nat):CuC c cap m φ s (TA (d + 2) Q5 [pt c.C 0 0,.int .i64 e] m) (.tuple ⟨[]⟩) (badC c s.cu e):=c_bad h e he d
theorem Xof (h:PS c cap m φ s) (hlt:s.cu.pl < c.ws.length) {g:Mem->Option Rs} (hg:∀ m',PS c cap m' φ { s with cu:={ s.cu with pl:=s.cu.pl + 1 } }->CuC c cap m' φ { s with cu:={ s.cu with pl:=s.cu.pl + 1 } } (g m') v cu) :
  CuC c cap m φ s (bp (unt (Xd 1 (pt c.C (0 + 1) 0) (I (s.cu.pl + 1:Nat)) m)) fun _ m=>g m) v cu:=by
 obtain ⟨m3,a1,a2,a3⟩:=h.nr.put' (k:=[1]) 1 1 (I (s.cu.pl + 1:Nat)) (cc c { s.cu with pl:=s.cu.pl + 1 }) (Xje c s) rfl rfl (by show 1 + 1 <= 5; omega) (fun i hi=>by
  have:i=0:=by omega
  subst this; exact ⟨_,rfl⟩) rfl
 rw [h.pC] at a1;have a1:Xd 1 (pt c.C (0 + 1) 0) (I (s.cu.pl + 1:Nat)) m=some m3:=a1;rw [Xu9] at a2 a3;have P:=h.step (s':={ s with cu:={ s.cu with pl:=s.cu.pl + 1 } }) a2 a3 ⟨rfl,rfl,rfl⟩ ⟨by grind,h.ok.ee,h.ok.wt,h.ok.il,h.ok.ge⟩;obtain ⟨m4,b1,b2,b3⟩:=hg m3 P;exact ⟨m4,by rw [a1,Xo]; exact b1,b2,a3.trans b3⟩
theorem add1 (h:PS c cap m φ s):bin .add true true .int (I s.cu.pl) (.int .i64 1)=some (I (s.cu.pl + 1:Nat)):=by
 have:=h.le;have:=h.wl.len;rw [Q35];have e:((s.cu.pl:Nat):Int) + 1=((s.cu.pl + 1:Nat):Int):=by omega
 rw [e,wrap64 _ (by omega)]
theorem X93 (h:X27 c s.cu=true):s.cu.pl < c.ws.length:=by
 unfold X27 at h;simp only [Bool.and_eq_true,decide_eq_true_eq] at h;exact h.2
theorem Xtu (h:PS c cap m φ s):0 < c.ws.length:=List.length_pos_iff.mpr h.wl.ne
theorem X63 (b:Bool):un .not (.bool b)=some (.bool !b):=by rfl
theorem X2x (h:PS c cap m φ s) (d:Nat):CuC c cap m φ s (TA (d + 2) Qe [pt c.C 0 0] m) (sv (Xf c s.cu).1) (Xf c s.cu).2:=by
 refine h.cu' (X91 _ _ _) fun m0 k=>?_;delta Q5t C O H D qc qa B N K T Z S Y X A E;refine .pur (c_more k d) ?_;unfold Xf;have hlen:=h.wl.len;cases hm:X27 c s.cu with
 | false =>
  simp only [X63,Bool.not_false,X3,X7,Bool.false_eq_true,if_false];have hp:=Xtu h;obtain ⟨p,p1,p2,_,_,_,_,p3⟩:=k.wl.ix (i:=c.ws.length - 1) (by omega);have e1:bin .sub true true .int (I c.ws.length) (.int .i64 1)=some (I (c.ws.length - 1:Nat)):=by
   rw [Qhs];have:((c.ws.length:Nat):Int) - 1=((c.ws.length - 1:Nat):Int):=by omega
   rw [this,wrap64 _ (by omega)]
  simp only [Xh,X9,X3,k.ld0,k.wl.len',e1,p1,p3,Xp];obtain ⟨m2,n1,n2,n3,n4⟩:=X2c [] m0 (some (2 * Qag + 1)) Qf6 (v:=.agg ⟨[sv (wdC c (c.ws.length - 1)).1,I c.ln,I (wdC c (c.ws.length - 1)).2]⟩) (n:=3) rfl rfl rfl;have n1:Xd 3 (pt m0.next 0 0) (.agg ⟨[sv (wdC c (c.ws.length - 1)).1,I c.ln,I (wdC c (c.ws.length - 1)).2]⟩) (m0.push (.cells Qf6 0 0 false (some (2 * Qag + 1))))=some m2:=n1;have W:Wk m0 φ (toX c s) m2 φ (toX c s):=⟨n2.next,n2.low,fun x a b e=>n2.low2 x a b (by simp),fun b hb hk=>n2.get b hb (by simp),n2.lo,fun k hk=>.inr ⟨k,hk,rfl⟩,.inr ⟨fun _ _=>rfl,fun _ h=>h⟩⟩
  have P2:PS c cap m2 φ s:=k.step (k.nr.same n2.next fun q hq=>n2.get _ (k.nr.hi q hq) (by simp)) W ⟨rfl,rfl,rfl⟩ k.ok;have l1:X8 false 1 (pt m0.next (0 + 1 + 0) 0) m2=some (I c.ln):=X12 n4 rfl;have l2:X8 false 1 (pt m0.next (0 + 1 + 1) 0) m2=some (I (wdC c (c.ws.length - 1)).2):=X12 n4 rfl;have l0:X8 false 1 (pt m0.next (0 + 0) 0) m2=some (sv (wdC c (c.ws.length - 1)).1):=X12 n4 rfl;have ht:=h.wl.txt _ (List.mem_of_getElem? (Xhv (c:=c) (i:=c.ws.length - 1) (by omega)));have e2:bin .add false true .int (I (wdC c (c.ws.length - 1)).2) (I (wdC c (c.ws.length - 1)).1.length)=some (I (endC c)):=by
   grind [Q35,endC,Int.natCast_add,wrap64]
  have e3:Xg Q3 [(0,1),(1,1)] [(0,I c.ln),(1,I (endC c))]=some (posV c.ln (endC c)):=Eq.trans rfl rfl;simp only [n1,Xo,X9,X3,l1,l2,l0,X36,e2,e3];obtain ⟨m3,f1,f2,f3⟩:=Xcl P2 (endC c) 130 (by decide) d;exact ⟨m3,by simp only [f1,X4]; rfl,f2,W.trans f3⟩
 | true =>
  have hlt:=X93 hm;simp only [X63,Bool.not_true,X3,X6,if_true,Xh,X9,k.ld1,add1 k];refine Xof k hlt fun m1 P=>?_;obtain ⟨p,p1,p2,p3,_⟩:=P.wl.ix (i:=s.cu.pl) hlt;have e1:bin .sub true true .int (I (s.cu.pl + 1:Nat)) (.int .i64 1)=some (I s.cu.pl):=by
   rw [Qhs];have:((s.cu.pl + 1:Nat):Int) - 1=((s.cu.pl:Nat):Int):=by omega
   rw [this,wrap64 _ (by omega)]
  have l1:X8 false 1 (pt c.C (0 + 1) 0) m1=some (I (s.cu.pl + 1:Nat)):=P.ld1;simp only [X3,P.ld0,l1,e1,p1,p2,Nat.zero_add,p3];exact .ret P _
variable {c:Cx} {cap:Nat} {m:Mem} {φ:Phi} {s:PSt}
def isC (c:Cx) (cu:Cu) (w:Str):Bool × Cu:=if X27 c cu=true/\(wdC c cu.pl).1=w then (true,{ cu with pl:=cu.pl + 1 }) else (false,cu)
def Xbm (c:Cx) (cu:Cu) (w:Str):Cu:=if (Xf c cu).1=w then (Xf c cu).2 else badC c (Xf c cu).2 130
def X17 (c:Cx) (cu:Cu):Str × Cu:=((Xf c cu).1,if Xp6 (Xf c cu).1=true then (Xf c cu).2 else badC c (Xf c cu).2 130)
def vrfC (c:Cx) (cu:Cu):Str × Cu:=if (isC c cu [118,114,102]).1=true then X17 c (isC c cu [118,114,102]).2 else ([],(isC c cu [118,114,102]).2)
theorem X2w (h:PS c cap m φ s):(Xf c s.cu).1.length <= 65536:=by
 unfold Xf;split
 ·rename_i hm;exact (h.wl.txt _ (List.mem_of_getElem? (Xhv (X93 hm)))).1
 ·simp
theorem Xw0 {b:Bool} {v:Value} {cu:Cu} (h1:b=true->CuC c cap m φ s k1 v cu) (h2:b=false->CuC c cap m φ s k2 v cu):CuC c cap m φ s (brb (.bool b) k1 k2) v cu:=by
 cases b with
 | true=>exact h1 rfl
 | false=>exact h2 rfl
theorem X5n (h:PS c cap m φ s) (w:Str) (d:Nat):CuC c cap m φ s (TA (d + 2) Qg [pt c.C 0 0,sv w] m) (.bool (isC c s.cu w).1) (isC c s.cu w).2:=by
 refine h.cu' (Xan _ _ _ _) fun m0 k=>?_;unfold Q7v Qga;refine .pur (c_more k d) ?_;rw [Xwg];delta Qbh Q qa B K Z X qe A qf;unfold isC;cases hm:X27 c s.cu with
 | false =>
  simp only [Bool.false_eq_true,if_false,false_and];exact .ret k _
 | true =>
  have hlt:=X93 hm;obtain ⟨p,p1,p2,p3,_⟩:=k.wl.ix (i:=s.cu.pl) hlt;simp only [if_true,true_and,Xh,X9,X3,k.ld0,k.ld1,p1,p2,Nat.zero_add,p3,Qw,add1 k];by_cases hw:(wdC c s.cu.pl).1=w
  ·rw [decide_eq_true hw,X7,if_pos hw];exact Xof k hlt fun m1 P=>.ret P _
  ·rw [decide_eq_false hw,X6,if_neg hw];exact .ret k _
theorem Xq9 (h:PS c cap m φ s) (w:Str) (d:Nat):CuC c cap m φ s (TA (d + 3) Q8e [pt c.C 0 0,sv w] m) (.tuple ⟨[]⟩) (Xbm c s.cu w):=by
 refine h.cu' (X8a _ _ _ _) fun m0 k=>?_;delta Q5o C D A qo qv;refine .bind (X2x k d) fun m1 P=>?_;simp only [Qmw,X3];unfold Xbm;refine Xw0 (fun hb=>?_) (fun hb=>?_)
 ·have hb:=of_decide_eq_true hb;rw [if_neg hb];exact .bind (X3t P 130 (by decide) d) fun m2 P2=>.ret P2 _
 ·have hb:=Decidable.not_not.mp (of_decide_eq_false hb);rw [if_pos hb];exact .ret P _
theorem X38 (h:PS c cap m φ s) (d:Nat):CuC c cap m φ s (TA (d + 5) Qd [pt c.C 0 0] m) (sv (X17 c s.cu).1) (X17 c s.cu).2:=by
 have hl:=X2w h;refine h.cu' (X8b _ _ _) fun m0 k=>?_;delta Q5u Qe4 C;refine .bind (X2x k (d + 2)) fun m1 P=>?_;delta Qe3 Q9x C D K A;unfold X17;simp only [c_lexName _ (Nat.le_trans hl (by decide)) d,X4,X63,X3];refine Xw0 (fun hb=>?_) (fun hb=>?_)
 ·have:Xp6 (Xf c s.cu).1=false:=by grind
  rw [this];exact .bind (X3t P 130 (by decide) (d + 2)) fun m2 P2=>.ret P2 _
 ·have:Xp6 (Xf c s.cu).1=true:=by grind
  rw [this];exact .ret P _
theorem Xpg (h:PS c cap m φ s) (d:Nat):CuC c cap m φ s (TA (d + 6) Q6g [pt c.C 0 0] m) (sv (vrfC c s.cu).1) (vrfC c s.cu).2:=by
 refine h.cu' (X9v _ _ _) fun m0 k=>?_;delta Q6o C Q K E;refine .bind (X5n k [118,114,102] (d + 3)) fun m1 P=>?_;unfold vrfC;refine Xw0 (fun hb=>?_) (fun hb=>?_)
 ·rw [hb,if_pos rfl];exact .bind (X38 P d) fun m2 P2=>.ret P2 _
 ·rw [hb,if_neg (by decide)];exact .ret P _
abbrev Tmp:=Nat × Nat × List Value
structure W (c:Cx) (m0:Mem) (φ0:Phi) (s0:PSt) (cap:Nat) (m:Mem) (φ:Phi) (s:PSt) (ts:List Tmp):Prop where
 ps:PS c cap m φ s
 wk:Wk m0 φ0 (toX c s0) m φ (toX c s)
 wb:c.wb < m0.next
 lt:∀ t ∈ ts,m0.next <= t.1/\t.1 < m.next
 nx:∀ t ∈ ts,∀ k,toX c s k ≠ none->(φ k).b ≠ t.1
 at':∀ t ∈ ts,∃ ty,m.get t.1=some (.cells t.2.2 t.2.1 0 false ty)
 nd:(ts.map (·.1)).Nodup
def Res (c:Cx) (m0:Mem) (φ0:Phi) (s0:PSt) (x:Option Rs) (Q:Value->Nat->Phi->PSt->Prop):Prop:=
 ∃ v m1 cap1 φ1 s1,x=some (v,m1)/\PS c cap1 m1 φ1 s1/\Wk m0 φ0 (toX c s0) m1 φ1 (toX c s1)/\Q v cap1 φ1 s1
abbrev Q_c (cap:Nat) (φ:Phi) (s:PSt) (v:Value) (cu:Cu):Value->Nat->Phi->PSt->Prop:=fun v' cap1 φ1 s1=>v'=v/\cap1=cap/\φ1=φ/\s1={ s with cu:=cu }
variable {c:Cx} {m0 m:Mem} {φ0 φ:Phi} {s0 s:PSt} {cap:Nat} {ts:List Tmp} {x:Option Rs} {Q:Value->Nat->Phi->PSt->Prop} {v:Value} {cu:Cu}
theorem W.start (h:PS c cap m φ s):W c m φ s cap m φ s []:=
 ⟨h,Wk.refl _ _ _,h.wl.lt,fun _ h=>(by cases h),fun _ h=>(by cases h),fun _ h=>(by cases h),List.nodup_nil⟩
theorem CuC.ofRes (h:Res c m φ s x (Q_c cap φ s v cu)):CuC c cap m φ s x v cu:=by
 obtain ⟨v',m1,cap1,φ1,s1,a1,a2,a3,rfl,rfl,rfl,rfl⟩:=h;exact ⟨m1,a1,a2,a3⟩
theorem PS.cuR (h:PS c cap m φ s) {b:Mem->Option Rs} (ht:x=outOf m (b (withLow m m.next))) (go:∀ m0,W c m0 φ s cap m0 φ s []->Res c m0 φ s (b m0) (Q_c cap φ s v cu)):CuC c cap m φ s x v cu:=
 h.cu' ht fun m0 k=>CuC.ofRes (go m0 (W.start k))
theorem W.go (h:W c m0 φ0 s0 cap m φ s ts) {s1:PSt} (p:PS c cap1 m1 φ1 s1) (w:Wk m φ (toX c s) m1 φ1 (toX c s1)):W c m0 φ0 s0 cap1 m1 φ1 s1 ts where
 ps:=p
 wk:=h.wk.trans w
 wb:=h.wb
 lt:=fun t ht=>⟨(h.lt t ht).1,Nat.lt_of_lt_of_le (h.lt t ht).2 w.next⟩
 nx:=fun t ht k hk=>by
  rcases w.nw k hk with q | ⟨k0,q1,q2⟩
  ·have:=(h.lt t ht).2; omega
  ·rw [<- q2]; exact h.nx t ht k0 q1
 at':=fun t ht=>by
  obtain ⟨ty,q⟩:=h.at' t ht;exact ⟨ty,by simp_all [w.get,h.lt,ht,h.nx]⟩
 nd:=h.nd
theorem W.push (h:W c m0 φ0 s0 cap m φ s ts) (z:List Value) (ty:Option Nat):W c m0 φ0 s0 cap (m.push (.cells z 0 0 false ty)) φ s ((m.next,0,z) :: ts):=by
 obtain ⟨k2,w2⟩:=h.ps.nr.push (.cells z 0 0 false ty);have P2:=h.ps.step k2 w2 ⟨rfl,rfl,rfl⟩ h.ps.ok;have H:=h.go P2 w2;exact {
  ps:=P2
  wk:=H.wk
  wb:=h.wb
  lt:=fun t ht=>by
   rcases List.mem_cons.mp ht with e | e
   ·simp_all [h.wk.next,Nat.lt_succ_self]
   ·exact H.lt t e
  nx:=fun t ht k hk=>by
   rcases List.mem_cons.mp ht with e | e
   ·subst e; exact Nat.ne_of_lt (h.ps.nr.hi k hk)
   ·exact H.nx t e k hk
  at':=fun t ht=>by
   rcases List.mem_cons.mp ht with e | e
   ·subst e; exact ⟨ty,by rw [Mem.get_push,if_pos rfl]⟩
   ·exact H.at' t e
  nd:=by
   show (m.next :: ts.map (·.1)).Nodup;rw [List.nodup_cons];refine ⟨fun hm=>?_,h.nd⟩;obtain ⟨t,ht,e⟩:=List.mem_map.mp hm;have:=(h.lt t ht).2;omega }
theorem W.new (h:W c m0 φ0 s0 cap m φ s ts) {k:Value->Mem->Option Rs} (g:∀ b m1,W c m0 φ0 s0 cap m1 φ s ((b,0,z) :: ts)->Res c m0 φ0 s0 (k (pt b 0 0) m1) Q):Res c m0 φ0 s0 (bp (some (aNew T z m)) k) Q:=by
 grind [Xp,h.push]
theorem W.bsl (h:W c m0 φ0 s0 cap m φ s ts) {parts:List (Nat × Value)} (hf:fill (fun i=>some (i * sz,sz)) (rep n zero) parts=some cs) (hs:sz ≠ 0) {k:Value->Mem->Option Rs} (g:∀ b m1,W c m0 φ0 s0 cap m1 φ s ((b,0,cs) :: ts)->Res c m0 φ0 s0 (k (.slice (some ⟨b,0,some sz⟩) n 1) m1) Q):Res c m0 φ0 s0 (bp (X5 T zero sz n parts m) k) Q:=by
 have e:X5 T zero sz n parts m=some (.slice (some ⟨m.next,0,some sz⟩) n 1,m.push (.cells cs 0 0 false (some (2 * T)))):=by
  simp [X2v,X2h,hf,if_neg,hs]
 rw [e,X4];exact g _ _ (h.push cs _)
theorem W.upd {l1 l2:List Tmp} (h:W c m0 φ0 s0 cap m φ s (l1 ++ (b,r,cs) :: l2)) (hn:m1.next=m.next) (hl:m1.low=min m.low b) (hg:∀ b',b' < m.next->b' ≠ b->m1.get b'=m.get b') (hb:m1.get b=some (.cells cs' r' 0 false ty)) :
  W c m0 φ0 s0 cap m1 φ s (l1 ++ (b,r',cs') :: l2):=by
 have hm:(b,r,cs) ∈ l1 ++ (b,r,cs) :: l2:=by simp
 have hlt:m0.next <= b/\b < m.next:=h.lt _ hm;have hnx:∀ k,toX c s k ≠ none->(φ k).b ≠ b:=h.nx _ hm;have hwb:c.wb ≠ b:=by grind [h.wb]
 have hnd:=h.nd;rw [List.map_append,List.map_cons,List.nodup_append,List.nodup_cons] at hnd;have mem':∀ t ∈ l1 ++ (b,r',cs') :: l2,t=(b,r',cs')\/(t ∈ l1 ++ (b,r,cs) :: l2/\t.1 ≠ b):=by
  intro t ht;rcases List.mem_append.mp ht with e | e
  ·exact .inr ⟨List.mem_append_left _ e,fun e2=>hnd.2.2 t.1 (List.mem_map_of_mem e) b (List.mem_cons_self ..) e2⟩
  ·rcases List.mem_cons.mp e with e | e
   ·exact .inl e
   ·refine .inr ⟨List.mem_append_right _ (List.mem_cons_of_mem _ e),fun e2=>hnd.2.1.1 ?_⟩;show b ∈ _;rw [<- e2];exact List.mem_map_of_mem e
 obtain ⟨o,q,ws,fro,ro,ty2,g1,g2,g3⟩:=h.ps.wl.at';exact {
  ps:={ h.ps with
   nr:=h.ps.nr.same (by omega) fun k hk=>hg _ (h.ps.nr.hi k hk) (hnx k hk)
   wl:={ h.ps.wl with
    lt:=by rw [hn]; exact h.ps.wl.lt
    at':=⟨o,q,ws,fro,ro,ty2,g1,by rw [hg _ h.ps.wl.lt hwb]; exact g2,g3⟩ } }
  wk:={
   next:=by omega
   low:=by have:=h.wk.low; omega
   low2:=fun y y1 y2 y3=>by have:=h.wk.low2 y y1 y2 y3; omega
   get:=fun b' y1 y2=>by rw [hg b' (by have:=h.wk.next; omega) (by omega)]; exact h.wk.get b' y1 y2
   lo:=fun b' y1=>by
    rcases h.wk.lo b' y1 with q | q
    ·exact .inl (by omega)
    ·exact .inr (by rw [hg b' (by have:=h.wk.next; omega) (by omega)]; exact q)
   nw:=h.wk.nw
   kp:=by
    rcases h.wk.kp with ⟨k,a,d⟩ | q
    ·exact .inl ⟨k,a,by omega⟩
    ·exact .inr q }
  wb:=h.wb
  lt:=fun t ht=>by
   rcases mem' t ht with e | ⟨e,_⟩
   ·subst e; rw [hn]; exact hlt
   ·rw [hn]; exact h.lt t e
  nx:=fun t ht=>by
   rcases mem' t ht with e | ⟨e,_⟩
   ·subst e; exact hnx
   ·exact h.nx t e
  at':=fun t ht=>by
   rcases mem' t ht with e | ⟨e,e2⟩
   ·subst e; exact ⟨ty,hb⟩
   ·obtain ⟨ty3,q3⟩:=h.at' t e;exact ⟨ty3,by rw [hg _ (h.lt t e).2 e2]; exact q3⟩
  nd:=by
   grind }
theorem W.sto {l1 l2:List Tmp} (h:W c m0 φ0 s0 cap m φ s (l1 ++ (b,r,cs) :: l2)) (hn:y.cells.size=n) (h1:y.cells.toList.all one=true) (ho:o + n <= cs.length) (hc:cs.take o ++ y.cells.toList ++ cs.drop (o + n)=cs') {k:Mem->Option Rs} (g:∀ m1,W c m0 φ0 s0 cap m1 φ s (l1 ++ (b,r,cs') :: l2)->Res c m0 φ0 s0 (k m1) Q):Res c m0 φ0 s0 (bp (unt (Xd n (pt b o r) y m)) fun _ m=>k m) Q:=by
 obtain ⟨ty,q⟩:=h.at' (b,r,cs) (by simp);obtain ⟨m1,a1,a2⟩:=X1u (o:=o) (n:=n) (v:=y) q hn (Nat.zero_le _) ho h1 hc;rw [a1,Xo];refine g m1 (h.upd (ty:=ty) (by rw [a2.next,Mem.next_put]) (by rw [a2.low,Mem.low_put]) (fun b' _ e=>by rw [a2.get,Mem.get_put,if_neg (Ne.symm e)]) ?_);rw [a2.get,Mem.get_put,if_pos rfl]
theorem W.stoE {l1 l2:List Tmp} (h:W c m0 φ0 s0 cap m φ s (l1 ++ (b,r,cs) :: l2)) (hn:y.cells.size=n) (h1:y.cells.toList.all one=true) (ho:o + n <= cs.length) (hc:cs.take o ++ y.cells.toList ++ cs.drop (o + n)=cs') :
  ∃ m1,Xd n (pt b o r) y m=some m1/\W c m0 φ0 s0 cap m1 φ s (l1 ++ (b,r,cs') :: l2):=by
 obtain ⟨ty,q⟩:=h.at' (b,r,cs) (by simp);obtain ⟨m1,a1,a2⟩:=X1u (o:=o) (n:=n) (v:=y) q hn (Nat.zero_le _) ho h1 hc;refine ⟨m1,a1,h.upd (ty:=ty) (by rw [a2.next,Mem.next_put]) (by rw [a2.low,Mem.low_put]) (fun b' _ e=>by rw [a2.get,Mem.get_put,if_neg (Ne.symm e)]) ?_⟩;rw [a2.get,Mem.get_put,if_pos rfl]
theorem W.ld (h:W c m0 φ0 s0 cap m φ s ts) (hb:(b,r,cs) ∈ ts) (hv:cs[o]?=some y):X8 false 1 (pt b o r) m=some y:=by
 obtain ⟨ty,q⟩:=h.at' _ hb;exact X12 q hv
theorem W.lds (h:W c m0 φ0 s0 cap m φ s ts) (hb:(b,r,cs) ∈ ts) (ho:o + n <= cs.length) (hv:(cs.drop o).take n=vs):X8 true n (pt b o r) m=some (.agg ⟨vs⟩):=by
 obtain ⟨ty,q⟩:=h.at' _ hb;exact Xv q ho hv
theorem W.sub (h:W c m0 φ0 s0 cap m φ s ts) {ts':List Tmp} (hs:List.Sublist ts' ts):W c m0 φ0 s0 cap m φ s ts':=
 { h with
  lt:=fun t ht=>h.lt t (hs.subset ht)
  nx:=fun t ht=>h.nx t (hs.subset ht)
  at':=fun t ht=>h.at' t (hs.subset ht)
  nd:=List.Nodup.sublist (hs.map _) h.nd }
theorem W.tl {t:Tmp} (h:W c m0 φ0 s0 cap m φ s (t :: ts)):W c m0 φ0 s0 cap m φ s ts:=h.sub (List.sublist_cons_self _ _)
theorem W.call {cu1:Cu} (h:W c m0 φ0 s0 cap m φ { s with cu:=cu1 } ts) {y:Option Rs} {w:Value} (law:CuC c cap m φ { s with cu:=cu1 } y w cu) {k:Value->Mem->Option Rs} (g:∀ m1,W c m0 φ0 s0 cap m1 φ { s with cu:=cu } ts->Res c m0 φ0 s0 (k w m1) Q):Res c m0 φ0 s0 (bp y k) Q:=by
 obtain ⟨m1,a1,a2,a3⟩:=law;rw [a1,X4];exact g m1 (h.go a2 a3)
theorem W.ret (h:W c m0 φ0 s0 cap m φ s ts) {w:Value} (q:Q w cap φ s):Res c m0 φ0 s0 (some (w,m)) Q:=⟨w,m,cap,φ,s,rfl,h.ps,h.wk,q⟩
theorem W.retc (h:W c m0 φ s cap m φ { s with cu:=cu } ts):Res c m0 φ s (some (v,m)) (Q_c cap φ s v cu):=h.ret ⟨rfl,rfl,rfl,rfl⟩
theorem Xk {b:Bool} (h1:b=true->Res c m0 φ0 s0 k1 Q) (h2:b=false->Res c m0 φ0 s0 k2 Q):Res c m0 φ0 s0 (brb (.bool b) k1 k2) Q:=by
 cases b with
 | true=>exact h1 rfl
 | false=>exact h2 rfl
theorem Xih (y:Value) (m:Mem):(ob (ob (some y) fun v=>ob (some []) fun l=>some (v :: l)) fun l=>some (X1i l,m))=some (y,m):=Eq.trans rfl rfl
def idxO (w:Str):List Str->Nat->Option Nat
 | [],_=>none
 | x :: l,i=>if w=x then some i else idxO w l (i + 1)
def oneC (c:Cx) (cu:Cu) (l:List Str):Nat × Cu:=match idxO (Xf c cu).1 l 0 with | some i=>(i,(Xf c cu).2) | none=>(0,badC c (Xf c cu).2 130)
def idxV (o:Option Nat):Value:=match o with | some i=>I i | none=>.int .i64 (-1)
theorem Xex {v:Value} {ws:List Str} {m:Mem} (h:SL m v ws) (hn:ws.length <= 65536) (w:Str) (G:Gt):∀ n i f,i + n=ws.length->n < f->Q1j G f (I i) (I ws.length) (sv w) v m=some (idxV (idxO w (ws.drop i) i),m)
 | 0,i,f + 1,e,hf=>by
  have:i=ws.length:=by omega
  subst this;unfold Q1j;delta D B K qx X A qh;simp only [Q1d,X3,Int.lt_irrefl,decide_false,X6,List.drop_length];delta Q64 K A;rfl
 | n + 1,i,f + 1,e,hf=>by
  have hi:i < ws.length:=by omega
  obtain ⟨p,p1,p2⟩:=h.at (List.getElem?_eq_getElem hi);have hd:ws.drop i=ws[i] :: ws.drop (i + 1):=List.drop_eq_getElem_cons hi;have hlt:decide (((i:Nat):Int) < ((ws.length:Nat):Int))=true:=decide_eq_true (by omega);unfold Q1j;delta D B K qx X A qh;simp only [Q1d,X3,hlt,X7,p1,p2,Qw];rw [hd];unfold idxO;by_cases hw:w=ws[i]
  ·rw [decide_eq_true hw,X7,if_pos hw];rfl
  ·rw [decide_eq_false hw,X6,if_neg hw];have e1:bin .add true true .int (I i) (.int .i64 1)=some (I (i + 1:Nat)):=by
    grind [Q35,wrap64]
   simp only [e1,X3];exact Xex h hn w G n (i + 1) f (by omega) (by omega)
theorem c_sIndex {v:Value} {m:Mem} (h:SL m v ws) (hn:ws.length <= 65536) (w:Str) (d:Nat):TA (d + 1) Q3o [v,sv w] m=some (idxV (idxO w ws 0),m):=by
 rw [X3g];refine X1t (m1:=withLow m m.next) ?_ (Fr.refl _ _) ?_
 ·have k:SL (withLow m m.next) v ws:=h;generalize withLow m m.next=m0 at k;delta Q1r Q66 Q65 N A;simp only [k.len,X3];have:=Xex k hn w ⟨TA d,18446744073709551616⟩ ws.length 0 18446744073709551616 (by omega) (by omega);rw [List.drop_zero] at this;exact this
 ·cases idxO w ws 0 <;> rfl
theorem PS.call1 (h:PS c cap m φ s) {b:Mem->Option Rs} (g:Res c (withLow m m.next) φ s (b (withLow m m.next)) Q):Res c m φ s (outOf m (b (withLow m m.next))) Q:=by
 obtain ⟨v,m1,cap1,φ1,s1,k1,k2,k3,k4⟩:=g;obtain ⟨m2,q1,q2,q3⟩:=h.nr.call k1 k2.nr k3;exact ⟨v,m2,cap1,φ1,s1,q1,h.step q2 q3 ⟨by rw [h.pP,k2.pP],by rw [h.pC,k2.pC],by rw [h.pO,k2.pO]⟩ k2.ok,q3,k4⟩
def SLx (c:Cx) (m:Mem) (φ:Phi) (s:PSt) (v:Value) (ws:List Str):Prop:=
 ∃ b o r cs fro ro ty,v=.slice (some ⟨b,o,some 1⟩) ws.length r/\b < m.next/\(∀ k,toX c s k ≠ none->(φ k).b ≠ b)/\m.get b=some (.cells cs (r / 2) fro ro ty)/\o + ws.length <= cs.length/\∀ i w,ws[i]?=some w->cs[o + i]?=some (sv w)
theorem SLx.sl {v:Value} (h:SLx c m φ s v ws):SL m v ws:=by
 obtain ⟨b,o,r,cs,fro,ro,ty,h1,h2,h3,h4,h5⟩:=h;exact ⟨b,o,r,cs,fro,ro,ty,h1,h2,h4,h5⟩
theorem SLx.wk {v:Value} (h:SLx c m φ s v ws) {s1:PSt} (w:Wk m φ (toX c s) m1 φ1 (toX c s1)):SLx c m1 φ1 s1 v ws:=by
 obtain ⟨b,o,r,cs,fro,ro,ty,h1,h2,h3,h4,h5⟩:=h;refine ⟨b,o,r,cs,fro,ro,ty,h1,Nat.lt_of_lt_of_le h2 w.next,fun k hk=>?_,by rw [w.get _ h2 h3]; exact h4,h5⟩;rcases w.nw k hk with q | ⟨k0,q1,q2⟩
 ·omega
 ·grind
theorem W.slx (h:W c m0 φ0 s0 cap m φ s ts) (hb:(b,0,ws.map sv) ∈ ts):SLx c m φ s (.slice (some ⟨b,0,some 1⟩) ws.length 1) ws:=by
 obtain ⟨ty,q⟩:=h.at' _ hb;refine ⟨b,0,1,ws.map sv,0,false,ty,rfl,(h.lt _ hb).2,h.nx _ hb,q,by simp,fun i w hw=>?_⟩;rw [Nat.zero_add,List.getElem?_map,hw];rfl
theorem X6d (h:PS c cap m φ s) {v:Value} (hv:SLx c m φ s v ws) (hn:ws.length <= 65536) (d:Nat):CuC c cap m φ s (TA (d + 3) Qy [pt c.C 0 0,v] m) (I (oneC c s.cu ws).1) (oneC c s.cu ws).2:=by
 rw [X96];refine CuC.ofRes (h.call1 ?_);have k:=W.start (h.wl' m.next);have kv:SLx c (withLow m m.next) φ s v ws:=hv;generalize withLow m m.next=m0 at k kv;delta Q6h Qeo C;refine k.call (X2x k.ps d) fun m1 k1=>?_;have kv1:=kv.wk k1.wk;simp only [c_sIndex kv1.sl hn _ (d + 1),X4];delta Qen Qab C D B K A;unfold oneC;cases idxO (Xf c s.cu).1 ws 0 with
 | none =>
  have e1:bin .lss true true .int (idxV none) (.int .i64 0)=some (.bool true):=by
   rfl
  have e2:aMax (idxV none) (.int .i64 0)=some (I 0):=Eq.trans rfl rfl;simp only [e1,X3,X7];refine k1.call (X3t k1.ps 130 (by decide) d) fun m2 k2=>?_;simp only [e2,X3];exact k2.retc
 | some i =>
  have e1:bin .lss true true .int (idxV (some i)) (.int .i64 0)=some (.bool false):=by
   rfl
  have e2:aMax (idxV (some i)) (.int .i64 0)=some (I i):=by
   rfl
  simp only [e1,X3,X6,e2];exact k1.retc
def digB (b:UInt8):Bool:=decide (48 <= b.toNat) && decide (b.toNat <= 57)
def Xmu (s:Str):Bool:=decide (s ≠ []) && s.all digB && (decide (s=[48]) || decide (s.head? ≠ some 48))
def Xb (c:Cx) (cu:Cu) (lo:Int) (hi:Nat):Int × Cu:=
 if Xmu (Xf c cu).1=true then ((numV (num hi (Xf c cu).1):Int),if (num hi (Xf c cu).1).isSome=true/\lo <= (numV (num hi (Xf c cu).1):Int) then (Xf c cu).2 else badC c (Xf c cu).2 131) else (0,badC c (Xf c cu).2 130)
def X1e (c:Cx) (cu:Cu):Nat × Cu:=match Xds (Xf c cu).1 with | some a=>(a,(Xf c cu).2) | none=>(0,badC c (Xf c cu).2 130)
def hopC (c:Cx) (cu:Cu):Nat × Cu:=((X1e c cu).1,if (X1e c cu).1=0 then badC c (X1e c cu).2 131 else (X1e c cu).2)
end Go.Ab.Sh
namespace Go.Ab
open Go Go.Lib
theorem Xuo (b n i:Nat) (h:i < n) (k:IntKind):X20 n 1 (pt b 0 0) (.int k (i:Int))=some (pt b i 0):=by
 show (if (0:Int) <= (i:Int) && (i:Int) < (n:Int) then some (Value.pointer (some ⟨b,0 + (i:Int).toNat * 1,some 0⟩)) else none)=_;have h1:(decide ((0:Int) <= (i:Int)) && decide ((i:Int) < (n:Int)))=true:=by simp; omega
 rw [if_pos h1];simp
end Go.Ab
namespace Go.Ab.Sh
open Go Go.Ab Go.Lib
def digs:Str:=[48,49,50,51,52,53,54,55,56,57]
def setK (k:Nat):List Value:=(List.range 256).map fun i=>.bool (decide (48 <= i) && decide (i < 48 + k))
theorem X5v (k:Nat):(setK k).length=256:=by rfl
theorem Xb5 (k i:Nat) (h:i < 256):(setK k)[i]?=some (.bool (decide (48 <= i) && decide (i < 48 + k))):=by
 unfold setK;rw [List.getElem?_map,List.getElem?_range h];rfl
theorem Xoj (k:Nat) (h:k < 10):(setK k).take (48 + k) ++ [.bool true] ++ (setK k).drop (48 + k + 1)=setK (k + 1):=by
 apply List.ext_getElem?;intro i;have e1:((setK k).take (48 + k)).length=48 + k:=by simp [X5v]; omega
 rw [get3,e1];by_cases h1:i < 48 + k
 ·rw [if_pos h1,List.getElem?_take,if_pos h1,Xb5 _ _ (by omega),Xb5 _ _ (by omega)];congr 3;simp only [decide_eq_decide];omega
 ·rw [if_neg h1];by_cases h2:i < 48 + k + [Value.bool true].length
  ·have:i=48 + k:=by grind
   subst this;rw [if_pos h2,Nat.sub_self,Xb5 _ _ (by omega)];have a:decide (48 <= 48 + k)=true:=decide_eq_true (by omega);have b:decide (48 + k < 48 + (k + 1))=true:=decide_eq_true (by omega);rw [a,b]; rfl
  ·have h3:48 + k + 1 <= i:=by grind
   rw [if_neg h2,List.getElem?_drop,show 48 + k + 1 + (i - (48 + k) - [Value.bool true].length)=i by simp; omega];by_cases h4:i < 256
   ·rw [Xb5 _ _ h4,Xb5 _ _ h4];congr 3;simp only [decide_eq_decide];omega
   ·rw [List.getElem?_eq_none (by rw [X5v]; omega),List.getElem?_eq_none (by rw [X5v]; omega)]
theorem Xwr:∀ k,k < 10->(digs[k]?).map UInt8.toNat=some (48 + k):=by decide
theorem Xm4 (k:Nat):(setK k).all one=true:=by
 rfl
theorem Xei (G:Gt) (b B:Nat) (ty:Option Nat) (hB:B <= b):∀ n k f (m:Mem),k + n=10->n < f->m.get b=some (.cells (setK k) 0 0 false ty) ->
  ∃ m',Q2t G f (I k) (sv digs) (pt b 0 0) m=some (.tuple ⟨[.agg ⟨setK 10⟩,.bool true]⟩,m')/\Fb B m m'
 | 0,k,f + 1,m,e,hf,hb=>by
  have:k=10:=by omega
  subst this;obtain ⟨m',k1,k2⟩:=X1u (o:=0) (n:=256) (v:=.agg ⟨setK 10⟩) (c':=setK 10) hb (by rfl) (Nat.zero_le _) (by rw [X5v]; omega) (Xm4 10) (by
   rfl)
  have hb2:m'.get b=some (.cells (setK 10) 0 0 false ty):=by rw [k2.get,Mem.get_put,if_pos rfl]
  have l1:X8 true 256 (pt b 0 0) m=some (.agg ⟨setK 10⟩):=Xv hb (by rw [X5v]; omega) (by rfl);have l2:X8 true 256 (pt b 0 0) m'=some (.agg ⟨setK 10⟩):=Xv hb2 (by rw [X5v]; omega) (by rfl);refine ⟨m',?_,((Fb.refl B _).put _ hB).meq k2⟩;unfold Q2t;delta D qc B N T qq X qe A qh qf;have e1:bin .lss false true .int (I (10:Nat)) (.int .i64 ((digs.length:Nat):Int))=some (.bool false):=by rfl
  simp only [X36,X3,e1,X6];delta Qb4 qc qq qf;simp only [l1,X3,k1,Xo,l2];rfl
 | n + 1,k,f + 1,m,e,hf,hb=>by
  have hk:k < 10:=by omega
  have hd:k < digs.length:=hk;have hx:(digs[k]).toNat=48 + k:=by
   have:=Xwr k hk;rw [List.getElem?_eq_getElem hd] at this;exact Option.some.inj this
  obtain ⟨m',k1,k2,k3,k4,k5⟩:=Xl0 hb (o:=48 + k) (.bool true) rfl rfl (by rw [X5v]; omega) hB;rw [Xoj k hk] at k4;obtain ⟨m2,g1,g2⟩:=Xei G b B ty hB n (k + 1) f m' (by omega) (by omega) k4;refine ⟨m2,?_,k2.trans g2⟩;unfold Q2t;delta D qc B N T qq X qe A qh qf;have e1:bin .lss false true .int (I k) (.int .i64 ((digs.length:Nat):Int))=some (.bool true):=by grind [Q1d,decide_eq_true]
  have e2:Xe (sv digs) (I k)=some (.int .u8 ((48 + k:Nat):Int)):=by rw [X56 _ _ _ hd,hx]
  have e3:bin .geq true true .int (.int .u8 ((48 + k:Nat):Int)) (.int .u8 128)=some (.bool false):=by grind [Qlg,decide_eq_false]
  have e4:=Xuo b 256 (48 + k) (by omega) .u8;have e5:bin .add true true .int (I k) (.int .i64 1)=some (I (k + 1:Nat)):=by
   grind [Q35,wrap64]
  simp only [X36,X3,e1,X7,e2,e3,X6,e4,k1,Xo,e5];exact g1
theorem Xts (n:Nat):refs n 8 (.tuple ⟨[.agg ⟨setK 10⟩,.bool true]⟩)=true:=by kernel_rfl
theorem zset:Q38=setK 0:=rfl
theorem c_mkset (d:Nat) (m:Mem):TA (d + 1) Q60 [sv digs] m=some (.tuple ⟨[.agg ⟨setK 10⟩,.bool true]⟩,m):=by
 rw [X6h];have hb:((withLow m m.next).push (.cells Q38 0 0 false (some (2 * Q2f + 1)))).get (withLow m m.next).next=some (.cells (setK 0) 0 0 false (some (2 * Q2f + 1))):=by rw [Mem.get_push,if_pos rfl,zset]
 obtain ⟨m1,g1,g2⟩:=Xei ⟨TA d,18446744073709551616⟩ _ m.next _ (Nat.le_refl _) 10 0 18446744073709551616 _ (by omega) (by omega) hb;have F1:Fb m.next (withLow m m.next) ((withLow m m.next).push (.cells Q38 0 0 false (some (2 * Q2f + 1)))):=Fb.push _ (Nat.le_refl _);refine X16 (m1:=m1) ?_ (F1.trans g2) (Xts _);delta Q3r Qb6 Qb5 S A;rw [Xp];exact g1
def Xa2 (b:UInt8):Bool:=decide (48 <= b.toNat) && decide (b.toNat < 58)
theorem c_cont (b:Nat) (ty:Option Nat) (m:Mem) (hb:m.get b=some (.cells (setK 10) 0 0 false ty)) (x:UInt8) (d:Nat):TA (d + 1) Q2u [pt b 0 0,.int .u8 (x.toNat:Int)] m=some (.bool (Xa2 x),m):=by
 rw [X48];refine X16 (m1:=withLow m m.next) ?_ (.refl _ _) rfl;have hb:(withLow m m.next).get b=some (.cells (setK 10) 0 0 false ty):=hb;have hx:x.toNat < 256:=x.toNat_lt;have l1:X8 false 1 (pt b x.toNat 0) (withLow m m.next)=some (.bool (Xa2 x)):=X12 hb (Xb5 10 _ hx);delta Q22 P B K;simp only [Xh,X3,Xuo b 256 _ hx .u8,l1]
def X8i (s:Str):Str:=(s.reverse.dropWhile Xa2).reverse
def Xhg (s:Str):Str:=s.dropWhile Xa2
theorem Xms (l:Str) (x:UInt8):X8i (l ++ [x])=if Xa2 x=true then X8i l else l ++ [x]:=by
 unfold X8i;rw [List.reverse_append];show (List.dropWhile Xa2 (x :: l.reverse)).reverse=_;rw [List.dropWhile_cons];by_cases h:Xa2 x=true
 ·grind
 ·grind
theorem Xee (b:Nat) (ty:Option Nat) (m:Mem) (hb:m.get b=some (.cells (setK 10) 0 0 false ty)) (d:Nat):∀ n (s:Str) f,s.length=n->n <= 65536->n < f->Q2d ⟨TA (d + 1),18446744073709551616⟩ f (sv s) (pt b 0 0) m=some (sv (X8i s),m)
 | 0,s,f + 1,e,hl,hf=>by
  have:s=[]:=List.eq_nil_of_length_eq_zero e;subst this;unfold Q2d;delta C D B N A;have e1:bin .gtr true true .int (.int .i64 (([]:Str).length:Int)) (.int .i64 0)=some (.bool false):=by rfl
  simp only [X36,X3,e1,X6];delta Q3n K;rfl
 | n + 1,s,f + 1,e,hl,hf=>by
  have hne:s ≠ []:=fun e2=>by grind
  have hs:s=s.take n ++ [s[n]]:=by
   have:=List.take_append_drop n s;rw [List.drop_eq_getElem_cons (by omega),List.drop_eq_nil_of_le (by omega)] at this;exact this.symm
  have e1:bin .gtr true true .int (.int .i64 (s.length:Int)) (.int .i64 0)=some (.bool true):=by rw [Qhr,decide_eq_true (by omega)]
  have e2:bin .sub true true .int (.int .i64 (s.length:Int)) (.int .i64 1)=some (I n):=by
   rw [Qhs];have:(s.length:Int) - 1=((n:Nat):Int):=by omega
   rw [this,wrap64 _ (by omega)]
  have e3:Xe (sv s) (I n)=some (.int .u8 ((s[n]).toNat:Int)):=X56 s .i64 n (by omega);unfold Q2d;delta C D B N A;simp only [X36,X3,e1,X7,e2,e3,c_cont b ty m hb _ d,X4,X63,Xbt s n (by omega)];have ht:X8i s=if Xa2 s[n]=true then X8i (s.take n) else s:=by
   have:=Xms (s.take n) s[n];rw [<- hs] at this;exact this
  rw [ht];cases hd:Xa2 s[n] with
  | true =>
   simp only [Bool.not_true,X6,if_true];exact Xee b ty m hb d n (s.take n) f (by simp; omega) (by omega) (by omega)
  | false =>
   simp only [Bool.not_false,X7,Bool.false_eq_true,if_false];delta Q3n K;rfl
theorem Xeq (b:Nat) (ty:Option Nat) (m:Mem) (hb:m.get b=some (.cells (setK 10) 0 0 false ty)) (d:Nat):∀ (s:Str) f,s.length <= 65536->s.length < f->Q43 ⟨TA (d + 1),18446744073709551616⟩ f (sv s) (pt b 0 0) m=some (sv (Xhg s),m)
 | [],f + 1,hl,hf=>by
  rfl
 | x :: s,f + 1,hl,hf=>by
  simp only [List.length_cons] at hl hf;have e1:bin .gtr true true .int (.int .i64 ((x :: s).length:Int)) (.int .i64 0)=some (.bool true):=by rfl
  have e3:Xe (sv (x :: s)) (.int .i64 0)=some (.int .u8 (x.toNat:Int)):=X56 (x :: s) .i64 0 (by simp);have e4:Xw (sv (x :: s)) (some (.int .i64 1)) none=some (sv s):=Xvx (x :: s) 1 (by simp) 1 rfl;unfold Q43;delta C D B N A;simp only [X36,X3,e1,X7,e3,c_cont b ty m hb _ d,X4,X63,e4];unfold Xhg;rw [List.dropWhile_cons];cases hd:Xa2 x with
  | true =>
   simp only [Bool.not_true,X6,if_true];exact Xeq b ty m hb d s f (by omega) (by omega)
  | false =>
   simp only [Bool.not_false,X7,Bool.false_eq_true,if_false];delta Q75 K;rfl
theorem Xnx (s:Str):(X8i s).length <= s.length:=by
 unfold X8i;rw [List.length_reverse];have:=(List.dropWhile_sublist Xa2 (l:=s.reverse)).length_le;rwa [List.length_reverse] at this
theorem c_trimR (b:Nat) (ty:Option Nat) (m:Mem) (hb:m.get b=some (.cells (setK 10) 0 0 false ty)) (s:Str) (hs:s.length <= 65536) (d:Nat):TA (d + 2) Q7n [sv s,pt b 0 0] m=some (sv (X8i s),m):=by
 rw [X5a];refine X16 (m1:=withLow m m.next) ?_ (.refl _ _) rfl;unfold Q32 Qa6;exact Xee b ty (withLow m m.next) hb d s.length s 18446744073709551616 rfl hs (by omega)
theorem c_trimL (b:Nat) (ty:Option Nat) (m:Mem) (hb:m.get b=some (.cells (setK 10) 0 0 false ty)) (s:Str) (hs:s.length <= 65536) (d:Nat):TA (d + 2) Q58 [sv s,pt b 0 0] m=some (sv (Xhg s),m):=by
 rw [X5o];refine X16 (m1:=withLow m m.next) ?_ (.refl _ _) rfl;unfold Q3c Qae;exact Xeq b ty (withLow m m.next) hb d s 18446744073709551616 hs (by omega)
theorem c_trimD (s:Str) (hs:s.length <= 65536) (h0:s ≠ []) (d:Nat) (m:Mem):TA (d + 3) Qdl [sv s,sv digs] m=some (sv (Xhg (X8i s)),m):=by
 rw [Xdq];obtain ⟨m2,n1,n2,n3,n4⟩:=X2c [] (withLow m m.next) (some (2 * Q2f + 1)) Q38 (v:=.agg ⟨setK 10⟩) (n:=256) rfl (by rfl) (Xm4 10);refine X1t (m1:=m2) ?_ n2 rfl;delta Qaw Qht Qfo Qhu Qfp C Q D B N K T S U qg qe A qd qf E;have e1:bin .eql true true .str (sv s) (.string ⟨#[]⟩)=some (.bool false):=by
  show bin .eql true true .str (sv s) (sv [])=_;rw [Qw,decide_eq_false h0]
 have e2:bin .eql true true .str (sv digs) (.string ⟨#[]⟩)=some (.bool false):=by
  show bin .eql true true .str (sv digs) (sv [])=_;rw [Qw]; rfl
 have e3:bin .eql true true .int (.int .i64 ((digs.length:Nat):Int)) (.int .i64 1)=some (.bool false):=by rw [Q79]; rfl
 have r1:=c_mkset (d + 1) (withLow m m.next);simp only [e1,e2,X3,X6,X36,e3,r1,X4,ex0,ex1];rw [Xp];have n1:Xd 256 (pt (withLow m m.next).next 0 0) (.agg ⟨setK 10⟩) ((withLow m m.next).push (.cells Q38 0 0 false (some (2 * Q2f + 1))))=some m2:=n1;have n4:m2.get (withLow m m.next).next=some (.cells (setK 10) 0 0 false (some (2 * Q2f + 1))):=n4;have r2:=c_trimR _ _ m2 n4 s hs d;have r3:=c_trimL _ _ m2 n4 (X8i s) (Nat.le_trans (Xnx s) hs) d;simp only [n1,Xo,X7,r2,r3,X4]
theorem Xwy (x:UInt8):Xa2 x=digB x:=by
 unfold Xa2 digB;congr 1;simp only [decide_eq_decide];omega
theorem X9o (p:UInt8->Bool):∀ l:Str,l.dropWhile p=[] ↔ l.all p=true
 | []=>by simp
 | x :: l=>by
  rw [List.dropWhile_cons,List.all_cons];cases h:p x with
  | true=>simp only [if_true,Bool.true_and]; exact X9o p l
  | false=>simp
theorem Xs6 (s:Str):Xhg (X8i s)=[] ↔ s.all digB=true:=by
 have hp:Xa2=digB:=funext Xwy;unfold Xhg X8i;rw [hp,X9o,List.all_reverse];constructor
 ·intro h;have h1:(s.reverse.dropWhile digB)=[]:=by
   cases hq:s.reverse.dropWhile digB with
   | nil=>rfl
   | cons y l =>
    have hy:digB y=false:=by
     have:=List.head_dropWhile_not digB (l:=s.reverse) (by rw [hq]; simp);simpa [hq] using this
    rw [hq] at h;simp [hy] at h
  rw [X9o,List.all_reverse] at h1;exact h1
 ·intro h;have h1:(s.reverse.dropWhile digB)=[]:=by rw [X9o,List.all_reverse]; exact h
  rw [h1]; rfl
theorem c_form (s:Str) (hs:s.length <= 65536) (d:Nat) (m:Mem):TA (d + 5) Qjx [sv s] m=some (.bool (Xmu s),m):=by
 rw [Xjy];refine X16 (m1:=withLow m m.next) ?_ (.refl _ _) rfl;generalize withLow m m.next=m0;delta Qg1 Qkn Qbz C D B K qe A qd qf E;unfold Xmu;have e1:bin .neq true true .str (sv s) (.string ⟨#[]⟩)=some (.bool (decide (s ≠ []))):=by
  show bin .neq true true .str (sv s) (sv [])=_;rw [Qmw]
 rw [e1,X3];by_cases h0:s=[]
 ·rw [decide_eq_false (by grind),X6];rfl
 ·rw [decide_eq_true h0,X7,Bool.true_and];have r:TA (d + 4) Qdl [sv s,.string ⟨#[48,49,50,51,52,53,54,55,56,57]⟩] m0=_:=c_trimD s hs h0 (d + 1) m0;have e2:bin .eql true true .str (sv (Xhg (X8i s))) (.string ⟨#[]⟩)=some (.bool (s.all digB)):=by
   show bin .eql true true .str (sv (Xhg (X8i s))) (sv [])=_;rw [Qw];congr 2;have:=Xs6 s;cases ha:s.all digB with
   | true=>exact decide_eq_true (this.mpr ha)
   | false=>exact decide_eq_false (fun e=>by rw [this.mp e] at ha; cases ha)
  simp only [r,X4,e2,X3];cases ha:s.all digB with
  | false =>
   rw [X6,Bool.false_and]
  | true =>
   rw [X7,Bool.true_and];have e3:bin .eql true true .str (sv s) (.string ⟨#[48]⟩)=some (.bool (decide (s=[48]))):=by
    show bin .eql true true .str (sv s) (sv [48])=_;rw [Qw]
   rw [e3,X3];by_cases h1:s=[48]
   ·rw [decide_eq_true h1,X7,Bool.true_or]
   ·rw [decide_eq_false h1,X6,Bool.false_or];have hl:0 < s.length:=List.length_pos_iff.mpr h0;have e4:Xe (sv s) (.int .i64 0)=some (.int .u8 ((s[0]).toNat:Int)):=X56 s .i64 0 hl;rw [e4,X3,Q9y,X3];congr 3;simp only [decide_eq_decide];rw [List.head?_eq_getElem?,List.getElem?_eq_getElem hl];constructor
    ·intro h e;have:=Option.some.inj e;exact h (by rw [this]; rfl)
    ·intro h e;exact h (by congr 1; exact UInt8.toNat_inj.mp (by grind))
def len8T:Str:=[0,1,2,2,3,3,3,3,4,4,4,4,4,4,4,4,5,5,5,5,5,5,5,5,5,5,5,5,5,5,5,5,6,6,6,6,6,6,6,6,6,6,6,6,6,6,6,6,6,6,6,6,6,6,6,6,6,6,6,6,6,6,6,6,7,7,7,7,7,7,7,7,7,7,7,7,7,7,7,7,7,7,7,7,7,7,7,7,7,7,7,7,7,7,7,7,7,7,7,7,7,7,7,7,7,7,7,7,7,7,7,7,7,7,7,7,7,7,7,7,7,7,7,7,7,7,7,7,8,8,8,8,8,8,8,8,8,8,8,8,8,8,8,8,8,8,8,8,8,8,8,8,8,8,8,8,8,8,8,8,8,8,8,8,8,8,8,8,8,8,8,8,8,8,8,8,8,8,8,8,8,8,8,8,8,8,8,8,8,8,8,8,8,8,8,8,8,8,8,8,8,8,8,8,8,8,8,8,8,8,8,8,8,8,8,8,8,8,8,8,8,8,8,8,8,8,8,8,8,8,8,8,8,8,8,8,8,8,8,8,8,8,8,8,8,8,8,8,8,8,8,8,8,8,8,8]
def len8 (n:Nat):Nat:=((len8T[n % 256]?).getD 0).toNat
def Xiy (n:Nat):Nat:=if 65536 <= n then (if 256 <= n / 65536 then 24 + len8 (n / 65536 / 256) else 16 + len8 (n / 65536)) else if 256 <= n then 8 + len8 (n / 256) else len8 n
theorem Xob (n:Nat):len8 n <= 8:=by
 have:∀ i,i < 256->((len8T[i]?).getD 0).toNat <= 8:=by decide
 exact this _ (Nat.mod_lt _ (by omega))
theorem Xt3 (n:Nat) (h:n < 4294967296):Xiy n <= 32:=by
 grind [Xiy,Xob]
def lz32 (n:Nat):Nat:=32 - Xiy n
def Xnj (m:Nat):Option Nat:=if 4294967295 - (2 ^ (32 - lz32 (4294967295 - m)) - 1)=m then some (lz32 (4294967295 - m)) else none
def Xvp (o:Option Nat):Value:=match o with | some n=>.tuple ⟨[I n,I 0]⟩ | none=>.tuple ⟨[I 0,I 10]⟩
end Go.Ab.Sh
namespace Go.Ab
open Go Go.Lib
theorem Xk3 (a:Nat) (h:a < 4294967296):un .xor (.int .u32 (a:Int))=some (.int .u32 ((4294967295 - a:Nat):Int)):=by
 show some (Value.int .u32 (IntKind.u32.wrap ((BitVec.ofInt 32 (4294967295:Int) ^^^ BitVec.ofInt 32 (a:Int)).toNat:Int)))=_;have e:(BitVec.ofInt 32 (4294967295:Int) ^^^ BitVec.ofInt 32 (a:Int)).toNat=4294967295 - a:=by
  have e1:BitVec.ofInt 32 (4294967295:Int)=BitVec.allOnes 32:=by decide
  have e2:BitVec.ofInt 32 (a:Int)=BitVec.ofNat 32 a:=BitVec.ofInt_natCast _ _;rw [e1,e2,BitVec.allOnes_xor,BitVec.toNat_not,BitVec.toNat_ofNat,Nat.mod_eq_of_lt (by omega)]
 rw [e,IntWalk.u32_in _ (by omega)]
theorem Xjz (c g:Bool) (a k:Nat) (ha:a < 4294967296) (hk:k <= 32):bin .shr c g .int (.int .u32 (a:Int)) (.int .u64 (k:Int))=some (.int .u32 ((a / 2 ^ k:Nat):Int)):=by
 rw [X1z];show (if ((k:Nat):Int) < 0 then none else some (Value.int .u32 ((a:Int).fdiv (2 ^ (min ((k:Nat):Int).toNat 32)))))=_;rw [if_neg (by omega),Int.toNat_natCast,Nat.min_eq_left hk];have e:((2:Int) ^ k)=((2 ^ k:Nat):Int):=by rfl
 rw [e,Int.fdiv_eq_ediv_of_nonneg _ (Int.natCast_nonneg _),<- Int.natCast_ediv]
end Go.Ab
namespace Go.Ab.Sh
open Go Go.Ab Go.Lib
theorem Xx8 (n:Nat):Xe (sv len8T) (.int .u8 ((n % 256:Nat):Int))=some (.int .u8 (len8 n:Int)):=by
 have h:n % 256 < len8T.length:=Nat.mod_lt _ (by decide);rw [X56 _ _ _ h];unfold len8;rw [List.getElem?_eq_getElem h];rfl
theorem Xfd (G:Gt) (k n:Nat) (hk:k <= 24) (m:Mem):Q8j G (I k) (.int .u32 (n:Int)) m=some (I (k + len8 n:Nat),m):=by
 delta Q8j F B K E;have e0:IntKind.u8.wrap (n:Int)=((n % 256:Nat):Int):=by
  rfl
 have e1:=Xx8 n;have e1:Xe (.string ⟨#[0,1,2,2,3,3,3,3,4,4,4,4,4,4,4,4,5,5,5,5,5,5,5,5,5,5,5,5,5,5,5,5,6,6,6,6,6,6,6,6,6,6,6,6,6,6,6,6,6,6,6,6,6,6,6,6,6,6,6,6,6,6,6,6,7,7,7,7,7,7,7,7,7,7,7,7,7,7,7,7,7,7,7,7,7,7,7,7,7,7,7,7,7,7,7,7,7,7,7,7,7,7,7,7,7,7,7,7,7,7,7,7,7,7,7,7,7,7,7,7,7,7,7,7,7,7,7,7,8,8,8,8,8,8,8,8,8,8,8,8,8,8,8,8,8,8,8,8,8,8,8,8,8,8,8,8,8,8,8,8,8,8,8,8,8,8,8,8,8,8,8,8,8,8,8,8,8,8,8,8,8,8,8,8,8,8,8,8,8,8,8,8,8,8,8,8,8,8,8,8,8,8,8,8,8,8,8,8,8,8,8,8,8,8,8,8,8,8,8,8,8,8,8,8,8,8,8,8,8,8,8,8,8,8,8,8,8,8,8,8,8,8,8,8,8,8,8,8,8,8,8,8,8,8,8,8]⟩) (.int .u8 ((n % 256:Nat):Int))=_:=e1;have hl:=Xob n;have e2:bin .add false true .int (I k) (.int .i64 (len8 n:Int))=some (I (k + len8 n:Nat)):=by
  rw [Q35];have:(k:Int) + (len8 n:Int)=((k + len8 n:Nat):Int):=by omega
  rw [this,wrap64 _ (by omega)]
 simp only [c_int,X4,e0,e1,X3,wrap64 _ (show len8 n < 9223372036854775808 by omega),e2]
theorem c_Len32 (n:Nat) (h:n < 4294967296) (d:Nat) (m:Mem):TA (d + 1) Qdc [.int .u32 (n:Int)] m=some (I (Xiy n),m):=by
 rw [Xa5];refine X16 (m1:=withLow m m.next) ?_ (.refl _ _) rfl;generalize withLow m m.next=m0;delta Q7w Qgb Qbi D B X A;unfold Xiy;simp only [Qlg,X3,Xt];have s16:∀ n:Nat,n < 4294967296->bin .shr true true .int (.int .u32 (n:Int)) (.int .u64 16)=some (.int .u32 ((n / 65536:Nat):Int)):=fun n h=>Xjz _ _ n 16 h (by omega);have s8:∀ n:Nat,n < 4294967296->bin .shr true true .int (.int .u32 (n:Int)) (.int .u64 8)=some (.int .u32 ((n / 256:Nat):Int)):=fun n h=>Xjz _ _ n 8 h (by omega);have a8:∀ k:Nat,k <= 16->bin .add true true .int (I k) (.int .i64 8)=some (I (k + 8:Nat)):=fun k hk=>by
  rw [Q35];have:(k:Int) + 8=((k + 8:Nat):Int):=by omega
  rw [this,wrap64 _ (by omega)]
 by_cases h1:65536 <= n
 ·rw [if_pos (by omega),if_pos h1];simp only [s16 n h,X3,Qlg,Xt];by_cases h2:256 <= n / 65536
  ·rw [if_pos (by omega),if_pos h2];have e:=a8 16 (by omega);have e:bin .add true true .int (.int .i64 16) (.int .i64 8)=some (I (24:Nat)):=e;simp only [s8 (n / 65536) (by omega),X3,e];exact Xfd _ 24 _ (by omega) _
  ·rw [if_neg (by omega),if_neg h2];exact Xfd _ 16 _ (by omega) _
 ·rw [if_neg (by omega),if_neg h1];by_cases h2:256 <= n
  ·rw [if_pos (by omega),if_pos h2];have e:=a8 0 (by omega);have e:bin .add true true .int (.int .i64 0) (.int .i64 8)=some (I (8:Nat)):=e;simp only [s8 n h,X3,e];exact Xfd _ 8 _ (by omega) _
  ·rw [if_neg (by omega),if_neg h2];have:=Xfd ⟨TA d,18446744073709551616⟩ 0 n (by omega) m0;rw [Nat.zero_add] at this;exact this
theorem c_lz (n:Nat) (h:n < 4294967296) (d:Nat) (m:Mem):TA (d + 2) Q6a [.int .u32 (n:Int)] m=some (I (lz32 n),m):=by
 rw [X4l];refine X16 (m1:=withLow m m.next) ?_ (.refl _ _) rfl;delta Q2e C B K A;have hl:=Xt3 n h;have e:bin .sub true true .int (.int .i64 32) (I (Xiy n))=some (I (lz32 n)):=by
  grind [Qhs,lz32,Xiy,wrap64]
 simp only [c_Len32 n h d,X4,e,X3]
theorem c_Bits (a:Nat) (ha:a < 4294967296) (d:Nat) (m:Mem):TA (d + 3) Qjy [.int .u32 (a:Int)] m=some (Xvp (Xnj a),m):=by
 rw [Xix];refine X16 (m1:=withLow m m.next) ?_ (.refl _ _) (by unfold Xvp; split <;> rfl);generalize withLow m m.next=m0;delta Qg3 C D B K A;have hz:lz32 (4294967295 - a) <= 32:=Nat.sub_le _ _;have hp:2 ^ (32 - lz32 (4294967295 - a)) - 1 < 4294967296:=by
  have:2 ^ (32 - lz32 (4294967295 - a)) <= 2 ^ 32:=Nat.pow_le_pow_right (by omega) (by omega);omega
 simp only [Xk3 a ha,X3,c_lz (4294967295 - a) (by omega) d,X4,c_behind _ hz (d + 1),Xk3 _ hp,Q9y,Xt];unfold Xnj;by_cases h:4294967295 - (2 ^ (32 - lz32 (4294967295 - a)) - 1)=a
 ·rw [if_neg (by omega),if_pos h]; rfl
 ·rw [if_pos (by omega),if_neg h]; rfl
def X35 (c:Cx) (cu:Cu) (wild:Bool):Nat × Cu:=
 match Xnj (if wild=true then 4294967295 - (X1e c cu).1 else (X1e c cu).1) with | some n=>(n,(X1e c cu).2) | none=>(0,badC c (X1e c cu).2 10)
def netC (c:Cx) (cu:Cu) (a:Nat) (b:Int):Cu:=if chk a b=0 then cu else badC c cu 10
def geR (c:Cx) (cu:Cu) (b:Nat):(Int × Int) × Cu:=if (isC c cu [103,101]).1=true then (((Xb c (isC c cu [103,101]).2 b 32).1,32),(Xb c (isC c cu [103,101]).2 b 32).2) else (((b:Int),(b:Int)),(isC c cu [103,101]).2)
def leR (c:Cx) (cu:Cu) (g l:Int):Int × Cu:=if (isC c cu [108,101]).1=true then Xb c (isC c cu [108,101]).2 g 32 else (l,(isC c cu [108,101]).2)
def pfR (c:Cx) (cu:Cu):(Nat × Nat × Nat) × Cu:=(Xjh (Xf c cu).1,if (Xjh (Xf c cu).1).2.2=0 then (Xf c cu).2 else if (Xjh (Xf c cu).1).2.2=10 then badC c (Xf c cu).2 10 else badC c (Xf c cu).2 130)
def X42 (c:Cx) (cu:Cu):(Bool × Nat × Nat × Int × Int) × Cu:=
 let o:=oneC c cu [[112,101,114,109,105,116],[100,101,110,121]];let q:=pfR c o.2;let a:=geR c q.2 q.1.2.1;let k:=leR c a.2 a.1.1 a.1.2
 ((decide (o.1=0),q.1.1,q.1.2.1,a.1.1,k.1),k.2)
def X7w (c:Cx) (cu:Cu):(Nat × Nat) × Cu:=
 let x:=isC c cu [97,110,121];let y:=isC c x.2 [104,111,115,116];let a:=X1e c y.2;let k:=X35 c a.2 true
 if x.1=true then ((0,0),x.2) else if y.1=true then ((a.1,32),a.2) else ((a.1,k.1),netC c k.2 a.1 k.1)
def X2g (c:Cx) (cu:Cu) (proto:Int):(Int × Int) × Cu:=
 let x:=isC c cu [101,113];let n:=Xb c x.2 0 65535;let y:=isC c x.2 [114,97,110,103,101];let a:=Xb c y.2 0 65535;let b:=Xb c a.2 a.1 65535
 if proto ≠ 6/\proto ≠ 17 then ((0,65535),cu) else if x.1=true then ((n.1,n.1),n.2) else if y.1=true then ((a.1,b.1),b.2) else ((0,65535),y.2)
def meR (c:Cx) (cu:Cu):Int × Cu:=if (isC c cu [109,101,116,114,105,99]).1=true then Xb c (isC c cu [109,101,116,114,105,99]).2 0 16777216 else (-1,(isC c cu [109,101,116,114,105,99]).2)
def tyR (c:Cx) (cu:Cu) (typed:Bool):Int × Cu:=if typed=true then (if (isC c cu [116,121,112,101]).1=true then Xb c (isC c cu [116,121,112,101]).2 1 2 else (2,(isC c cu [116,121,112,101]).2)) else (0,cu)
def rmR (c:Cx) (cu:Cu):Str × Cu:=if (isC c cu [114,111,117,116,101,45,109,97,112]).1=true then X17 c (isC c cu [114,111,117,116,101,45,109,97,112]).2 else ([],(isC c cu [114,111,117,116,101,45,109,97,112]).2)
def frR (i from':Nat):Nat:=if i=0 then 1 else if i=1 then 2 else from'
def X2e (c:Cx) (cu:Cu) (third:Str) (from':Nat) (typed:Bool):(Nat × Int × Int × Str) × Cu:=
 let o:=oneC c cu [[99,111,110,110,101,99,116,101,100],[115,116,97,116,105,99],third];let a:=meR c o.2;let b:=tyR c a.2 typed;let r:=rmR c b.2
 ((frR o.1 from',a.1,b.1,r.1),r.2)
variable {c:Cx} {m0 m:Mem} {φ0 φ:Phi} {s0 s:PSt} {cap:Nat} {ts:List Tmp} {Q:Value->Nat->Phi->PSt->Prop}
abbrev U32 (n:Nat):Value:=.int .u32 (n:Int)
theorem X18 (h:PS c cap m φ s) (lo z:Int) (hi:Nat) (hz:z=(hi:Int)) (hh:hi < 1000000000000) (d:Nat):CuC c cap m φ s (TA (d + 6) Q2 [pt c.C 0 0,.int .i64 lo,.int .i64 z] m) (.int .i64 (Xb c s.cu lo hi).1) (Xb c s.cu lo hi).2:=by
 subst hz;have hl:=X2w h;refine h.cuR (X6s _ _ _ _ _) fun m0 k=>?_;delta Q4d Qbs C;refine k.call (X2x k.ps (d + 3)) fun m1 k1=>?_;delta Qbr C D K A;unfold Xb;simp only [c_form _ hl d m1,X4,X63,X3];refine Xk (fun hb=>?_) (fun hb=>?_)
 ·have:Xmu (Xf c s.cu).1=false:=by grind
  rw [this];exact k1.call (X3t k1.ps 130 (by decide) (d + 3)) fun m2 k2=>k2.retc
 ·have:Xmu (Xf c s.cu).1=true:=by grind
  rw [this];delta Qbq Qbp C D B U qh qf;have e1:=c_lexNumber' (Xf c s.cu).1 (Nat.le_trans hl (by decide)) hi hh (d + 4) m1;have e1:TA (d + 5) Qde [sv (Xf c s.cu).1,.int .i64 (hi:Int)] m1=_:=e1;simp only [e1,X4,ex0,ex1,X3,X63];cases hs:(num hi (Xf c s.cu).1).isSome with
  | false =>
   simp only [Bool.not_false,X7];delta Q57 Q56 C Q K A;simp only [X7,Bool.false_eq_true,false_and,if_false,if_true];exact k1.call (X3t k1.ps 131 (by decide) (d + 3)) fun m2 k2=>k2.retc
  | true =>
   simp only [Bool.not_true,X6,Q1d,X3,true_and,if_true];delta Q57 Q56 C Q K A;by_cases hlt:((numV (num hi (Xf c s.cu).1):Nat):Int) < lo
   ·rw [decide_eq_true hlt,X7,if_neg (by omega)];exact k1.call (X3t k1.ps 131 (by decide) (d + 3)) fun m2 k2=>k2.retc
   ·rw [decide_eq_false hlt,X6,if_pos (by omega)];exact k1.retc
theorem X4h (h:PS c cap m φ s) (d:Nat):CuC c cap m φ s (TA (d + 5) Qz [pt c.C 0 0] m) (.int .u32 ((X1e c s.cu).1:Int)) (X1e c s.cu).2:=by
 have hl:=X2w h;refine h.cuR (X8c _ _ _) fun m0 k=>?_;delta Q5j Qdg C U;refine k.call (X2x k.ps (d + 2)) fun m1 k1=>?_;simp only [c_addrParse _ (Nat.le_trans hl (by decide)) d m1,X4];unfold X1e Xhs;cases Xds (Xf c s.cu).1 with
 | none =>
  simp only [ex0,ex1,X3];delta Q9p Q6l C D K A;have e:bin .neq true true .int (I 4) (.int .i64 0)=some (.bool true):=by rfl
  simp only [e,X3,X7];exact k1.call (X3t k1.ps 130 (by decide) (d + 2)) fun m2 k2=>k2.retc
 | some a =>
  simp only [ex0,ex1,X3];delta Q9p Q6l C D K A;have e:bin .neq true true .int (I 0) (.int .i64 0)=some (.bool false):=by rfl
  simp only [e,X3,X6];exact k1.retc
theorem Xtx (h:PS c cap m φ s) (d:Nat):CuC c cap m φ s (TA (d + 6) Q92 [pt c.C 0 0] m) (.int .u32 ((hopC c s.cu).1:Int)) (hopC c s.cu).2:=by
 refine h.cuR (X97 _ _ _) fun m0 k=>?_;delta Q6q Qez C;refine k.call (X4h k.ps d) fun m1 k1=>?_;delta Qey Qaf C D K qg A;unfold hopC;simp only [Q79,X3];refine Xk (fun hb=>?_) (fun hb=>?_)
 ·have hb:=of_decide_eq_true hb;have:(X1e c s.cu).1=0:=by omega
  rw [if_pos this];exact k1.call (X3t k1.ps 131 (by decide) (d + 3)) fun m2 k2=>k2.retc
 ·have hb:=of_decide_eq_false hb;have:(X1e c s.cu).1 ≠ 0:=fun e=>hb (by omega);rw [if_neg this];exact k1.retc
theorem Xa1 (c:Cx) (cu:Cu):(X1e c cu).1 < 4294967296:=by
 unfold X1e;cases h:Xds (Xf c cu).1 with
 | none=>show 0 < 4294967296; omega
 | some a=>exact Xkg h
theorem Xgr (h:PS c cap m φ s) (wild:Bool) (d:Nat):CuC c cap m φ s (TA (d + 6) Q3y [pt c.C 0 0,.bool wild] m) (I (X35 c s.cu wild).1) (X35 c s.cu wild).2:=by
 have ha:=Xa1 c s.cu;refine h.cuR (X8f _ _ _ _) fun m0 k=>?_;delta Q5k Qdi C;refine k.call (X4h k.ps d) fun m1 k1=>?_;have fin:∀ a,a < 4294967296->(X35 c s.cu wild)=(match Xnj a with | some n=>(n,(X1e c s.cu).2) | none=>(0,badC c (X1e c s.cu).2 10))->Res c m0 φ s (Q6n ⟨TA (d + 5),18446744073709551616⟩ (U32 a) (pt c.C 0 0) m1) (Q_c cap φ s (I (X35 c s.cu wild).1) (X35 c s.cu wild).2):=fun a hlt he=>by
  delta Q6n C U;rw [he];simp only [c_Bits a hlt (d + 2) m1,X4];unfold Xvp;cases Xnj a with
  | none =>
   simp only [ex0,ex1,X3];delta Q9q Q6m C D K A;have e:bin .neq true true .int (I 10) (.int .i64 0)=some (.bool true):=by rfl
   simp only [e,X3,X7];exact k1.call (X3t k1.ps 10 (by decide) (d + 3)) fun m2 k2=>k2.retc
  | some n =>
   simp only [ex0,ex1,X3];delta Q9q Q6m C D K A;have e:bin .neq true true .int (I 0) (.int .i64 0)=some (.bool false):=by rfl
   simp only [e,X3,X6];exact k1.retc
 delta Qdh Q B;cases wild with
 | true =>
  simp only [X7];rw [Xk3 _ ha,X3];exact fin _ (by omega) rfl
 | false =>
  simp only [X6];exact fin _ ha rfl
theorem Xrg (h:PS c cap m φ s) (a:Nat) (ha:a < 4294967296) (b:Int) (d:Nat):CuC c cap m φ s (TA (d + 3) Q6f [pt c.C 0 0,.int .u32 (a:Int),.int .i64 b] m) (pfx a b) (netC c s.cu a b):=by
 refine h.cuR (X9z _ _ _ _ _) fun m0 k=>?_;delta Q6p S;refine k.new fun b1 m1 k1=>?_;delta Qex B T S;have e1:Xg Qq [(0,1),(1,1)] [(0,.int .u32 (a:Int)),(1,.int .i64 b)]=some (pfx a b):=Eq.trans rfl rfl;rw [e1,X3];refine k1.new fun b2 m2 k2=>?_;refine k2.sto (l1:=[]) (o:=0) (y:=pfx a b) (cs':=[.int .u32 (a:Int),.int .i64 b]) rfl rfl (by show 0 + 2 <= 2; omega) rfl fun m3 k3=>?_;delta Qew C D qc A;have l1:∀ {m' ts' s'},W c m0 φ s cap m' φ s' ((b2,0,[.int .u32 (a:Int),.int .i64 b]) :: ts')->X8 true 2 (pt b2 0 0) m'=some (pfx a b):=fun w=>w.lds (o:=0) (List.mem_cons_self ..) (by show 0 + 2 <= 2; omega) rfl;rw [l1 k3,X3];simp only [c_addrCheck a ha b d m3,X4,Q9y,X3];have fin:∀ m4 cu,W c m0 φ s cap m4 φ { s with cu:=cu } [(b2,0,[.int .u32 (a:Int),.int .i64 b]),(b1,0,Qq)]->Res c m0 φ s (Q7i ⟨TA (d + 2),18446744073709551616⟩ (pt b2 0 0) (pt b1 0 0) m4) (Q_c cap φ s (pfx a b) cu):=fun m4 cu k4=>by
  delta Q7i qc qq;rw [l1 k4,X3];refine k4.sto (l1:=[_]) (o:=0) (y:=pfx a b) (cs':=[.int .u32 (a:Int),.int .i64 b]) rfl rfl (by show 0 + 2 <= 2; omega) rfl fun m5 k5=>?_;rw [show X8 true 2 (pt b1 0 0) m5=some (pfx a b) from k5.lds (o:=0) (List.mem_cons_of_mem _ (List.mem_cons_self ..)) (by show 0 + 2 <= 2; omega) rfl,Xih];exact k5.retc
 unfold netC;refine Xk (fun hb=>?_) (fun hb=>?_)
 ·have hb:=of_decide_eq_true hb;rw [if_neg (fun e=>hb (by rw [e]; rfl))];exact k3.call (X3t k3.ps 10 (by decide) d) fun m4 k4=>fin m4 _ k4
 ·have hb:=of_decide_eq_false hb;rw [if_pos (by omega)];exact fin m3 s.cu k3
theorem Xnt (h:PS c cap m φ s) (d:Nat):CuC c cap m φ s (TA (d + 7) Q8h [pt c.C 0 0] m) (pfx (X7w c s.cu).1.1 ((X7w c s.cu).1.2:Int)) (X7w c s.cu).2:=by
 refine h.cuR (X8o _ _ _) fun m0 k=>?_;delta Q5w C Q B qq S A qf E;refine k.new fun b1 m1 k1=>?_;refine k1.call (X5n k1.ps [97,110,121] (d + 4)) fun m2 k2=>?_;have fin:∀ m4 cu v,v.cells.size=2->v.cells.toList.all one=true->v=.agg ⟨v.cells.toList⟩->W c m0 φ s cap m4 φ { s with cu:=cu } [(b1,0,Qq)] ->
   Res c m0 φ s (bp (unt (Xd 2 (pt b1 0 0) v m4)) fun _ m=>ob (ob (X8 true 2 (pt b1 0 0) m) fun v=>ob (some []) fun l=>some (v :: l)) fun l=>some (X1i l,m)) (Q_c cap φ s v cu):=fun m4 cu v hv h1 he k4=>by
  refine k4.sto (l1:=[]) (o:=0) (cs':=v.cells.toList) hv h1 (by show 0 + 2 <= 2; omega) (by simp [List.drop_eq_nil_of_le,Qq]) fun m5 k5=>?_;rw [show X8 true 2 (pt b1 0 0) m5=some v from (k5.lds (o:=0) (List.mem_cons_self ..) (by rw [Array.length_toList,hv]; decide) (by rw [List.drop_zero,List.take_of_length_le (Nat.le_of_eq (by omega))])).trans (by rw [<- he]),Xih];exact k5.retc
 dsimp only [X7w];refine Xk (fun hb=>?_) (fun hb=>?_)
 ·rw [hb,if_pos rfl,show Xg Qq [(0,1),(1,1)] []=some (pfx 0 0) from Eq.trans rfl rfl,X3];exact fin m2 _ (pfx 0 0) rfl rfl rfl k2
 ·rw [hb,if_neg (by decide)];refine k2.call (X5n k2.ps [104,111,115,116] (d + 4)) fun m3 k3=>?_;refine Xk (fun hb=>?_) (fun hb=>?_)
  ·rw [hb,if_pos rfl];refine k3.call (X4h k3.ps (d + 1)) fun m4 k4=>?_;rw [show Xg Qq [(0,1),(1,1)] [(0,.int .u32 ((X1e c (isC c (isC c s.cu [97,110,121]).2 [104,111,115,116]).2).1:Int)),(1,.int .i64 32)]=some (pfx (X1e c (isC c (isC c s.cu [97,110,121]).2 [104,111,115,116]).2).1 32) from Eq.trans rfl rfl,X3];exact fin m4 _ (pfx _ 32) rfl rfl rfl k4
  ·rw [hb,if_neg (by decide)];refine k3.call (X4h k3.ps (d + 1)) fun m4 k4=>?_;refine k4.call (Xgr k4.ps true d) fun m5 k5=>?_;have law:=Xrg k5.ps (X1e c (isC c (isC c s.cu [97,110,121]).2 [104,111,115,116]).2).1 (Xa1 _ _) ((X35 c (X1e c (isC c (isC c s.cu [97,110,121]).2 [104,111,115,116]).2).2 true).1:Int) (d + 3);dsimp only at law k5;refine k5.call law fun m6 k6=>?_;dsimp only at k6 ⊢;exact fin m6 (netC c (X35 c (X1e c (isC c (isC c s.cu [97,110,121]).2 [104,111,115,116]).2).2 true).2 (X1e c (isC c (isC c s.cu [97,110,121]).2 [104,111,115,116]).2).1 ((X35 c (X1e c (isC c (isC c s.cu [97,110,121]).2 [104,111,115,116]).2).2 true).1:Int)) (pfx (X1e c (isC c (isC c s.cu [97,110,121]).2 [104,111,115,116]).2).1 ((X35 c (X1e c (isC c (isC c s.cu [97,110,121]).2 [104,111,115,116]).2).2 true).1:Int)) rfl rfl rfl k6
variable {c:Cx} {m0 m:Mem} {φ0 φ:Phi} {s0 s:PSt} {cap:Nat} {ts:List Tmp} {Q:Value->Nat->Phi->PSt->Prop}
abbrev spV (a b:Int):Value:=.agg ⟨[.int .u32 a,.int .u32 b]⟩
theorem Xsz {most:Nat} (s:Str):numV (num most s) <= most:=by
 cases h:num most s with
 | none=>exact Nat.zero_le _
 | some n=>exact (num_some.mp h).2
theorem X8w (c:Cx) (cu:Cu) (lo:Int) (hi:Nat):0 <= (Xb c cu lo hi).1/\(Xb c cu lo hi).1 <= hi:=by
 unfold Xb;split
 ·have:=Xsz (most:=hi) (Xf c cu).1;constructor
  ·exact Int.natCast_nonneg _
  ·show ((numV (num hi (Xf c cu).1):Nat):Int) <= hi;omega
 ·exact ⟨Int.le_refl _,Int.natCast_nonneg _⟩
theorem Xat (c:Cx) (cu:Cu) (lo:Int) (hi:Nat) (h:hi < 4294967296) (m:Mem):conv (.int .u32) (.int .i64 (Xb c cu lo hi).1) m=some (.int .u32 (Xb c cu lo hi).1,m):=by
 have:=X8w c cu lo hi;rw [c_int,IntWalk.u32_in _ (by omega)]
theorem Xl8 (h:PS c cap m φ s) (proto:Int) (d:Nat):CuC c cap m φ s (TA (d + 7) Q7j [pt c.C 0 0,.int .i64 proto] m) (spV (X2g c s.cu proto).1.1 (X2g c s.cu proto).1.2) (X2g c s.cu proto).2:=by
 refine h.cuR (X7u _ _ _ _) fun m0 k=>?_;delta Q54 S;refine k.new fun b1 m1 k1=>?_;delta Qd0 B T S;rw [show Xg Q8y [(0,1),(1,1)] [(1,.int .u32 65535)]=some (spV 0 65535) from Eq.trans rfl rfl,X3];refine k1.new fun b2 m2 k2=>?_;refine k2.sto (l1:=[]) (o:=0) (y:=spV 0 65535) (cs':=[.int .u32 0,.int .u32 65535]) rfl rfl (by show 0 + 2 <= 2; omega) rfl fun m3 k3=>?_;have fin:∀ m4 cu a b,W c m0 φ s cap m4 φ { s with cu:=cu } [(b2,0,[.int .u32 0,.int .u32 65535]),(b1,0,Q8y)] ->
   Res c m0 φ s (bp (unt (Xd 2 (pt b1 0 0) (spV a b) m4)) fun _ m=>ob (ob (X8 true 2 (pt b1 0 0) m) fun v=>ob (some []) fun l=>some (v :: l)) fun l=>some (X1i l,m)) (Q_c cap φ s (spV a b) cu):=fun m4 cu a b k4=>by
  refine k4.sto (l1:=[_]) (o:=0) (y:=spV a b) (cs':=[.int .u32 a,.int .u32 b]) rfl rfl (by show 0 + 2 <= 2; omega) rfl fun m5 k5=>?_;rw [show X8 true 2 (pt b1 0 0) m5=some (spV a b) from k5.lds (o:=0) (List.mem_cons_of_mem _ (List.mem_cons_self ..)) (by show 0 + 2 <= 2; omega) rfl,Xih];exact k5.retc
 have al:∀ m4 cu,W c m0 φ s cap m4 φ { s with cu:=cu } [(b2,0,[.int .u32 0,.int .u32 65535]),(b1,0,Q8y)]->X8 true 2 (pt b2 0 0) m4=some (spV 0 65535):=fun m4 cu k4=>k4.lds (o:=0) (List.mem_cons_self ..) (by show 0 + 2 <= 2; omega) rfl;have ab:∀ x y:Int,Xg Q8y [(0,1),(1,1)] [(0,.int .u32 x),(1,.int .u32 y)]=some (spV x y):=fun x y=>Eq.trans rfl rfl;have k3:W c m0 φ s cap m3 φ { s with cu:=s.cu } [(b2,0,[.int .u32 0,.int .u32 65535]),(b1,0,Q8y)]:=k3;delta Qd1 D B qe A;simp only [Q9y,X3];by_cases h6:proto ≠ 6/\proto ≠ 17
 ·rw [decide_eq_true h6.1,X7,decide_eq_true h6.2];delta Q3w F C Q qc B qq A E;rw [X7,al m3 s.cu k3,X3];dsimp only [X2g];rw [if_pos h6];exact fin m3 s.cu 0 65535 k3
 ·have go:∀ x,x=Q3w ⟨TA (d + 6),18446744073709551616⟩ (.bool false) (pt b2 0 0) (pt b1 0 0) (pt c.C 0 0) m3->Res c m0 φ s x (Q_c cap φ s (spV (X2g c s.cu proto).1.1 (X2g c s.cu proto).1.2) (X2g c s.cu proto).2):=fun x hx=>by
   subst hx;delta Q3w F C Q qc B qq A E;rw [X6];dsimp only [X2g];rw [if_neg h6];refine k3.call (X5n k3.ps [101,113] (d + 4)) fun m4 k4=>?_;refine Xk (fun hb=>?_) (fun hb=>?_)
   ·rw [hb,if_pos rfl];refine k4.call (X18 k4.ps 0 65535 65535 rfl (by omega) d) fun m5 k5=>?_;dsimp only at k5 ⊢;simp only [Xat c _ 0 65535 (by omega),X4,ab,X3];exact fin m5 _ _ _ k5
   ·rw [hb,if_neg (by decide)];refine k4.call (X5n k4.ps [114,97,110,103,101] (d + 4)) fun m5 k5=>?_;refine Xk (fun hb=>?_) (fun hb=>?_)
    ·rw [hb,if_pos rfl];refine k5.call (X18 k5.ps 0 65535 65535 rfl (by omega) d) fun m6 k6=>?_;dsimp only at k6 ⊢;simp only [Xat c _ 0 65535 (by omega),X4];refine k6.call (X18 k6.ps _ 65535 65535 rfl (by omega) d) fun m7 k7=>?_;dsimp only at k7 ⊢;simp only [Xat c _ _ 65535 (by omega),X4,ab,X3];exact fin m7 _ _ _ k7
    ·rw [hb,if_neg (by decide),al m5 _ k5,X3];exact fin m5 _ 0 65535 k5
  by_cases h1:proto=6
  ·rw [decide_eq_false (fun e=>e h1),X6];exact go _ rfl
  ·have h2:proto=17:=Classical.byContradiction fun e=>h6 ⟨h1,e⟩;rw [decide_eq_true h1,X7,decide_eq_false (fun e=>e h2)];exact go _ rfl
variable {c:Cx} {m0 m:Mem} {φ0 φ:Phi} {s0 s:PSt} {cap:Nat} {ts:List Tmp} {Q:Value->Nat->Phi->PSt->Prop}
abbrev rdL (a:Nat) (b t:Int) (n:Str):List Value:=[.int .u8 (a:Int),.int .i64 b,.int .u8 t,sv n]
abbrev rdV (a:Nat) (b t:Int) (n:Str):Value:=.agg ⟨rdL a b t n⟩
theorem Xg0 (c:Cx) (cu:Cu) (l:List Str) (h:l ≠ []):(oneC c cu l).1 < l.length:=by
 have key:∀ (w:Str) (l:List Str) (i j:Nat),idxO w l i=some j->j < i + l.length:=by
  intro w l
  induction l with
  | nil=>intro i j h; cases h
  | cons x l ih =>
   intro i j h;unfold idxO at h;split at h
   ·cases h; simp
   ·have:=ih (i + 1) j h;simp only [List.length_cons]; omega
 unfold oneC;cases hi:idxO (Xf c cu).1 l 0 with
 | none=>exact List.length_pos_iff.mpr h
 | some j=>have:=key _ _ _ _ hi; simpa using this
theorem Xuu (d:Nat) (third:Str) (b0 b1:Nat) (z:List Value) (hz:z.length=4) (m4:Mem) (cu:Cu) (a:Nat) (b t:Int) (n:Str) (k4:W c m0 φ s cap m4 φ { s with cu:=cu } [(b1,0,rdL a b t n),(b0,0,z)]) :
  Res c m0 φ s (Q5a ⟨TA d,18446744073709551616⟩ (pt b1 0 0) (pt b0 0 0) m4) (Q_c cap φ s (rdV a b t n) cu):=by
 delta Q5a qc qq;rw [show X8 true 4 (pt b1 0 0) m4=some (rdV a b t n) from k4.lds (o:=0) (List.mem_cons_self ..) (by show 0 + 4 <= 4; omega) rfl,X3];refine k4.sto (l1:=[_]) (o:=0) (y:=rdV a b t n) (cs':=rdL a b t n) rfl rfl (by show 0 + 4 <= z.length; omega) (by show [] ++ rdL a b t n ++ z.drop (0 + 4)=_; rw [List.drop_eq_nil_of_le (by omega)]; rfl) fun m5 k5=>?_;rw [show X8 true 4 (pt b0 0 0) m5=some (rdV a b t n) from k5.lds (o:=0) (List.mem_cons_of_mem _ (List.mem_cons_self ..)) (by simp) rfl,Xih];exact k5.retc
theorem Xri (d:Nat) (b0 b1:Nat) (z:List Value) (hz:z.length=4) (m4:Mem) (cu:Cu) (a:Nat) (b t:Int) (k4:W c m0 φ s cap m4 φ { s with cu:=cu } [(b1,0,rdL a b t []),(b0,0,z)]) :
  Res c m0 φ s (Q3h ⟨TA (d + 5),18446744073709551616⟩ (pt c.C 0 0) (pt b1 0 0) (pt b0 0 0) m4) (Q_c cap φ s (rdV a b t (rmR c cu).1) (rmR c cu).2):=by
 delta Q3h C Q qk E;unfold rmR;refine k4.call (X5n k4.ps [114,111,117,116,101,45,109,97,112] (d + 3)) fun m5 k5=>?_;refine Xk (fun hb=>?_) (fun hb=>?_)
 ·rw [if_pos hb];refine k5.call (X38 k5.ps d) fun m6 k6=>?_;dsimp only at k6 ⊢;simp only [X9,X3];refine k6.sto (l1:=[]) (o:=3) (y:=sv (X17 c (isC c cu [114,111,117,116,101,45,109,97,112]).2).1) (cs':=rdL a b t (X17 c (isC c cu [114,111,117,116,101,45,109,97,112]).2).1) rfl rfl (by show 3 + 1 <= 4; omega) rfl fun m7 k7=>?_;exact Xuu _ [] b0 b1 z hz m7 _ a b t _ k7
 ·rw [if_neg (by grind)];exact Xuu _ [] b0 b1 z hz m5 _ a b t [] k5
theorem Xym (c:Cx) (cu:Cu) (lo:Int) (hi:Nat) (h:hi < 256) (m:Mem):conv (.int .u8) (.int .i64 (Xb c cu lo hi).1) m=some (.int .u8 (Xb c cu lo hi).1,m):=by
 have:=X8w c cu lo hi;rw [c_int];have e:IntKind.u8.wrap (Xb c cu lo hi).1=(Xb c cu lo hi).1:=by
  show (Xb c cu lo hi).1 % 256=_;omega
 rw [e]
theorem Xo8 (d:Nat) (typed:Bool) (b0 b1:Nat) (z:List Value) (hz:z.length=4) (m4:Mem) (cu:Cu) (a:Nat) (b:Int) (k4:W c m0 φ s cap m4 φ { s with cu:=cu } [(b1,0,rdL a b 0 []),(b0,0,z)]) :
  Res c m0 φ s (Q5b ⟨TA (d + 6),18446744073709551616⟩ (.bool typed) (pt b1 0 0) (pt c.C 0 0) (pt b0 0 0) m4) (Q_c cap φ s (rdV a b (tyR c cu typed).1 (rmR c (tyR c cu typed).2).1) (rmR c (tyR c cu typed).2).2):=by
 delta Q5b F C Q qk A E;unfold tyR;cases typed with
 | false =>
  rw [X6,if_neg (by decide)];exact Xri (d + 1) b0 b1 z hz m4 cu a b 0 k4
 | true =>
  rw [X7,if_pos rfl];simp only [X9,X3];refine k4.sto (l1:=[]) (o:=2) (y:=.int .u8 2) (cs':=rdL a b 2 []) rfl rfl (by show 2 + 1 <= 4; omega) rfl fun m5 k5=>?_;have k5:W c m0 φ s cap m5 φ { s with cu:=cu } [(b1,0,rdL a b 2 []),(b0,0,z)]:=k5;refine k5.call (X5n k5.ps [116,121,112,101] (d + 4)) fun m6 k6=>?_;refine Xk (fun hb=>?_) (fun hb=>?_)
  ·rw [if_pos hb];refine k6.call (X18 k6.ps 1 2 2 rfl (by omega) d) fun m7 k7=>?_;dsimp only at k7 ⊢;simp only [Xym c _ 1 2 (by omega),X4,X9,X3];refine k7.sto (l1:=[]) (o:=2) (y:=.int .u8 (Xb c (isC c cu [116,121,112,101]).2 1 2).1) (cs':=rdL a b (Xb c (isC c cu [116,121,112,101]).2 1 2).1 []) rfl rfl (by show 2 + 1 <= 4; omega) rfl fun m8 k8=>?_;exact Xri (d + 1) b0 b1 z hz m8 _ a b _ k8
  ·rw [if_neg (by grind)];exact Xri (d + 1) b0 b1 z hz m6 _ a b 2 k6
theorem Xyc (d:Nat) (typed:Bool) (b0 b1:Nat) (z:List Value) (hz:z.length=4) (m4:Mem) (cu:Cu) (a:Nat) (k4:W c m0 φ s cap m4 φ { s with cu:=cu } [(b1,0,rdL a (-1) 0 []),(b0,0,z)]) :
  Res c m0 φ s (Q89 ⟨TA (d + 6),18446744073709551616⟩ (pt c.C 0 0) (pt b1 0 0) (.bool typed) (pt b0 0 0) m4) (Q_c cap φ s (rdV a (meR c cu).1 (tyR c (meR c cu).2 typed).1 (rmR c (tyR c (meR c cu).2 typed).2).1) (rmR c (tyR c (meR c cu).2 typed).2).2):=by
 delta Q89 C Q qk A E;unfold meR;refine k4.call (X5n k4.ps [109,101,116,114,105,99] (d + 4)) fun m6 k6=>?_;refine Xk (fun hb=>?_) (fun hb=>?_)
 ·rw [if_pos hb];refine k6.call (X18 k6.ps 0 16777216 16777216 rfl (by omega) d) fun m7 k7=>?_;dsimp only at k7 ⊢;simp only [X9,X3];refine k7.sto (l1:=[]) (o:=1) (y:=.int .i64 (Xb c (isC c cu [109,101,116,114,105,99]).2 0 16777216).1) (cs':=rdL a (Xb c (isC c cu [109,101,116,114,105,99]).2 0 16777216).1 0 []) rfl rfl (by show 1 + 1 <= 4; omega) rfl fun m8 k8=>?_;exact Xo8 d typed b0 b1 z hz m8 _ a _ k8
 ·rw [if_neg (by grind)];exact Xo8 d typed b0 b1 z hz m6 _ a (-1) k6
theorem Xqc (h:PS c cap m φ s) (third:Str) (fr:Nat) (typed:Bool) (d:Nat):CuC c cap m φ s (TA (d + 7) Q4g [pt c.C 0 0,sv third,.int .u8 (fr:Int),.bool typed] m)
  (rdV (X2e c s.cu third fr typed).1.1 (X2e c s.cu third fr typed).1.2.1 (X2e c s.cu third fr typed).1.2.2.1 (X2e c s.cu third fr typed).1.2.2.2) (X2e c s.cu third fr typed).2:=by
 refine h.cuR (X6x _ _ _ _ _ _) fun m0 k=>?_;delta Q4m S;refine k.new fun b0 m1 k1=>?_;delta Qbx F C B T S qx qy A E;refine k1.bsl (cs:=[.int .u8 1,.int .u8 2,.int .u8 (fr:Int)]) rfl (by decide) fun bb m2 k2=>?_;refine k2.bsl (cs:=[[99,111,110,110,101,99,116,101,100],[115,116,97,116,105,99],third].map sv) rfl (by decide) fun bs m3 k3=>?_;have k3:W c m0 φ s cap m3 φ { s with cu:=s.cu } [(bs,0,[[99,111,110,110,101,99,116,101,100],[115,116,97,116,105,99],third].map sv),(bb,0,[.int .u8 1,.int .u8 2,.int .u8 (fr:Int)]),(b0,0,Q67)]:=k3;have lt:=Xg0 c s.cu [[99,111,110,110,101,99,116,101,100],[115,116,97,116,105,99],third] (by simp);refine k3.call (X6d k3.ps (k3.slx (List.mem_cons_self ..)) (by simp) (d + 3)) fun m4 k4=>?_;generalize hO:oneC c s.cu [[99,111,110,110,101,99,116,101,100],[115,116,97,116,105,99],third]=O at k4 lt;have lt:O.1 < 3:=lt;have ix:Xa 1 (.slice (some ⟨bb,0,some 1⟩) 3 1) (I O.1)=some (pt bb (O.1 * 1) 0):=X3e ⟨bb,0,1⟩ (by simp) 3 1 O.1 .i64 lt;have ld:X8 false 1 (pt bb (O.1 * 1) 0) m4=some (.int .u8 (frR O.1 fr:Int)):=k4.ld (List.mem_cons_of_mem _ (List.mem_cons_self ..)) (by
  have:O.1=0\/O.1=1\/O.1=2:=by omega
  rcases this with e | e | e <;> rw [e] <;> rfl)
 have eb:Xg Q67 [(0,1),(1,1),(2,1),(3,1)] [(0,.int .u8 (frR O.1 fr:Int)),(1,.int .i64 (-1))]=some (rdV (frR O.1 fr) (-1) 0 []):=Eq.trans rfl rfl;simp only [ix,X3,ld,eb];refine k4.new fun b1 m5 k5=>?_;refine k5.sto (l1:=[]) (o:=0) (y:=rdV (frR O.1 fr) (-1) 0 []) (cs':=rdL (frR O.1 fr) (-1) 0 []) rfl rfl (by show 0 + 4 <= 4; omega) rfl fun m6 k6=>?_;have k6:W c m0 φ s cap m6 φ { s with cu:=O.2 } [(b1,0,rdL (frR O.1 fr) (-1) 0 []),(b0,0,Q67)]:=W.sub k6 (by
  simp)
 dsimp only [X2e];rw [hO];exact Xyc d typed b0 b1 Q67 rfl m6 O.2 (frR O.1 fr) k6
variable {c:Cx} {m0 m:Mem} {φ0 φ:Phi} {s0 s:PSt} {cap:Nat} {ts:List Tmp} {Q:Value->Nat->Phi->PSt->Prop}
abbrev enL (p:Bool) (a b:Nat) (g l:Int):List Value:=[.bool p,.int .u32 (a:Int),.int .i64 (b:Int),.int .i64 g,.int .i64 l]
abbrev enV (p:Bool) (a b:Nat) (g l:Int):Value:=.agg ⟨enL p a b g l⟩
theorem Xu0 (d:Nat) (b0 b1:Nat) (z:List Value) (hz:z.length=5) (m4:Mem) (cu:Cu) (p:Bool) (a b:Nat) (g l:Int) {ts:List Tmp} (k4:W c m0 φ s cap m4 φ { s with cu:=cu } [(b1,0,enL p a b g l),(b0,0,z)]) :
  Res c m0 φ s (Q61 ⟨TA d,18446744073709551616⟩ (pt b1 0 0) (pt b0 0 0) m4) (Q_c cap φ s (enV p a b g l) cu):=by
 delta Q61 qc qq;rw [show X8 true 5 (pt b1 0 0) m4=some (enV p a b g l) from k4.lds (o:=0) (List.mem_cons_self ..) (by simp) rfl,X3];refine k4.sto (l1:=[_]) (o:=0) (y:=enV p a b g l) (cs':=enL p a b g l) rfl rfl (by show 0 + 5 <= z.length; omega) (by show [] ++ enL p a b g l ++ z.drop (0 + 5)=_; rw [List.drop_eq_nil_of_le (by omega)]; rfl) fun m5 k5=>?_;rw [show X8 true 5 (pt b0 0 0) m5=some (enV p a b g l) from k5.lds (o:=0) (List.mem_cons_of_mem _ (List.mem_cons_self ..)) (by simp) rfl,Xih];exact k5.retc
theorem Xz7 (d:Nat) (b0 b1:Nat) (z:List Value) (hz:z.length=5) (m4:Mem) (cu:Cu) (p:Bool) (a b:Nat) (g l:Int) (k4:W c m0 φ s cap m4 φ { s with cu:=cu } [(b1,0,enL p a b g l),(b0,0,z)]) :
  Res c m0 φ s (Q62 ⟨TA (d + 6),18446744073709551616⟩ (pt c.C 0 0) (pt b1 0 0) (pt b0 0 0) m4) (Q_c cap φ s (enV p a b g (leR c cu g l).1) (leR c cu g l).2):=by
 delta Q62 C H Q qk A E;unfold leR;refine k4.call (X5n k4.ps [108,101] (d + 4)) fun m5 k5=>?_;refine Xk (fun hb=>?_) (fun hb=>?_)
 ·rw [if_pos hb];have ld:X8 false 1 (pt b1 3 0) m5=some (.int .i64 g):=k5.ld (List.mem_cons_self ..) rfl;simp only [X9,X3,Nat.zero_add,ld];refine k5.call (X18 k5.ps g 32 32 rfl (by omega) d) fun m6 k6=>?_;dsimp only at k6 ⊢;refine k6.sto (l1:=[]) (o:=4) (y:=.int .i64 (Xb c (isC c cu [108,101]).2 g 32).1) (cs':=enL p a b g (Xb c (isC c cu [108,101]).2 g 32).1) rfl rfl (by show 4 + 1 <= 5; omega) rfl fun m7 k7=>?_;exact Xu0 _ b0 b1 z hz m7 _ p a b g _ (ts:=[]) k7
 ·rw [if_neg (by grind)];exact Xu0 _ b0 b1 z hz m5 _ p a b g l (ts:=[]) k5
theorem X10h (d:Nat) (b0 b1 b2:Nat) (z:List Value) (hz:z.length=5) (m4:Mem) (cu:Cu) (p:Bool) (a b:Nat) (k4:W c m0 φ s cap m4 φ { s with cu:=cu } [(b2,0,[.int .u32 (a:Int),.int .i64 (b:Int)]),(b1,0,enL p a b b b),(b0,0,z)]) :
  Res c m0 φ s (Q8v ⟨TA (d + 6),18446744073709551616⟩ (pt c.C 0 0) (pt b2 0 0) (pt b1 0 0) (pt b0 0 0) m4) (Q_c cap φ s (enV p a b (geR c cu b).1.1 (leR c (geR c cu b).2 (geR c cu b).1.1 (geR c cu b).1.2).1) (leR c (geR c cu b).2 (geR c cu b).1.1 (geR c cu b).1.2).2):=by
 delta Q8v C H Q qk A E;unfold geR;refine k4.call (X5n k4.ps [103,101] (d + 4)) fun m5 k5=>?_;refine Xk (fun hb=>?_) (fun hb=>?_)
 ·rw [if_pos hb];have ld:X8 false 1 (pt b2 1 0) m5=some (.int .i64 (b:Int)):=k5.ld (List.mem_cons_self ..) rfl;simp only [X9,X3,Nat.zero_add,ld];refine k5.call (X18 k5.ps b 32 32 rfl (by omega) d) fun m6 k6=>?_;dsimp only at k6 ⊢;refine k6.sto (l1:=[_]) (o:=3) (y:=.int .i64 (Xb c (isC c cu [103,101]).2 b 32).1) (cs':=enL p a b (Xb c (isC c cu [103,101]).2 b 32).1 b) rfl rfl (by show 3 + 1 <= 5; omega) rfl fun m7 k7=>?_;refine k7.sto (l1:=[_]) (o:=4) (y:=.int .i64 32) (cs':=enL p a b (Xb c (isC c cu [103,101]).2 b 32).1 32) rfl rfl (by show 4 + 1 <= 5; omega) rfl fun m8 k8=>?_;have k8:W c m0 φ s cap m8 φ { s with cu:=(Xb c (isC c cu [103,101]).2 b 32).2 } ((b2,0,[.int .u32 (a:Int),.int .i64 (b:Int)]) :: [(b1,0,enL p a b (Xb c (isC c cu [103,101]).2 b 32).1 32),(b0,0,z)]):=k8;exact Xz7 d b0 b1 z hz m8 _ p a b _ 32 k8.tl
 ·rw [if_neg (by grind)];exact Xz7 d b0 b1 z hz m5 _ p a b b b k5.tl
theorem Xvh (d:Nat) (b0 b1 b2:Nat) (z:List Value) (hz:z.length=5) (m4:Mem) (cu:Cu) (p:Bool) (a b:Nat) (k4:W c m0 φ s cap m4 φ { s with cu:=cu } [(b2,0,[.int .u32 (a:Int),.int .i64 (b:Int)]),(b1,0,enL p 0 0 0 0),(b0,0,z)]) :
  Res c m0 φ s (Q3s ⟨TA (d + 6),18446744073709551616⟩ (pt b2 0 0) (pt b1 0 0) (pt c.C 0 0) (pt b0 0 0) m4) (Q_c cap φ s (enV p a b (geR c cu b).1.1 (leR c (geR c cu b).2 (geR c cu b).1.1 (geR c cu b).1.2).1) (leR c (geR c cu b).2 (geR c cu b).1.1 (geR c cu b).1.2).2):=by
 delta Q3s L qj O qi qc P T qk;have lb:∀ m' cs',W c m0 φ s cap m' φ { s with cu:=cu } ((b2,0,[.int .u32 (a:Int),.int .i64 (b:Int)]) :: cs')->X8 false 1 (pt b2 1 0) m'=some (.int .i64 (b:Int)):=fun m' cs' w=>w.ld (List.mem_cons_self ..) rfl;have lp:X8 true 2 (pt b2 0 0) m4=some (pfx (a:Int) (b:Int)):=k4.lds (o:=0) (List.mem_cons_self ..) (by simp) rfl;simp only [lp,X3,X9,Nat.zero_add,lb m4 _ k4];refine k4.sto (l1:=[_]) (o:=1) (y:=pfx (a:Int) (b:Int)) (cs':=enL p a b 0 0) rfl rfl (by show 1 + 2 <= 5; omega) rfl fun m5 k5=>?_;simp only [lb m5 _ k5,X1a,Bool.and_true,Xr];refine k5.sto (l1:=[_]) (o:=3) (y:=.int .i64 (b:Int)) (cs':=enL p a b b 0) rfl rfl (by show 3 + 1 <= 5; omega) rfl fun m6 k6=>?_;simp only [lb m6 _ k6,X1a,Bool.and_true,Xr];refine k6.sto (l1:=[_]) (o:=4) (y:=.int .i64 (b:Int)) (cs':=enL p a b b b) rfl rfl (by show 4 + 1 <= 5; omega) rfl fun m7 k7=>?_;exact X10h d b0 b1 b2 z hz m7 cu p a b k7
theorem Xrp (h:PS c cap m φ s) (d:Nat):CuC c cap m φ s (TA (d + 7) Qaa [pt c.C 0 0] m)
  (enV (X42 c s.cu).1.1 (X42 c s.cu).1.2.1 (X42 c s.cu).1.2.2.1 (X42 c s.cu).1.2.2.2.1 (X42 c s.cu).1.2.2.2.2) (X42 c s.cu).2:=by
 refine h.cuR (X7r _ _ _) fun m0 k=>?_;delta Q4y S;refine k.new fun b0 m1 k1=>?_;delta Qcl F C B T S qt qg A E;refine k1.bsl (cs:=[[112,101,114,109,105,116],[100,101,110,121]].map sv) rfl (by decide) fun bs m3 k3=>?_;have k3:W c m0 φ s cap m3 φ { s with cu:=s.cu } [(bs,0,[[112,101,114,109,105,116],[100,101,110,121]].map sv),(b0,0,Q34)]:=k3;refine k3.call (X6d k3.ps (k3.slx (List.mem_cons_self ..)) (by simp) (d + 3)) fun m4 k4=>?_;generalize hO:oneC c s.cu [[112,101,114,109,105,116],[100,101,110,121]]=O at k4;have eb:∀ p:Bool,Xg Q34 [(0,1),(1,2),(3,1),(4,1)] [(0,.bool p)]=some (enV p 0 0 0 0):=fun p=>Eq.trans rfl rfl;have eq0:bin .eql true true .int (I O.1) (.int .i64 0)=some (.bool (decide (O.1=0))):=by
  simp [Q79,decide_eq_decide]
 simp only [eq0,X3,eb];refine k4.new fun b1 m5 k5=>?_;refine k5.sto (l1:=[]) (o:=0) (y:=enV (decide (O.1=0)) 0 0 0 0) (cs':=enL (decide (O.1=0)) 0 0 0 0) rfl rfl (by show 0 + 5 <= 5; omega) rfl fun m6 k6=>?_;have k6:W c m0 φ s cap m6 φ { s with cu:=O.2 } [(b1,0,enL (decide (O.1=0)) 0 0 0 0),(b0,0,Q34)]:=W.sub k6 (by
  simp)
 delta Qck C T S U;have hl:=X2w k6.ps;refine k6.call (X2x k6.ps (d + 4)) fun m7 k7=>?_;dsimp only at k7 hl ⊢;simp only [c_addrPrefix _ (Nat.le_trans hl (by decide)) (d + 1) m7,X4,Xvw,ex0,ex1,X3];refine k7.new fun b2 m8 k8=>?_;generalize hq:Xjh (Xf c O.2).1=q;refine k8.sto (l1:=[]) (o:=0) (y:=pfx (q.1:Int) (q.2.1:Int)) (cs':=[.int .u32 (q.1:Int),.int .i64 (q.2.1:Int)]) rfl rfl (by show 0 + 2 <= 2; omega) rfl fun m9 k9=>?_;have k9:W c m0 φ s cap m9 φ { s with cu:=(Xf c O.2).2 } [(b2,0,[.int .u32 (q.1:Int),.int .i64 (q.2.1:Int)]),(b1,0,enL (decide (O.1=0)) 0 0 0 0),(b0,0,Q34)]:=k9;delta Qcj C D qg A;dsimp only [X42];rw [hO];have e0:∀ e:Nat,bin .eql true true .int (I q.2.2) (.int .i64 (e:Int))=some (.bool (decide (q.2.2=e))):=fun e=>by
  rw [Q79];congr 2;simp only [decide_eq_decide];omega
 have e1:bin .eql true true .int (I q.2.2) (.int .i64 0)=some (.bool (decide (q.2.2=0))):=e0 0;have e2:bin .eql true true .int (I q.2.2) (.int .i64 10)=some (.bool (decide (q.2.2=10))):=e0 10;simp only [e1,e2,X3];unfold pfR;rw [hq];refine Xk (fun hb=>?_) (fun hb=>?_)
 ·rw [if_pos (of_decide_eq_true hb)];exact Xvh d b0 b1 b2 Q34 rfl m9 _ _ q.1 q.2.1 k9
 ·rw [if_neg (of_decide_eq_false hb)];refine Xk (fun hb=>?_) (fun hb=>?_)
  ·rw [if_pos (of_decide_eq_true hb)];exact k9.call (X3t k9.ps 10 (by decide) (d + 4)) fun m10 k10=>Xvh d b0 b1 b2 Q34 rfl m10 _ _ q.1 q.2.1 k10
  ·rw [if_neg (of_decide_eq_false hb)];exact k9.call (X3t k9.ps 130 (by decide) (d + 4)) fun m10 k10=>Xvh d b0 b1 b2 Q34 rfl m10 _ _ q.1 q.2.1 k10
def bOf (X:NX) (k:Key) (o:Nat):Bool:=match vOf X k o with | .bool b=>b | _=>false
def strOf:Value->Str | .string b=>b.data.toList | _=>[]
def setOf (X:NX):List Str:=match X [2] with | some (.m es _)=>es.map fun e=>strOf e.1 | _=>[]
def X1s (s:PSt) (ws:List Str):PSt:={ s with X:=(stF s.X [0] 15 [.bool (bOf s.X [0] 15 || decide (X2q [32] ws ∈ setOf s.X))]).set [2] (some (setO (insS (setOf s.X) (X2q [32] ws)))) }
def Xz (s:PSt) (ws:List Str):PSt:=X1s s ([[105,110],s.inn,[46]] ++ ws)
def X8z (s:PSt) (b:Nat) (ws:List Str):PSt:={ X1s s ws with blk:=b,inn:=X2q [32] ws }
def PSt.at (s:PSt) (cu:Cu):PSt:={ s with cu:=cu }
def badS (c:Cx) (s:PSt) (e:Int):PSt:=s.at (badC c s.cu e)
abbrev u32 (n:Nat):Value:=.int .u32 (n:Int)
def Xay (p:Nat->Bool) (sz f:Nat):Nat->Nat->Option Nat
 | 0,_=>none
 | n + 1,i=>if p (i * sz + f)=true then some i else Xay p sz f n (i + 1)
def X6y (X:NX) (k:Key) (o sz f:Nat) (v:Str):Option Nat:=Xay (fun j=>decide (sOf X (o :: k) j=v)) sz f (nOf X k o) 0
def Xfz (X:NX) (k:Key) (o sz f:Nat) (v:Int):Option Nat:=Xay (fun j=>decide (iOf X (o :: k) j=v)) sz f (nOf X k o) 0
def rowOf (s:PSt) (o sz:Nat) (n:Str) (cs:List Cl):Nat × PSt:=match X6y s.X [0] o sz 0 n with | some i=>(i,s) | none=>(nOf s.X [0] o,{ s with X:=apF s.X [0] o cs })
abbrev X6t:Nat:=Q7c
abbrev Xcw:Nat:=Q8f
abbrev bAsk:Nat:=Q6i
abbrev Xda:Nat:=Q8g
abbrev bBgp:Nat:=Q94
def X3a (s:Str):Option Nat:=match parseUintB 16 (cutO 58 s).1,parseUintB 16 (cutO 58 s).2.1 with
 | .ok a,.ok b=>if decDigits a ++ [58] ++ decDigits b=s then some (a * 65536 + b) else none
 | _,_=>none
def PSt.app (s:PSt) (k:Key) (o:Nat) (cs:List Cl):PSt:={ s with X:=apF s.X k o cs }
def PSt.sto (s:PSt) (k:Key) (o:Nat) (xs:List Value):PSt:={ s with X:=stF s.X k o xs }
def PSt.adp (s:PSt) (k:Key) (o:Nat) (vs:List Value):PSt:={ s with X:=adF s.X k o vs }
def PSt.adopt (s:PSt) (k:Key) (o:Nat) (cs:List Cl) (vs:List Value):PSt:=(s.app k o (cs ++ [.s 0 1])).adp (o :: k) (nOf s.X k o * (cs.length + 1) + cs.length) vs
def X64 (s:PSt) (name:Str) (act:Nat) (seq:Int):PSt:=
 let r:=rowOf s 9 3 name [.v (sv name),.s 0 15,.v (.bool false)];let s1:=r.2.sto [0] 17 [I r.1];let s2:=s1.app [9,0] (r.1 * 3 + 1) [.v (.int .i64 seq),.v (.int .u8 (act:Int)),.v (sv []),.v (sv []),.v (.int .i64 (-1)),.v (.int .i64 (-1)),.v (.int .i64 (-1)),.v (.int .i64 (-1)),.v (.int .i64 (-1)),.v (.int .i64 (-1)),.s 0 1,.v (.bool false),.s 0 1,.v (u32 0),.v (.int .i64 0)]
 X8z s2 bAsk [[114,111,117,116,101,45,109,97,112],name,X24 seq.toNat]
def X4b (c:Cx) (s:PSt):PSt:=
 let o:=oneC c s.cu [[111,115,112,102],[98,103,112]]
 if o.1=0 then
  let v:=vrfC c o.2
  (X8z (s.at v.2) Xda [[114,111,117,116,101,114],[111,115,112,102],v.1]).app [0] 10 [.v (sv v.1),.v (u32 0),.s 0 4]
 else
  let n:=Xb c o.2 1 4294967295;let v:=vrfC c n.2
  (X8z (s.at v.2) bBgp [[114,111,117,116,101,114],[98,103,112],v.1]).app [0] 11 [.v (sv v.1),.v (.int .u32 n.1),.v (u32 0),.s 0 2,.s 0 6,.s 0 4]
def X77 (c:Cx) (s:PSt):PSt:=
 let v:=vrfC c s.cu;let a:=X1e c v.2;let k:=X35 c a.2 false;let d:=isC c (netC c k.2 a.1 k.1) [100,105,115,99,97,114,100];let h:Nat × Cu:=if d.1=true then (0,d.2) else hopC c d.2;let x:=isC c h.2 [100,105,115,116,97,110,99,101];let n:=Xb c x.2 1 255;let e:Int × Cu:=if x.1=true then n else (1,x.2)
 let y:=isC c e.2 [116,97,103];let g:=Xb c y.2 0 16777216;let t:Int × Cu:=if y.1=true then g else (0,y.2)
 (s.at t.2).app [0] 6 [.v (sv v.1),.v (u32 a.1),.v (I k.1),.v (u32 h.1),.v (.bool d.1),.v (.int .i64 e.1),.v (.int .i64 t.1)]
def X1y (c:Cx):Nat->Cu->List Nat × Cu
 | 0,cu=>([],cu)
 | f + 1,cu =>
  let w:=Xf c cu;let n:=X3a w.1;let cu1:=if n.isSome=true then w.2 else badC c w.2 130;let r:=X1y c f cu1
  if X27 c cu1=true then (n.getD 0 :: r.1,r.2) else ([n.getD 0],cu1)
def ipC (c:Cx) (s0:PSt):PSt:=
 let w:=Xf c s0.cu;let s:=s0.at w.2
 if w.1=[114,111,117,116,101] then X77 c s
 else if w.1=[102,105,108,116,101,114] then
  let n:=X17 c s.cu
  (X8z (s.at n.2) Xcw [[102,105,108,116,101,114],n.1]).app [0] 4 [.v (sv n.1),.s 0 10]
 else if w.1=[112,114,101,102,105,120,45,108,105,115,116] then
  let n:=X17 c s.cu;let e:=X42 c n.2;let r:=rowOf (s.at e.2) 7 2 n.1 [.v (sv n.1),.s 0 5]
  r.2.app [7,0] (r.1 * 2 + 1) [.v (.bool e.1.1),.v (u32 e.1.2.1),.v (I e.1.2.2.1),.v (.int .i64 e.1.2.2.2.1),.v (.int .i64 e.1.2.2.2.2)]
 else if w.1=[99,111,109,109,117,110,105,116,121,45,108,105,115,116] then
  let n:=X17 c s.cu;let o:=oneC c n.2 [[112,101,114,109,105,116],[100,101,110,121]];let l:=X1y c (c.ws.length + 1) o.2;let r:=rowOf (s.at l.2) 8 2 n.1 [.v (sv n.1),.s 0 2]
  r.2.adopt [8,0] (r.1 * 2 + 1) [.v (.bool (decide (o.1=0)))] (l.1.map u32)
 else if w.1=[110,97,116] then
  let o:=oneC c s.cu [[115,111,117,114,99,101],[100,101,115,116,105,110,97,116,105,111,110]];let x:=Xbm c o.2 [102,105,108,116,101,114];let n:=X17 c x;let y:=Xbm c n.2 [116,111];let a:=X1e c y
  (s.at a.2).app [0] 5 [.v (.bool (decide (o.1=1))),.v (sv n.1),.v (u32 a.1)]
 else badS c s 130
def topC (c:Cx) (s0:PSt):PSt:=
 let w:=Xf c s0.cu;let s:=s0.at w.2
 if w.1=[104,111,115,116,110,97,109,101] then
  let n:=X17 c s.cu
  X1s ((s.at n.2).sto [0] 0 [sv n.1]) [[104,111,115,116,110,97,109,101]]
 else if w.1=[118,114,102] then
  let n:=X17 c s.cu
  (X1s (s.at n.2) [[118,114,102],n.1]).app [0] 2 [.v (sv n.1)]
 else if w.1=[105,110,116,101,114,102,97,99,101] then
  let n:=X17 c s.cu
  (X8z (s.at n.2) X6t [[105,110,116,101,114,102,97,99,101],n.1]).app [0] 3 [.v (sv n.1),.v (sv []),.v (u32 0),.v (I 0),.v (.bool false),.v (sv []),.v (sv []),.v (.int .u8 0),.v (.int .i64 (-1)),.v (I 10),.v (.bool false)]
 else if w.1=[105,112] then ipC c s
 else if w.1=[114,111,117,116,101,45,109,97,112] then
  let n:=X17 c s.cu;let o:=oneC c n.2 [[112,101,114,109,105,116],[100,101,110,121],[110,101,120,116]];let q:=Xb c o.2 1 65535
  X64 (s.at q.2) n.1 (if o.1=0 then 1 else if o.1=1 then 0 else 2) q.1
 else if w.1=[114,111,117,116,101,114] then X4b c s
 else badS c s 130
def X6m (c:Cx) (s0:PSt):PSt:=
 let w:=Xf c s0.cu;let s:=s0.at w.2;let b:=(nOf s.X [0] 3 - 1) * 11;let k:Key:=[3,0]
 if w.1=[118,114,102] then
  let n:=X17 c s.cu
  Xz ((s.at n.2).sto k (b + 1) [sv n.1]) [w.1]
 else if w.1=[97,100,100,114,101,115,115] then
  let a:=X1e c s.cu;let m:=X35 c a.2 false;let s1:=(((s.at a.2).sto k (b + 2) [u32 a.1]).at m.2).sto k (b + 3) [I m.1]
  Xz (if m.1=0 then badS c s1 10 else s1) [w.1]
 else if w.1=[102,105,108,116,101,114] then
  let n:=X17 c s.cu;let o:=oneC c n.2 [[105,110],[111,117,116]]
  if o.1=0 then Xz ((s.at o.2).sto k (b + 5) [sv n.1]) [w.1,[105,110]] else Xz ((s.at o.2).sto k (b + 6) [sv n.1]) [w.1,[111,117,116]]
 else if w.1=[110,97,116] then
  let o:=oneC c s.cu [[105,110,115,105,100,101],[111,117,116,115,105,100,101]]
  Xz ((s.at o.2).sto k (b + 7) [.int .u8 (o.1 + 1:Nat)]) [w.1]
 else if w.1=[111,115,112,102] then
  let o:=oneC c s.cu [[97,114,101,97],[99,111,115,116],[112,97,115,115,105,118,101]];let n:=Xb c o.2 0 16777216;let q:=Xb c o.2 1 65535;let s1:=if o.1=0 then (s.at n.2).sto k (b + 8) [.int .i64 n.1] else if o.1=1 then (s.at q.2).sto k (b + 9) [.int .i64 q.1] else (s.at o.2).sto k (b + 10) [.bool true]
  Xz s1 [w.1,(wdC c (1 % c.ws.length)).1]
 else if w.1=[115,104,117,116,100,111,119,110] then Xz (s.sto k (b + 4) [.bool true]) [w.1]
 else badS c s 130
def Xcf (c:Cx) (s0:PSt):PSt:=
 let o:=oneC c s0.cu [[112,101,114,109,105,116],[100,101,110,121]];let x1:=isC c o.2 [97,110,121];let x2:=isC c x1.2 [116,99,112];let x3:=isC c x2.2 [117,100,112];let x4:=isC c x3.2 [105,99,109,112];let n:=Xb c x4.2 0 255;let p:Int × Cu:=if x1.1=true then (-1,x1.2) else if x2.1=true then (6,x2.2) else if x3.1=true then (17,x3.2) else if x4.1=true then (1,x4.2) else n;let a:=X7w c p.2;let b:=X2g c a.2 p.1;let d:=X7w c b.2;let e:=X2g c d.2 p.1
 (s0.at e.2).app [4,0] ((nOf s0.X [0] 4 - 1) * 2 + 1) [.v (.bool (decide (o.1=0))),.v (.int .i64 p.1),.v (u32 a.1.1),.v (I a.1.2),.v (u32 d.1.1),.v (I d.1.2),.v (.int .u32 b.1.1),.v (.int .u32 b.1.2),.v (.int .u32 e.1.1),.v (.int .u32 e.1.2)]
def X28 (c:Cx) (k:Key) (o:Nat):Nat->PSt->PSt
 | 0,s=>s
 | f + 1,s =>
  let n:=Xb c s.cu 1 4294967295;let s1:=(s.at n.2).app k o [.v (.int .u32 n.1)]
  if X27 c s1.cu=true then X28 c k o f s1 else s1
def askK (X:NX):Key:=[(iOf X [0] 17).toNat * 3 + 1,9,0]
def askB (X:NX):Nat:=(nOf X [9,0] ((iOf X [0] 17).toNat * 3 + 1) - 1) * 15
def setC (c:Cx) (s0:PSt) (k:Key) (b:Nat):Str × PSt:=
 let w:=Xf c s0.cu;let s:=s0.at w.2;let n:=Xb c s.cu 0 16777216
 (w.1,if w.1=[109,101,116,114,105,99] then (s.at n.2).sto k (b + 7) [.int .i64 n.1]
 else if w.1=[112,114,101,102,101,114,101,110,99,101] then (s.at n.2).sto k (b + 8) [.int .i64 n.1]
 else if w.1=[116,97,103] then (s.at n.2).sto k (b + 9) [.int .i64 n.1]
 else if w.1=[99,111,109,109,117,110,105,116,121] then
  let x:=isC c s.cu [97,100,100];let l:=X1y c (c.ws.length + 1) x.2
  (((s.at x.2).sto k (b + 11) [.bool x.1]).at l.2).adp k (b + 10) (l.1.map u32)
 else if w.1=[112,114,101,112,101,110,100] then X28 c k (b + 12) (c.ws.length + 1) s
 else if w.1=[110,101,120,116,45,104,111,112] then
  let a:=hopC c s.cu
  (s.at a.2).sto k (b + 13) [u32 a.1]
 else badS c s 130)
def askC (c:Cx) (s0:PSt):PSt:=
 let k:=askK s0.X;let b:=askB s0.X;let w:=Xf c s0.cu;let s:=s0.at w.2
 if w.1=[109,97,116,99,104] then
  let q:=Xf c s.cu;let t:=s.at q.2;let n:=X17 c t.cu;let g:=Xb c t.cu 0 16777216;let h:=Xb c t.cu 1 4294967295;let r:=if q.1=[112,114,101,102,105,120,45,108,105,115,116] then (t.at n.2).sto k (b + 2) [sv n.1] else if q.1=[99,111,109,109,117,110,105,116,121,45,108,105,115,116] then (t.at n.2).sto k (b + 3) [sv n.1] else if q.1=[116,97,103] then (t.at g.2).sto k (b + 4) [.int .i64 g.1] else if q.1=[109,101,116,114,105,99] then (t.at g.2).sto k (b + 5) [.int .i64 g.1] else if q.1=[97,115] then (t.at h.2).sto k (b + 6) [.int .i64 h.1] else badS c t 130
  Xz r [w.1,q.1]
 else if w.1=[115,101,116] then
  let r:=setC c s k b
  Xz r.2 [w.1,r.1]
 else if w.1=[99,111,110,116,105,110,117,101] then
  let n:=Xb c s.cu (IntKind.i64.wrap (iOf s.X k b + 1)) 65535
  Xz ((s.at n.2).sto k (b + 14) [.int .i64 n.1]) [w.1]
 else badS c s 130
def rdC (x:Nat × Int × Int × Str):List Cl:=[.v (.int .u8 (x.1:Int)),.v (.int .i64 x.2.1),.v (.int .u8 x.2.2.1),.v (sv x.2.2.2)]
def Xdh (c:Cx) (s0:PSt):PSt:=
 let w:=Xf c s0.cu;let s:=s0.at w.2;let b:=(nOf s.X [0] 10 - 1) * 3
 if w.1=[114,111,117,116,101,114,45,105,100] then
  let a:=X1e c s.cu
  Xz ((s.at a.2).sto [10,0] (b + 1) [u32 a.1]) [w.1]
 else if w.1=[114,101,100,105,115,116,114,105,98,117,116,101] then
  let r:=X2e c s.cu [98,103,112] 8 true
  (s.at r.2).app [10,0] (b + 2) (rdC r.1)
 else badS c s 130
def X2s (c:Cx) (s0:PSt):PSt:=
 let b:=(nOf s0.X [0] 11 - 1) * 6;let a:=X1e c s0.cu;let i:=Xfz s0.X [11,0] (b + 4) 6 0 (a.1:Int);let o:=oneC c a.2 [[97,115],[114,111,117,116,101,45,109,97,112],[99,108,105,101,110,116],[110,101,120,116,45,104,111,112,45,115,101,108,102]];let k:Key:=[b + 4,11,0]
 let y:List Value:=match i with | some j=>(List.range 6).map fun q=>vOf s0.X k (j * 6 + q) | none=>[u32 0,u32 0,sv [],sv [],.bool false,.bool false]
 let ws:List Str:=[[110,101,105,103,104,98,111,114],X24 a.1]
 let n:=Xb c o.2 1 4294967295;let g:=X17 c o.2;let p:=oneC c g.2 [[105,110],[111,117,116]];let r:(List Value × List Str) × Cu:=
  if o.1=0 then (([u32 a.1,.int .u32 n.1,sv [],sv [],.bool false,.bool false],ws ++ [[97,115]]),n.2)
  else if o.1=1 then (if p.1=0 then ((y.set 2 (sv g.1),ws ++ [[114,111,117,116,101,45,109,97,112],[105,110]]),p.2) else ((y.set 3 (sv g.1),ws ++ [[114,111,117,116,101,45,109,97,112],[111,117,116]]),p.2))
  else if o.1=2 then ((y.set 4 (.bool true),ws ++ [[99,108,105,101,110,116]]),o.2) else ((y.set 5 (.bool true),ws ++ [[110,101,120,116,45,104,111,112,45,115,101,108,102]]),o.2)
 let s:=s0.at r.2
 match i with
 | none=>if o.1=0 then Xz (s.app [11,0] (b + 4) (r.1.1.map .v)) r.1.2 else s.sto [0] 16 [.bool true]
 | some j=>Xz (if o.1=0 then s else s.sto k (j * 6) r.1.1) r.1.2
def bgpC (c:Cx) (s0:PSt):PSt:=
 let w:=Xf c s0.cu;let s:=s0.at w.2;let b:=(nOf s.X [0] 11 - 1) * 6
 if w.1=[114,111,117,116,101,114,45,105,100] then
  let a:=X1e c s.cu
  Xz ((s.at a.2).sto [11,0] (b + 2) [u32 a.1]) [w.1]
 else if w.1=[110,101,116,119,111,114,107] then
  let a:=X1e c s.cu;let m:=X35 c a.2 false;let s1:=Xz (s.at (netC c m.2 a.1 m.1)) [w.1,Xdo a.1 (m.1:Int)]
  s1.app [11,0] (b + 3) [.v (u32 a.1),.v (I m.1)]
 else if w.1=[110,101,105,103,104,98,111,114] then X2s c s
 else if w.1=[114,101,100,105,115,116,114,105,98,117,116,101] then
  let r:=X2e c s.cu [111,115,112,102] 4 false
  (s.at r.2).app [11,0] (b + 5) (rdC r.1)
 else badS c s 130
end Go.Ab.Sh
end
