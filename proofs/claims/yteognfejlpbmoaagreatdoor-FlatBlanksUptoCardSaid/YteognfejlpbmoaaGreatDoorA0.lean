/-
  What the functions of the program answer, at every text and every question. No conditions.
-/
import Derived.Test.YteognfejlpbmoaaGreatDoorAb5
import Derived.Sort.Defs
import Derived.Lib.BitFns
import Derived.Test.YteognfejlpbmoaaGreatDoorT
import Derived.Test.YteognfejlpbmoaaGreatDoorKT
import Derived.Lib.ItoaNum
import Derived.Lib.AtoiAll
import Derived.Lib.ParseIntB
import Derived.Lib.Index
import Derived.Lib.Bytealg
import Derived.Lib.Join
set_option linter.unusedSimpArgs false
set_option linter.unusedVariables false
set_option maxRecDepth 100000
noncomputable section
namespace Go.Ab
open Go
variable {b2 bytes cap e fro2 n o size:Nat} {c:List Value} {m:Mem} {ro2:Bool} {ty ty2:Option Nat} {x:Value}
inductive Cl where
 | v (x:Value)
 | s (n sz:Nat)
abbrev Key:=List Nat
structure Lc where
 b:Nat
 ver:Nat
 r:Nat
abbrev Phi:=Key->Lc
def slV (l:Lc) (n sz:Nat):Value:=if n=0 then .slice none 0 0 else .slice (some ⟨l.b,0,some sz⟩) n (2 * l.ver + l.r)
def cv (φ:Phi) (k:Key) (o:Nat):Cl->Value
 | .v x=>x
 | .s n sz=>slV (φ (o :: k)) n sz
inductive NO where
 | c (l:List Cl)
 | m (es:List (Value × Value × Nat)) (clock:Nat)
abbrev NX:=Key->Option NO
def NX.set (X:NX) (k:Key) (o:Option NO):NX:=fun k'=>if k'=k then o else X k'
def Phi.set (φ:Phi) (k:Key) (l:Lc):Phi:=fun k'=>if k'=k then l else φ k'
theorem NX.set_eq (X:NX) (k:Key) (o:Option NO):X.set k o k=o:=if_pos rfl
theorem NX.set_ne (X:NX) {k k':Key} (o:Option NO) (h:k' ≠ k):X.set k o k'=X k':=if_neg h
theorem Phi.set_eq (φ:Phi) (k:Key) (l:Lc):φ.set k l k=l:=if_pos rfl
theorem Phi.set_ne (φ:Phi) {k k':Key} (l:Lc) (h:k' ≠ k):φ.set k l k'=φ k':=if_neg h
def cells (φ:Phi) (k:Key) (l:List Cl):List Value:=l.mapIdx (cv φ k)
theorem X10 (φ:Phi) (k:Key) (l:List Cl):(cells φ k l).length=l.length:=by unfold cells; simp
theorem Xm (φ:Phi) (k:Key) (l:List Cl) (o:Nat):(cells φ k l)[o]?=l[o]?.map (cv φ k o):=by unfold cells; simp
theorem X87 {φ φ':Phi} {k:Key} {l:List Cl} (h:∀ o n sz,l[o]?=some (.s n sz)->n ≠ 0->φ' (o :: k)=φ (o :: k)):cells φ' k l=cells φ k l:=by
 apply List.ext_getElem?;intro o;rw [Xm,Xm];cases hl:l[o]? with
 | none=>rfl
 | some c =>
  cases c with
  | v x=>rfl
  | s n sz =>
   show some (slV (φ' (o :: k)) n sz)=some (slV (φ (o :: k)) n sz);by_cases hn:n=0
   ·subst hn; rfl
   ·grind
def Cl.ok:Cl->Bool
 | .v x=>one x
 | .s _ _=>true
theorem X76 (l:Lc) (n sz:Nat):one (slV l n sz)=true:=by unfold slV; split <;> rfl
theorem cells_ok {φ:Phi} {k:Key} {l:List Cl} (h:l.all Cl.ok=true):(cells φ k l).all one=true:=by
 rw [List.all_eq_true] at h ⊢;intro x hx;obtain ⟨o,ho⟩:=List.mem_iff_getElem?.mp hx;rw [Xm] at ho;cases hl:l[o]? with
 | none=>rw [hl] at ho; cases ho
 | some c =>
  rw [hl] at ho;have hc:=h c (List.mem_of_getElem? hl);cases c with
  | v y=>cases ho; exact hc
  | s n sz=>cases ho; exact X76 _ _ _
def AtO (m:Mem) (φ:Phi) (k:Key):NO->Prop
 | .c l=>∃ ty,m.get (φ k).b=some (.cells (cells φ k l) (φ k).ver 0 false ty)
 | .m es clock=>m.get (φ k).b=some (.map es clock)
structure NR (cap:Nat) (m:Mem) (φ:Phi) (X:NX):Prop where
 inj:∀ k k',X k ≠ none->X k' ≠ none->(φ k).b=(φ k').b->k=k'
 hi:∀ k,X k ≠ none->(φ k).b < m.next
 r2:∀ k,X k ≠ none->(φ k).r < 2
 at':∀ k o,X k=some o->AtO m φ k o
 ok:∀ k l,X k=some (.c l)->l.all Cl.ok=true
 ow:∀ k l o n sz,X k=some (.c l)->l[o]?=some (.s n sz)->n <= cap/\0 < sz/\(if n=0 then X (o :: k)=none else ∃ l',X (o :: k)=some (.c l')/\l'.length=n * sz)
 par:∀ i j k,X (i :: j :: k) ≠ none->∃ l n sz,X (j :: k)=some (.c l)/\l[i]?=some (.s n sz)/\n ≠ 0
structure Wk (m:Mem) (φ:Phi) (X:NX) (m':Mem) (φ':Phi) (X':NX):Prop where
 next:m.next <= m'.next
 low:m'.low <= m.low
 low2:∀ x,x <= m.low->x <= m.next->(∀ k,X k ≠ none->x <= (φ k).b)->x <= m'.low
 get:∀ b,b < m.next->(∀ k,X k ≠ none->(φ k).b ≠ b)->m'.get b=m.get b
 lo:∀ b,b < m.next->m'.low <= b\/m'.get b=m.get b
 nw:∀ k,X' k ≠ none->m.next <= (φ' k).b\/∃ k0,X k0 ≠ none/\(φ k0).b=(φ' k).b
 kp:(∃ k,X k ≠ none/\m'.low <= (φ k).b)\/((∀ k,X' k ≠ none->φ' k=φ k)/\∀ k,X' k ≠ none->X k ≠ none)
theorem Wk.refl (m:Mem) (φ:Phi) (X:NX):Wk m φ X m φ X:=
 ⟨Nat.le_refl _,Nat.le_refl _,fun _ h _ _=>h,fun _ _ _=>rfl,fun _ _=>.inr rfl,fun k h=>.inr ⟨k,h,rfl⟩,.inr ⟨fun _ _=>rfl,fun _ h=>h⟩⟩
theorem Wk.trans {m1 m2:Mem} {φ φ1 φ2:Phi} {X X1 X2:NX} (h:Wk m φ X m1 φ1 X1) (k:Wk m1 φ1 X1 m2 φ2 X2):Wk m φ X m2 φ2 X2 where
 next:=Nat.le_trans h.next k.next
 low:=Nat.le_trans k.low h.low
 low2:=fun x h1 h2 h3=>k.low2 x (h.low2 x h1 h2 h3) (Nat.le_trans h2 h.next) fun q hq=>by
  rcases h.nw q hq with e | ⟨k0,e1,e2⟩
  ·omega
  ·grind
 get:=fun b h1 h2=>by
  rw [k.get b (Nat.lt_of_lt_of_le h1 h.next) ?_,h.get b h1 h2];intro q hq;rcases h.nw q hq with e | ⟨k0,e1,e2⟩
  ·omega
  ·grind
 lo:=fun b h1=>by
  rcases k.lo b (Nat.lt_of_lt_of_le h1 h.next) with q | q
  ·exact .inl q
  ·rcases h.lo b h1 with q2 | q2
   ·exact .inl (Nat.le_trans k.low q2)
   ·grind
 nw:=fun q hq=>by
  rcases k.nw q hq with e | ⟨k0,e1,e2⟩
  ·exact .inl (Nat.le_trans h.next e)
  ·rw [<- e2]; exact h.nw k0 e1
 kp:=by
  rcases h.kp with ⟨q,e1,e2⟩ | ⟨e1,e2⟩
  ·exact .inl ⟨q,e1,Nat.le_trans k.low e2⟩
  ·rcases k.kp with ⟨q,f1,f2⟩ | ⟨f1,f2⟩
   ·exact .inl ⟨q,e2 q f1,by grind⟩
   ·exact .inr ⟨fun q hq=>by rw [f1 q hq,e1 q (f2 q hq)],fun q hq=>e2 q (f2 q hq)⟩
theorem NR.same {m':Mem} {φ:Phi} {X:NX} (h:NR cap m φ X) (hn:m.next <= m'.next) (hg:∀ k,X k ≠ none->m'.get (φ k).b=m.get (φ k).b):NR cap m' φ X:=
 { h with
  hi:=fun k hk=>Nat.lt_of_lt_of_le (h.hi k hk) hn
  at':=fun k o hk=>by
   have e:=hg k (by rw [hk]; simp);have:=h.at' k o hk;cases o with
   | c l=>obtain ⟨ty,q⟩:=this; exact ⟨ty,by rw [e]; exact q⟩
   | m es clock=>show m'.get _=_; rw [e]; exact this }
theorem NR.push {cap:Nat} {m:Mem} {φ:Phi} {X:NX} (h:NR cap m φ X) (o:AObj):NR cap (m.push o) φ X/\Wk m φ X (m.push o) φ X:=by
 have hg:∀ b,b < m.next->(m.push o).get b=m.get b:=fun b hb=>by rw [Mem.get_push,if_neg (by omega)]
 exact ⟨h.same (Nat.le_succ _) fun k hk=>hg _ (h.hi k hk),Nat.le_succ _,Nat.le_refl _,fun _ h _ _=>h,fun b hb _=>hg b hb,fun b hb=>.inr (hg b hb),fun k hk=>.inr ⟨k,hk,rfl⟩,.inr ⟨fun _ _=>rfl,fun _ h=>h⟩⟩
theorem NR.load {φ:Phi} {X:NX} (h:NR cap m φ X) {k:Key} {l:List Cl} {c:Cl} (hk:X k=some (.c l)) (ho:l[o]?=some c):X8 false 1 (pt (φ k).b o (φ k).ver) m=some (cv φ k o c):=by
 obtain ⟨ty,q⟩:=h.at' k _ hk;exact X12 q (by rw [Xm,ho]; rfl)
theorem get3 {α:Type} (A B C:List α) (i:Nat):(A ++ B ++ C)[i]?=if i < A.length then A[i]? else if i < A.length + B.length then B[i - A.length]? else C[i - A.length - B.length]?:=by
 by_cases h1:i < A.length
 ·rw [if_pos h1,List.append_assoc,List.getElem?_append_left h1]
 ·rw [if_neg h1];by_cases h2:i < A.length + B.length
  ·rw [if_pos h2,List.append_assoc,List.getElem?_append_right (by omega),List.getElem?_append_left (by omega)]
  ·rw [if_neg h2,List.getElem?_append_right (by grind),List.length_append];congr 1;omega
theorem Xr3 {φ:Phi} {k:Key} {l L:List Cl} (h:o + L.length <= l.length) :
  cells φ k (l.take o ++ L ++ l.drop (o + L.length))=(cells φ k l).take o ++ L.mapIdx (fun i c=>cv φ k (o + i) c) ++ (cells φ k l).drop (o + L.length):=by
 apply List.ext_getElem?;intro i;have hto:(l.take o).length=o:=by simp; omega
 have hto2:((cells φ k l).take o).length=o:=by simp [X10]; omega
 have hL2:(L.mapIdx (fun i c=>cv φ k (o + i) c)).length=L.length:=by simp
 rw [Xm,get3,get3,hto,hto2,hL2];by_cases h1:i < o
 ·rw [if_pos h1,if_pos h1,List.getElem?_take,List.getElem?_take,if_pos h1,if_pos h1,Xm]
 ·rw [if_neg h1,if_neg h1];by_cases h2:i < o + L.length
  ·rw [if_pos h2,if_pos h2,List.getElem?_mapIdx];rw [show o + (i - o)=i by omega]
  ·rw [if_neg h2,if_neg h2,List.getElem?_drop,List.getElem?_drop,Xm];rw [show o + L.length + (i - o - L.length)=i by omega]
theorem NR.put {φ:Phi} {X:NX} (h:NR cap m φ X) {k:Key} {l:List Cl} (hk:X k=some (.c l)) (hn:x.cells.size=n) (h1:x.cells.toList.all one=true) (ho:o + n <= l.length) (hp:∀ i,o <= i->i < o + n->∃ y,l[i]?=some (.v y)) :
  ∃ m',Xd n (pt (φ k).b o (φ k).ver) x m=some m'/\NR cap m' φ (X.set k (some (.c (l.take o ++ x.cells.toList.map .v ++ l.drop (o + n))))) /\
   Wk m φ X m' φ (X.set k (some (.c (l.take o ++ x.cells.toList.map .v ++ l.drop (o + n)))))/\m'.next=m.next/\m'.low <= (φ k).b:=by
 obtain ⟨ty,q⟩:=h.at' k _ hk;have hx:x.cells.toList.length=n:=by rw [Array.length_toList]; exact hn
 have hL:(x.cells.toList.map Cl.v).length=n:=by rw [List.length_map]; exact hx
 have hcp:=Xr3 (φ:=φ) (k:=k) (l:=l) (L:=x.cells.toList.map Cl.v) (o:=o) (by omega);rw [hL] at hcp;have hm:(x.cells.toList.map Cl.v).mapIdx (fun i c=>cv φ k (o + i) c)=x.cells.toList:=by
  apply List.ext_getElem?;intro i;rw [List.getElem?_mapIdx,List.getElem?_map];cases x.cells.toList[i]? <;> rfl
 rw [hm] at hcp;obtain ⟨m',k1,k2⟩:=X1u (o:=o) (n:=n) (v:=x) q hn (Nat.zero_le _) (by rw [X10]; exact ho) h1 hcp.symm;have hgo:∀ b,b ≠ (φ k).b->m'.get b=m.get b:=fun b hb=>by rw [k2.get,Mem.get_put,if_neg (fun e=>hb e.symm)]
 have hgk:m'.get (φ k).b=some (.cells (cells φ k (l.take o ++ x.cells.toList.map Cl.v ++ l.drop (o + n))) (φ k).ver 0 false ty):=by rw [k2.get,Mem.get_put,if_pos rfl]
 have hnx:m'.next=m.next:=by rw [k2.next,Mem.next_put]
 have hlw:m'.low=min m.low (φ k).b:=by rw [k2.low,Mem.low_put]
 have hXs:∀ k',X.set k (some (.c (l.take o ++ x.cells.toList.map .v ++ l.drop (o + n)))) k' ≠ none->X k' ≠ none:=fun k' hk'=>by
  by_cases e:k'=k
  ·grind
  ·rwa [NX.set_ne _ _ e] at hk'
 have hget:∀ (i n' sz:Nat),(l.take o ++ x.cells.toList.map Cl.v ++ l.drop (o + n))[i]?=some (Cl.s n' sz)->l[i]?=some (Cl.s n' sz):=by
  intro i n' sz hi;have e1:(l.take o).length=o:=by simp; omega
  rw [get3,e1,hL] at hi;by_cases a:i < o
  ·rwa [if_pos a,List.getElem?_take,if_pos a] at hi
  ·rw [if_neg a] at hi;by_cases b:i < o + n
   ·rw [if_pos b,List.getElem?_map] at hi;cases hq:x.cells.toList[i - o]? with
    | none=>rw [hq] at hi; cases hi
    | some y=>rw [hq] at hi; cases hi
   ·rw [if_neg b,List.getElem?_drop] at hi;rwa [show o + n + (i - o - n)=i by omega] at hi
 have hgeti:∀ (i n' sz:Nat),l[i]?=some (Cl.s n' sz)->(l.take o ++ x.cells.toList.map Cl.v ++ l.drop (o + n))[i]?=some (Cl.s n' sz):=by
  intro i n' sz hi;have e1:(l.take o).length=o:=by simp; omega
  rw [get3,e1,hL];by_cases a:i < o
  ·rw [if_pos a,List.getElem?_take,if_pos a]; exact hi
  ·rw [if_neg a];by_cases b:i < o + n
   ·obtain ⟨y,hy⟩:=hp i (by omega) b;rw [hy] at hi; cases hi
   ·rw [if_neg b,List.getElem?_drop,show o + n + (i - o - n)=i by omega]; exact hi
 refine ⟨m',k1,?_,⟨by omega,by omega,?_,?_,?_,?_,.inl ⟨k,by rw [hk]; simp,by omega⟩⟩,hnx,by omega⟩
 ·exact {
   inj:=fun a b ha hb e=>h.inj a b (hXs a ha) (hXs b hb) e
   hi:=fun a ha=>by rw [hnx]; exact h.hi a (hXs a ha)
   r2:=fun a ha=>h.r2 a (hXs a ha)
   at':=fun a ob ha=>by
    by_cases e:a=k
    ·subst e;rw [NX.set_eq] at ha;cases ha;exact ⟨ty,hgk⟩
    ·rw [NX.set_ne _ _ e] at ha;have hb:(φ a).b ≠ (φ k).b:=fun e2=>e (h.inj a k (by rw [ha]; simp) (by rw [hk]; simp) e2);have:=h.at' a ob ha;cases ob with
     | c l2=>obtain ⟨ty2,q2⟩:=this; exact ⟨ty2,by rw [hgo _ hb]; exact q2⟩
     | m es cl=>show m'.get _=_; rw [hgo _ hb]; exact this
   ok:=fun a l2 ha=>by
    by_cases e:a=k
    ·subst e;rw [NX.set_eq] at ha;cases ha;have:=h.ok _ _ hk;rw [List.all_eq_true] at this h1;simp only [List.all_append,Bool.and_eq_true,List.all_eq_true];refine ⟨⟨fun c hc=>this c (List.mem_of_mem_take hc),fun c hc=>?_⟩,fun c hc=>this c (List.mem_of_mem_drop hc)⟩;obtain ⟨y,hy,rfl⟩:=List.mem_map.mp hc;exact h1 y hy
    ·rw [NX.set_ne _ _ e] at ha;exact h.ok a l2 ha
   ow:=fun a l2 i n' sz ha hi=>by
    have key:∃ l3,X a=some (.c l3)/\l3[i]?=some (Cl.s n' sz):=by
     by_cases e:a=k
     ·subst e;rw [NX.set_eq] at ha;cases ha;exact ⟨l,hk,hget i n' sz hi⟩
     ·rw [NX.set_ne _ _ e] at ha;exact ⟨l2,ha,hi⟩
    obtain ⟨l3,w1,w2⟩:=key;obtain ⟨w3,w4,w5⟩:=h.ow a l3 i n' sz w1 w2;refine ⟨w3,w4,?_⟩;by_cases hz:n'=0
    ·rw [if_pos hz] at w5 ⊢;have:(i :: a) ≠ k:=fun e=>by rw [e,hk] at w5; cases w5
     rw [NX.set_ne _ _ this]; exact w5
    ·rw [if_neg hz] at w5 ⊢;obtain ⟨l4,w6,w7⟩:=w5;by_cases e:(i :: a)=k
     ·rw [e,NX.set_eq];rw [e,hk] at w6;cases w6;exact ⟨_,rfl,by simp; omega⟩
     ·rw [NX.set_ne _ _ e]; exact ⟨l4,w6,w7⟩
   par:=fun i j a ha=>by
    obtain ⟨l3,n',sz,w1,w2,w3⟩:=h.par i j a (hXs _ ha);by_cases e:(j :: a)=k
    ·rw [e,hk] at w1;cases w1;exact ⟨_,n',sz,by rw [e,NX.set_eq],hgeti i n' sz w2,w3⟩
    ·exact ⟨l3,n',sz,by rw [NX.set_ne _ _ e]; exact w1,w2,w3⟩ }
 ·intro y y1 y2 y3;rw [hlw];have:=y3 k (by rw [hk]; simp);omega
 ·intro b hb hk';exact hgo b fun e=>hk' k (by rw [hk]; simp) e.symm
 ·intro b hb;by_cases e:b=(φ k).b
  ·exact .inl (by rw [hlw,e]; exact Nat.min_le_right _ _)
  ·exact .inr (hgo b e)
 ·exact fun k' hk'=>.inr ⟨k',hXs k' hk',rfl⟩
theorem Xqh {b len ver:Nat} {new:List Value} (h:m.get b=some (.cells c ver 0 false ty)) (h2:m.get b2=some (.cells new 0 fro2 ro2 ty2)) (hn:new.length=size) (h1:new.all one=true) (hs:1 <= size) (hl:len * size=c.length) (hb:fits (len + 1) bytes=true) :
  apS e size bytes (.slice (some ⟨b,0,some size⟩) len (2 * ver + 1)) (.slice (some ⟨b2,0,some size⟩) 1 1) m=some (.slice (some ⟨m.next,0,some size⟩) (len + 1) 0,m.push (.cells (c ++ new) 0 0 false (some (2 * e)))):=by
 refine Xlg ?_;unfold X13;have e1:(Nat.beq 1 0 || Nat.beq ((2 * ver + 1) % 2) 1)=true:=by
  simp
 simp only [X2p,e1];unfold X1o;have e3:Nat.ble 1 size=true:=Nat.ble_eq.mpr hs;have e4:(2 * ver + 1) / 2=ver:=by omega
 have e5:Nat.ble (len * size) c.length=true:=Nat.ble_eq.mpr (by omega);have e6:(2 * ver + 1) % 2=1:=by omega
 simp only [X2p,Xft h2 hn,h1,e3,Bool.and_self,Bool.not_true,Bool.false_eq_true,if_false,h,Nat.zero_add,e4,Nat.beq_refl,e5,hb,beq_self_eq_true,e6,if_true,Nat.one_ne_zero,List.drop_zero];rw [hl,List.take_length]
theorem Xfo {L:Lc} {new:List Value} (h:n ≠ 0->m.get L.b=some (.cells c L.ver 0 false ty)) (hr:n ≠ 0->L.r < 2) (hc:c.length=n * size) (h2:m.get b2=some (.cells new 0 fro2 ro2 ty2)) (hn:new.length=size) (h1:new.all one=true) (hs:1 <= size) (hb:fits (n + 1) bytes=true) :
  ∃ L' ty' m',apS e size bytes (slV L n size) (.slice (some ⟨b2,0,some size⟩) 1 1) m=some (slV L' (n + 1) size,m')/\m'.get L'.b=some (.cells (c ++ new) L'.ver 0 false ty')/\L'.r < 2/\(∀ b,b < m.next->b ≠ L'.b->m'.get b=m.get b) /\
   ((L'.b=L.b/\n ≠ 0/\m'.next=m.next/\m'.low=min m.low L.b)\/(L'.b=m.next/\m'.next=m.next + 1/\m'.low=m.low)):=by
 by_cases hz:n=0
 ·subst hz;have:c=[]:=List.eq_nil_of_length_eq_zero (by omega);subst this;refine ⟨⟨m.next,0,0⟩,some (2 * e),m.push (.cells new 0 0 false (some (2 * e))),?_,?_,by simp,?_,.inr ⟨rfl,rfl,rfl⟩⟩
  ·exact Xqv h2 hn h1 hs hb
  ·show (m.push _).get m.next=_;rw [Mem.get_push,if_pos rfl]; rfl
  ·intro b hb' hne;rw [Mem.get_push,if_neg (by omega)]
 ·have h:=h hz;have hr:=hr hz;have e0:slV L n size=.slice (some ⟨L.b,0,some size⟩) n (2 * L.ver + L.r):=if_neg hz;have:L.r=0\/L.r=1:=by omega
  rcases this with hr0 | hr1
  ·obtain ⟨m',k1,k2⟩:=Xum (e:=e) (bytes:=bytes) (len:=n) (size:=size) h h2 hn h1 hs (Nat.zero_le _) (by omega) hb;refine ⟨⟨L.b,L.ver + 1,0⟩,tyOf ty (2 * e),m',?_,?_,by simp,?_,.inl ⟨rfl,hz,by rw [k2.next,Mem.next_put],by rw [k2.low,Mem.low_put]⟩⟩
   ·rw [e0,hr0];exact k1
   ·show m'.get L.b=_;rw [k2.get,Mem.get_put,if_pos rfl,<- hc,List.take_length]
   ·intro b hb' hne;rw [k2.get,Mem.get_put,if_neg (fun e=>hne e.symm)]
  ·refine ⟨⟨m.next,0,0⟩,some (2 * e),m.push (.cells (c ++ new) 0 0 false (some (2 * e))),?_,?_,by simp,?_,.inr ⟨rfl,rfl,rfl⟩⟩
   ·rw [e0,hr1];exact Xqh h h2 hn h1 hs (by omega) hb
   ·show (m.push _).get m.next=_;rw [Mem.get_push,if_pos rfl]
   ·intro b hb' hne;rw [Mem.get_push,if_neg (by omega)]
theorem X3c (o:Nat) (k:Key):o :: k ≠ k:=fun e=>by
 simp_all
theorem Xiz (i o:Nat) (k:Key):i :: o :: k ≠ k:=fun e=>by
 have:=congrArg List.length e;simp only [List.length_cons] at this;omega
def Cl.new:Cl->Bool
 | .v x=>one x
 | .s n sz=>Nat.beq n 0 && Nat.blt 0 sz
theorem Xnw (φ:Phi) (k:Key) (o:Nat):∀ c:Cl,c.new=true->cv φ k o c=(match c with | .v x=>x | .s _ _=>.slice none 0 0)
 | .v _,_=>rfl
 | .s n sz,h=>by
  simp only [Cl.new,Bool.and_eq_true] at h;have:n=0:=Nat.eq_of_beq_eq_true h.1;subst this;rfl
def Cl.raw:Cl->Value
 | .v x=>x
 | .s _ _=>.slice none 0 0
theorem Xq0 {φ:Phi} {k:Key} {l cs:List Cl} (h:cs.all Cl.new=true):cells φ k (l ++ cs)=cells φ k l ++ cs.map Cl.raw:=by
 apply List.ext_getElem?;intro i;rw [Xm];by_cases hi:i < l.length
 ·rw [List.getElem?_append_left hi,List.getElem?_append_left (by rw [X10]; exact hi),Xm]
 ·rw [List.getElem?_append_right (by omega),List.getElem?_append_right (by rw [X10]; omega),X10,List.getElem?_map];cases hc:cs[i - l.length]? with
  | none=>rfl
  | some c =>
   have:=List.all_eq_true.mp h c (List.mem_of_getElem? hc);show some (cv φ k i c)=some c.raw;rw [Xnw _ _ _ _ this];cases c <;> rfl
def X25 (X:NX) (k:Key):List Cl:=match X k with | some (.c l)=>l | _=>[]
theorem NR.app {φ:Phi} {X:NX} (h:NR cap m φ X) {k:Key} {l cs:List Cl} {sz:Nat} (hk:X k=some (.c l)) (ho:l[o]?=some (.s n sz)) (h2:m.get b2=some (.cells (cs.map Cl.raw) 0 fro2 ro2 ty2)) (hn:cs.length=sz) (hnew:cs.all Cl.new=true) (hb:fits (n + 1) bytes=true) :
  ∃ v' m1 m2 φ',apS e sz bytes (cv φ k o (.s n sz)) (.slice (some ⟨b2,0,some sz⟩) 1 1) m=some (v',m1)/\Xd 1 (pt (φ k).b o (φ k).ver) v' m1=some m2 /\
   NR (max cap (n + 1)) m2 φ' ((X.set (o :: k) (some (.c (X25 X (o :: k) ++ cs)))).set k (some (.c (l.set o (.s (n + 1) sz))))) /\
   Wk m φ X m2 φ' ((X.set (o :: k) (some (.c (X25 X (o :: k) ++ cs)))).set k (some (.c (l.set o (.s (n + 1) sz))))) /\
   (∀ k',k' ≠ o :: k->φ' k'=φ k')/\(∀ k',X k' ≠ none->k' ≠ o :: k->φ' k'=φ k')/\m2.low <= (φ k).b/\(∀ a,X a ≠ none->a ≠ o :: k->m1.get (φ a).b=m.get (φ a).b):=by
 obtain ⟨w1,w2,w3⟩:=h.ow k l o n sz hk ho;obtain ⟨ty0,hm0⟩:=h.at' k _ hk;have hol:o < l.length:=by
  grind
 have hX1:n=0->X (o :: k)=none:=fun e=>by grind
 have hX2:n ≠ 0->∃ l',X (o :: k)=some (.c l')/\l'.length=n * sz:=fun e=>by rw [if_neg e] at w3; exact w3
 have hold:(X25 X (o :: k)).length=n * sz:=by
  unfold X25;by_cases hz:n=0
  ·rw [hX1 hz,hz]; simp
  ·obtain ⟨l',q1,q2⟩:=hX2 hz;rw [q1]; exact q2
 have hoX:n ≠ 0->X (o :: k)=some (.c (X25 X (o :: k))):=fun hz=>by
  obtain ⟨l',q1,q2⟩:=hX2 hz;unfold X25;rw [q1]
 have hraw:(cs.map Cl.raw).all one=true:=by
  rw [List.all_eq_true] at hnew ⊢;intro x hx;obtain ⟨c,hc,rfl⟩:=List.mem_map.mp hx;have:=hnew c hc;cases c with
  | v y=>exact this
  | s _ _=>rfl
 have hcs:∀ c ∈ cs,c.ok=true:=fun c hc=>by
  have:=List.all_eq_true.mp hnew c hc;cases c with
  | v y=>exact this
  | s _ _=>rfl
 have hgetO:n ≠ 0->∃ ty,m.get (φ (o :: k)).b=some (.cells (cells φ (o :: k) (X25 X (o :: k))) (φ (o :: k)).ver 0 false ty):=fun hz=>h.at' _ _ (hoX hz);have hty:∃ ty,n ≠ 0->m.get (φ (o :: k)).b=some (.cells (cells φ (o :: k) (X25 X (o :: k))) (φ (o :: k)).ver 0 false ty):=by
  by_cases hz:n=0
  ·exact ⟨none,fun hh=>absurd hz hh⟩
  ·obtain ⟨ty,q⟩:=hgetO hz;exact ⟨ty,fun _=>q⟩
 obtain ⟨ty,hgt⟩:=hty;obtain ⟨L',ty',m1,k1,k2,k3,k4,k5⟩:=Xfo (e:=e) (bytes:=bytes) (L:=φ (o :: k)) (n:=n) (size:=sz) (c:=cells φ (o :: k) (X25 X (o :: k))) (new:=cs.map Cl.raw) hgt (fun hz=>h.r2 _ (by rw [hoX hz]; simp)) (by rw [X10]; exact hold) h2 (by grind) hraw w2 hb;have hbk:(φ k).b < m.next:=h.hi k (by rw [hk]; simp);have hbkL:(φ k).b ≠ L'.b:=by
  rcases k5 with ⟨e1,e2,_⟩ | ⟨e1,_⟩
  ·rw [e1];intro e3;exact X3c o k (h.inj k (o :: k) (by rw [hk]; simp) (by grind) e3).symm
  ·omega
 have hm1k:m1.get (φ k).b=some (.cells (cells φ k l) (φ k).ver 0 false ty0):=by grind
 have hv1:(slV L' (n + 1) sz).cells=#[slV L' (n + 1) sz]:=by rfl
 have hset:(cells φ k l).take o ++ [slV L' (n + 1) sz] ++ (cells φ k l).drop (o + 1)=(cells φ k l).set o (slV L' (n + 1) sz):=by
  simp [List.set_eq_take_append_cons_drop,if_pos,X10,hol]
 obtain ⟨m2,s1,s2⟩:=X1u (o:=o) (n:=1) (v:=slV L' (n + 1) sz) (c':=(cells φ k l).set o (slV L' (n + 1) sz)) hm1k (by rw [hv1]; rfl) (Nat.zero_le _) (by rw [X10]; omega) (by rfl) (by grind);have hg2:∀ b,b ≠ (φ k).b->m2.get b=m1.get b:=fun b hb'=>by rw [s2.get,Mem.get_put,if_neg (fun e=>hb' e.symm)]
 have hg2k:m2.get (φ k).b=some (.cells ((cells φ k l).set o (slV L' (n + 1) sz)) (φ k).ver 0 false ty0):=by rw [s2.get,Mem.get_put,if_pos rfl]
 have hnx1:m.next <= m1.next:=by omega
 have hlw1:m1.low <= m.low:=by omega
 have hnx2:m2.next=m1.next:=by rw [s2.next,Mem.next_put]
 have hlw2:m2.low=min m1.low (φ k).b:=by rw [s2.low,Mem.low_put]
 have hLb:L'.b < m2.next:=by
  rw [hnx2];rcases k5 with ⟨e1,e2,e3,_⟩ | ⟨e1,e2,_⟩
  ·simp [e1,e3,h.hi,hoX,e2]
  ·omega
 have hLo:∀ a,X a ≠ none->a ≠ o :: k->(φ a).b ≠ L'.b:=fun a ha hne=>by
  rcases k5 with ⟨e1,e2,_⟩ | ⟨e1,_⟩
  ·rw [e1]; exact fun e=>hne (h.inj a (o :: k) ha (by grind) e)
  ·rw [e1]; have:=h.hi a ha; omega
 have hφk:(φ.set (o :: k) L') k=φ k:=Phi.set_ne _ _ (fun e=>X3c o k e.symm);have hcl:∀ a l2,a ≠ k->cells (φ.set (o :: k) L') a l2=cells φ a l2:=fun a l2 hne=>X87 fun i n' sz' _ _=>Phi.set_ne _ _ (fun e=>hne (by injection e));have hclk:cells (φ.set (o :: k) L') k (l.set o (.s (n + 1) sz))=(cells φ k l).set o (slV L' (n + 1) sz):=by
  apply List.ext_getElem?;intro i;rw [Xm,List.getElem?_set,List.getElem?_set,Xm,X10];by_cases e:o=i
  ·subst e;rw [if_pos rfl,if_pos rfl,if_pos hol,if_pos hol];show some (slV ((φ.set (o :: k) L') (o :: k)) (n + 1) sz)=_;rw [Phi.set_eq]
  ·rw [if_neg e,if_neg e];cases hc:l[i]? with
   | none=>rfl
   | some c =>
    cases c with
    | v x=>rfl
    | s n' sz' =>
     show some (slV ((φ.set (o :: k) L') (i :: k)) n' sz')=some (slV (φ (i :: k)) n' sz');rw [Phi.set_ne _ _ (fun e2=>e (by grind))]
 let X':NX:=(X.set (o :: k) (some (.c (X25 X (o :: k) ++ cs)))).set k (some (.c (l.set o (.s (n + 1) sz))));have X'k:X' k=some (.c (l.set o (.s (n + 1) sz))):=NX.set_eq _ _ _;have X'o:X' (o :: k)=some (.c (X25 X (o :: k) ++ cs)):=by
  grind [NX.set,NX.set_ne,X3c,NX.set_eq]
 have X'n:∀ a,a ≠ k->a ≠ o :: k->X' a=X a:=fun a h1 h2=>by
  show (NX.set _ _ _) _=_;rw [NX.set_ne _ _ h1,NX.set_ne _ _ h2]
 have X'd:∀ a,X' a ≠ none->a ≠ o :: k->X a ≠ none:=fun a ha hne=>by
  grind
 have hφb:∀ a,a ≠ o :: k->(φ.set (o :: k) L') a=φ a:=fun a ha=>Phi.set_ne _ _ ha;refine ⟨slV L' (n + 1) sz,m1,m2,φ.set (o :: k) L',k1,s1,?_,?_,fun a ha=>hφb a ha,fun a _ ha=>hφb a ha,by omega,fun a ha hne=>k4 _ (h.hi a ha) (hLo a ha hne)⟩
 ·show NR _ _ _ X';exact {
   inj:=fun a b ha hb' e=>by
    by_cases e1:a=o :: k
    ·by_cases e2:b=o :: k
     ·rw [e1,e2]
     ·rw [e1,Phi.set_eq,hφb b e2] at e;exact absurd e.symm (hLo b (X'd b hb' e2) e2)
    ·by_cases e2:b=o :: k
     ·rw [e2,Phi.set_eq,hφb a e1] at e;exact absurd e (hLo a (X'd a ha e1) e1)
     ·rw [hφb a e1,hφb b e2] at e;exact h.inj a b (X'd a ha e1) (X'd b hb' e2) e
   hi:=fun a ha=>by
    by_cases e1:a=o :: k
    ·rw [e1,Phi.set_eq]; exact hLb
    ·rw [hφb a e1];have:=h.hi a (X'd a ha e1);omega
   r2:=fun a ha=>by
    by_cases e1:a=o :: k
    ·rw [e1,Phi.set_eq]; exact k3
    ·simp [hφb,e1,h.r2,X'd,ha]
   at':=fun a ob ha=>by
    by_cases e1:a=k
    ·subst e1;rw [X'k] at ha;cases ha;refine ⟨ty0,?_⟩;rw [hφk,hclk];exact hg2k
    ·by_cases e2:a=o :: k
     ·rw [e2,X'o] at ha;cases ha;subst e2;refine ⟨ty',?_⟩;rw [Phi.set_eq,hcl _ _ (X3c o k),Xq0 hnew,hg2 _ (fun e=>hbkL e.symm)];exact k2
     ·rw [X'n a e1 e2] at ha;have ha':X a ≠ none:=by rw [ha]; simp
      have hbn:(φ a).b ≠ (φ k).b:=fun e=>e1 (h.inj a k ha' (by rw [hk]; simp) e);have hgg:m2.get (φ a).b=m.get (φ a).b:=by rw [hg2 _ hbn,k4 _ (h.hi a ha') (hLo a ha' e2)]
      have:=h.at' a ob ha;cases ob with
      | c l2 =>
       obtain ⟨ty3,q3⟩:=this;refine ⟨ty3,?_⟩;rw [hφb a e2,hgg,hcl _ _ e1];exact q3
      | m es cl =>
       show m2.get ((φ.set (o :: k) L') a).b=_;rw [hφb a e2,hgg];exact this
   ok:=fun a l2 ha=>by
    by_cases e1:a=k
    ·subst e1;rw [X'k] at ha;cases ha;have:=h.ok _ _ hk;rw [List.all_eq_true] at this ⊢;intro c hc;rcases List.mem_or_eq_of_mem_set hc with q | q
     ·exact this c q
     ·rw [q]; rfl
    ·by_cases e2:a=o :: k
     ·rw [e2,X'o] at ha;cases ha;rw [List.all_append,Bool.and_eq_true];refine ⟨?_,by rw [List.all_eq_true]; exact hcs⟩;by_cases hz:n=0
      ·have:X25 X (o :: k)=[]:=by unfold X25; rw [hX1 hz]
       rw [this]; rfl
      ·exact h.ok _ _ (hoX hz)
     ·rw [X'n a e1 e2] at ha;exact h.ok a l2 ha
   ow:=fun a l2 i n' sz' ha hi=>by
    have grow:∀ (p:Key) (n'' sz'':Nat),p ≠ k->p ≠ o :: k->(if n''=0 then X p=none else ∃ l',X p=some (.c l')/\l'.length=n'' * sz'')->(if n''=0 then X' p=none else ∃ l',X' p=some (.c l')/\l'.length=n'' * sz''):=fun p n'' sz'' p1 p2 hh=>by rw [X'n p p1 p2]; exact hh
    by_cases e1:a=k
    ·subst e1;rw [X'k] at ha;cases ha;rw [List.getElem?_set] at hi;by_cases e2:o=i
     ·rw [if_pos e2,if_pos hol] at hi;cases hi;subst e2;refine ⟨Nat.le_max_right _ _,w2,?_⟩;rw [if_neg (by omega)];exact ⟨_,X'o,by rw [List.length_append,hold,hn]; exact (Nat.succ_mul n sz).symm⟩
     ·rw [if_neg e2] at hi;obtain ⟨q1,q2,q3⟩:=h.ow _ _ _ _ _ hk hi;exact ⟨Nat.le_trans q1 (Nat.le_max_left _ _),q2,grow _ _ _ (X3c i _) (fun e=>e2 (by injection e with e3; exact e3.symm)) q3⟩
    ·by_cases e2:a=o :: k
     ·subst e2;rw [X'o] at ha;cases ha;by_cases hi2:i < (X25 X (o :: k)).length
      ·rw [List.getElem?_append_left hi2] at hi;have hz:n ≠ 0:=fun hz=>by rw [hold,hz] at hi2; simp at hi2
       obtain ⟨q1,q2,q3⟩:=h.ow _ _ _ _ _ (hoX hz) hi;exact ⟨Nat.le_trans q1 (Nat.le_max_left _ _),q2,grow _ _ _ (Xiz i o k) (X3c i _) q3⟩
      ·rw [List.getElem?_append_right (by omega)] at hi;have hcn:=List.all_eq_true.mp hnew _ (List.mem_of_getElem? hi);simp only [Cl.new,Bool.and_eq_true] at hcn;have hn0:n'=0:=Nat.eq_of_beq_eq_true hcn.1;have hs0:0 < sz':=by simpa using hcn.2
       refine ⟨by omega,hs0,?_⟩;rw [if_pos hn0,X'n _ (Xiz i o k) (X3c i _)];cases hxx:X (i :: o :: k) with
       | none=>rfl
       | some ob =>
        obtain ⟨l5,n5,sz5,z1,z2,z3⟩:=h.par i o k (by rw [hxx]; simp);have:X25 X (o :: k)=l5:=by unfold X25; rw [z1]
        rw [this] at hi2;rw [List.getElem?_eq_none (by omega)] at z2;cases z2
     ·rw [X'n a e1 e2] at ha;obtain ⟨q1,q2,q3⟩:=h.ow _ _ _ _ _ ha hi;have:i :: a ≠ o :: k:=fun e=>by injection e with e3 e4; exact e1 e4
      by_cases e3:i :: a=k
      ·refine ⟨Nat.le_trans q1 (Nat.le_max_left _ _),q2,?_⟩;rw [e3,X'k];rw [e3,hk] at q3;by_cases hz:n'=0
       ·rw [if_pos hz] at q3; cases q3
       ·rw [if_neg hz] at q3 ⊢;obtain ⟨l',q4,q5⟩:=q3;cases q4;exact ⟨_,rfl,by rw [List.length_set]; exact q5⟩
      ·exact ⟨Nat.le_trans q1 (Nat.le_max_left _ _),q2,grow _ _ _ e3 this q3⟩
   par:=fun i j a ha=>by
    by_cases e1:i :: j :: a=o :: k
    ·injection e1 with e2 e3;subst e2;rw [e3];exact ⟨_,n + 1,sz,X'k,by rw [List.getElem?_set,if_pos rfl,if_pos hol],by omega⟩
    ·obtain ⟨l5,n5,sz5,z1,z2,z3⟩:=h.par i j a (X'd _ ha e1);by_cases e2:j :: a=k
     ·rw [e2,hk] at z1;cases z1;have:o ≠ i:=fun e=>e1 (by rw [e,e2]);exact ⟨_,n5,sz5,by rw [e2]; exact X'k,by rw [List.getElem?_set,if_neg this]; exact z2,z3⟩
     ·by_cases e3:j :: a=o :: k
      ·have:X25 X (o :: k)=l5:=by unfold X25; rw [<- e3,z1]
       refine ⟨_,n5,sz5,by rw [e3]; exact X'o,?_,z3⟩;rw [this,List.getElem?_append_left (List.getElem?_eq_some_iff.mp z2).1];exact z2
      ·exact ⟨l5,n5,sz5,by rw [X'n _ e2 e3]; exact z1,z2,z3⟩ }
 ·show Wk _ _ _ _ _ X';exact {
   next:=by omega
   low:=by omega
   low2:=fun x y1 y2 y3=>by
    have z1:=y3 k (by rw [hk]; simp);rcases k5 with ⟨e1,e2,_,e3⟩ | ⟨_,_,e3⟩
    ·have z2:=y3 (o :: k) (by rw [hoX e2]; simp);omega
    ·omega
   get:=fun b hb' hne=>by
    have hbn:b ≠ (φ k).b:=fun e=>hne k (by rw [hk]; simp) e.symm;rw [hg2 b hbn];refine k4 b hb' ?_;rcases k5 with ⟨e1,e2,_⟩ | ⟨e1,_⟩
    ·rw [e1]; exact fun e=>hne (o :: k) (by rw [hoX e2]; simp) e.symm
    ·omega
   lo:=fun b hb'=>by
    by_cases e:b=(φ k).b
    ·exact .inl (by omega)
    ·rw [hg2 b e];by_cases e2:b=L'.b
     ·rcases k5 with ⟨e1,_,_,e3⟩ | ⟨e1,_⟩
      ·exact .inl (by omega)
      ·omega
     ·exact .inr (k4 b hb' e2)
   nw:=fun a ha=>by
    by_cases e1:a=o :: k
    ·rw [e1,Phi.set_eq];rcases k5 with ⟨e2,e3,_⟩ | ⟨e2,_⟩
     ·exact .inr ⟨o :: k,by rw [hoX e3]; simp,e2.symm⟩
     ·exact .inl (by omega)
    ·rw [hφb a e1];exact .inr ⟨a,X'd a ha e1,rfl⟩
   kp:=.inl ⟨k,by rw [hk]; simp,by omega⟩ }
end Go.Ab
namespace Go.Ab
open Go Go.Sort
def isInt (o:Option Value):Bool:=match o with | some (.int .i64 _)=>true | _=>false
def intOf (o:Option Value):Int:=match o with | some (.int .i64 z)=>z | _=>0
def cmpZ (x y:Int):Int:=if x < y then -1 else if y < x then 1 else 0
def keyOf (cs:List Value) (o n i:Nat):Int:=if i < n then intOf cs[o + i * 15]? else 0
def X3z (cs:List Value) (o n:Nat):Array Nat:=pdq (fun i j=>decide (cmpZ (keyOf cs o n i) (keyOf cs o n j) < 0)) (Array.range n) 0 n (Go.Lib.bitLen n) true true
def srt (cs:List Value) (o n:Nat):List Value:=cs.take o ++ ((X3z cs o n).toList.flatMap fun i=>(cs.drop (o + i * 15)).take 15) ++ cs.drop (o + n * 15)
def Xgt (f0 g0:FuncId):Over:=fun f args m=>match args with
 | [.slice s n t,.func (.func g) a c]=>if f=f0/\g=g0/\a.toList=[]/\c.toList=[] then
   match n with
   | 0=>some (.tuple ⟨[]⟩,m)
   | n + 1=>match s with
    | none=>none
    | some ⟨b,o,es⟩=>if es=some 15/\n < 4611686018427387903 then
      match m.get b with
      | some (.cells cs ver fro ro ty) =>
       if ro=false/\fro <= o/\t / 2=ver/\o + (n + 1) * 15 <= cs.length/\cs.all one=true/\(∀ i,i < n + 1->isInt cs[o + i * 15]?=true) then some (.tuple ⟨[]⟩,m.put b (.cells (srt cs o (n + 1)) ver fro ro ty)) else none
      | _=>none
     else none
  else none
 | _=>none
end Go.Ab
namespace Go.Ab
open Go
abbrev Str:=List UInt8
def sv (l:Str):Value:=.string ⟨⟨l⟩⟩
theorem X1c (l:Str):Value.string ⟨List.toArray l⟩=sv l:=rfl
abbrev I (z:Int):Value:=.int .i64 z
theorem Q1d (c g:Bool) (k:IntKind) (a b:Int):bin .lss c g .int (.int k a) (.int k b)=some (.bool (decide (a < b))):=by rw [X1z]; simp [binO]
theorem Qlh (c g:Bool) (k:IntKind) (a b:Int):bin .leq c g .int (.int k a) (.int k b)=some (.bool (decide (a <= b))):=by rw [X1z]; simp [binO]
theorem Qhr (c g:Bool) (k:IntKind) (a b:Int):bin .gtr c g .int (.int k a) (.int k b)=some (.bool (decide (b < a))):=by rw [X1z]; simp [binO]
theorem Qlg (c g:Bool) (k:IntKind) (a b:Int):bin .geq c g .int (.int k a) (.int k b)=some (.bool (decide (b <= a))):=by rw [X1z]; simp [binO]
theorem Q79 (c g:Bool) (k:IntKind) (a b:Int):bin .eql c g .int (.int k a) (.int k b)=some (.bool (decide (a=b))):=by
 rw [X1z]; by_cases h:a=b <;> simp [binO,h]
theorem Q9y (c g:Bool) (k:IntKind) (a b:Int):bin .neq c g .int (.int k a) (.int k b)=some (.bool (decide (a ≠ b))):=by
 rw [X1z]; by_cases h:a=b <;> simp [binO,h]
theorem Q35 (c g:Bool) (k:IntKind) (a b:Int):bin .add c g .int (.int k a) (.int k b)=some (.int k (k.wrap (a + b))):=by rw [X1z]; simp [binO]
theorem Qhs (c g:Bool) (k:IntKind) (a b:Int):bin .sub c g .int (.int k a) (.int k b)=some (.int k (k.wrap (a - b))):=by rw [X1z]; simp [binO]
theorem Qus (c g:Bool) (k:IntKind) (a b:Int):bin .mul c g .int (.int k a) (.int k b)=some (.int k (k.wrap (a * b))):=by rw [X1z]; simp [binO]
theorem Qur (c g:Bool) (k:IntKind) (a b:Int) (h:b ≠ 0):bin .quo c g .int (.int k a) (.int k b)=some (.int k (k.wrap (a.tdiv b))):=by rw [X1z]; simp [binO,h]
theorem Qt4 (c g:Bool) (k:IntKind) (a b:Int) (h:b ≠ 0):bin .rem c g .int (.int k a) (.int k b)=some (.int k (a.tmod b)):=by rw [X1z]; simp [binO,h]
theorem Qw (c g:Bool) (a b:Str):bin .eql c g .str (sv a) (sv b)=some (.bool (decide (a=b))):=by
 rw [X1z]; show some (Value.bool (a == b))=_; congr 2; by_cases h:a=b <;> simp [h]
theorem Qmw (c g:Bool) (a b:Str):bin .neq c g .str (sv a) (sv b)=some (.bool (decide (a ≠ b))):=by
 rw [X1z]; show some (Value.bool (!(a == b)))=_; congr 2; by_cases h:a=b <;> simp [h]
theorem Q48 (c g:Bool) (a b:Str) (h:a.length + b.length < 4611686018427387904):bin .add c g .str (sv a) (sv b)=some (sv (a ++ b)):=by
 rw [X1z];show (if a.length + b.length < 2 ^ 62 then some (Value.string ⟨(a ++ b).toArray⟩) else none)=_;rw [if_pos (by simpa using h)];rfl
theorem X36 (l:Str) (m:Mem):lenK 0 (sv l) m=some (.int .i64 l.length):=by rw [Xjb]; rfl
theorem X56 (l:Str) (k:IntKind) (i:Nat) (h:i < l.length):Xe (sv l) (.int k (i:Int))=some (.int .u8 ((l[i]).toNat:Int)):=by
 rw [Xbe];show (if (0:Int) <= (i:Int) then (match l[(i:Int).toNat]? with | some b=>some (Value.int .u8 b.toNat) | none=>none) else none)=_
 rw [if_pos (by omega),Int.toNat_natCast,List.getElem?_eq_getElem h]
theorem Xt {α:Type} (p:Prop) [Decidable p] (a b:Option α):brb (.bool (decide p)) a b=if p then a else b:=by
 by_cases h:p
 ·rw [if_pos h,decide_eq_true h]; rfl
 ·rw [if_neg h,decide_eq_false h]; rfl
theorem Xpz {α:Type} (c:Bool) (a b:Option α):brb (.bool c) a b=if c=true then a else b:=by cases c <;> rfl
theorem ex0 (x:Value) (l:List Value):X3m (.tuple ⟨x :: l⟩) 0=some x:=by rw [X5k]; rfl
theorem ex1 (x y:Value) (l:List Value):X3m (.tuple ⟨x :: y :: l⟩) 1=some y:=by rw [X5k]; rfl
theorem ex2 (x y z:Value) (l:List Value):X3m (.tuple ⟨x :: y :: z :: l⟩) 2=some z:=by rw [X5k]; rfl
theorem c_int (k k':IntKind) (a:Int) (m:Mem):conv (.int k') (.int k a) m=some (.int k' (k'.wrap a),m):=rfl
def outOf (m:Mem) (x:Option Rs):Option Rs:=match x with | some (v,m1)=>some (gc m v m1) | none=>none
theorem X1t {m m1:Mem} {v:Value} {x:Option Rs} (hx:x=some (v,m1)) (hF:Fr [] (withLow m m.next) m1) (hv:refs m.next 8 v=true):outOf m x=some (v,m):=by
 subst hx;unfold outOf;simp only;rw [Xh2]; unfold gcO;have h:m.next <= m1.low:=hF.low2 m.next (Nat.le_refl _) (Nat.le_refl _) (by simp);rw [Nat.ble_eq.mpr h,hv];rfl
end Go.Ab
namespace Go.Ab.Sh
open Go Go.Ab
def Qrl:Over:=Xfx Q1o ixF
def Qrm:Over:=Xfb Q9o cntF
def Qsd:Over:=Xll Q21
def Qpo:Over:=Xkk Q3u Qf
def Qru:Over:=orElse (ovPu Q9 Qf 16 16) (ovPu Q9 Qf 8 8)
def Qse:Over:=Xlf Q3t
def Qpa:Over:=Xi3 Q1p .u8 fun s c=>some (Xam s c)
def Qmt:Over:=Xgt Q2x Qdp
def oL:Tr Over:=(.node none (.node none (.node none (.node none .nil (.node none .nil (.node none (.node (some Qrm) .nil .nil) (.node (some Qpa) .nil .nil)))) (.node none .nil (.node none (.node none .nil (.node (some Qpo) .nil .nil)) .nil))) (.node none (.node none (.node none .nil (.node (some Qse) .nil .nil)) (.node none (.node none .nil (.node (some Qsd) .nil .nil)) .nil)) .nil)) (.node none (.node (some Qpz) .nil (.node (some Qmt) .nil (.node none .nil (.node none (.node (some Qrl) .nil .nil) .nil)))) (.node none (.node none (.node none (.node none (.node none (.node (some Qru) .nil .nil) .nil) .nil) .nil) .nil) .nil)))
def TA (n:Nat):Tab:=shT fns (ovTr oL) 18446744073709551616 n
theorem Xrw {f:Nat} {e:Entry Go.Proofs.Tryz.prog} (h0:oL.get (f + 1)=none) (h1:fns.get (f + 1)=some e) (h2:Nat.beq e.f f=true) (d:Nat) (args:List Value) (m:Mem):TA (d + 1) f args m=outOf m (e.h ⟨TA d,18446744073709551616⟩ args (withLow m m.next)):=by
 unfold TA;rw [Xfg,Xji,h0];simp only [h1,h2];rfl
theorem Xdp {f:Nat} {o:Over} {r:Rs} (h0:oL.get (f + 1)=some o) {args:List Value} {m:Mem} (h:o f args m=some r) (d:Nat):TA d f args m=some r:=by
 have h1:ovTr oL f args m=some r:=by rw [Xji,h0]; exact h
 unfold TA;cases d with
 | zero=>rw [Xs3]; exact h1
 | succ d=>rw [Xfg,h1]
end Go.Ab.Sh
namespace Go.Ab
open Go
variable {X:NX} {cap:Nat} {k:Key} {l:List Str} {m:Mem} {v:Value} {x:Option Rs} {φ:Phi}
theorem NR.withLow {cap:Nat} {m:Mem} {φ:Phi} {X:NX} (h:NR cap m φ X) (l:Nat):NR cap (withLow m l) φ X:=h.same (Nat.le_refl _) fun _ _=>rfl
theorem NR.call {cap1:Nat} {m1:Mem} {φ1:Phi} {X1:NX} (h:NR cap m φ X) (hx:x=some (v,m1)) (h1:NR cap1 m1 φ1 X1) (hw:Wk (Go.Ab.withLow m m.next) φ X m1 φ1 X1) :
  ∃ m2,outOf m x=some (v,m2)/\NR cap1 m2 φ1 X1/\Wk m φ X m2 φ1 X1:=by
 subst hx;have e:∀ v' m2,gc m v m1=(v',m2)->outOf m (some (v,m1))=some (v',m2):=fun v' m2 h=>by grind [outOf]
 cases hc:Nat.ble m.next m1.low && refs m.next 8 v
 ·refine ⟨Go.Ab.withLow m1 (min m.low m1.low),e _ _ ?_,h1.withLow _,?_⟩
  ·simp [Xh2,gcO,hc]
  ·exact {
    next:=hw.next
    low:=Nat.min_le_left _ _
    low2:=fun y a b c=>by
     have:=hw.low2 y b b c;show y <= min m.low m1.low;omega
    get:=hw.get
    lo:=fun b hb=>by
     rcases hw.lo b hb with q | q
     ·exact .inl (Nat.le_trans (Nat.min_le_right _ _) q)
     ·exact .inr q
    nw:=hw.nw
    kp:=by
     rcases hw.kp with ⟨k,a,b⟩ | q
     ·exact .inl ⟨k,a,Nat.le_trans (Nat.min_le_right _ _) b⟩
     ·grind }
 ·refine ⟨m,e _ _ ?_,?_,?_⟩
  ·simp [Xh2,gcO,hc]
  all_goals
   simp only [Bool.and_eq_true] at hc;have hlow:m.next <= m1.low:=Nat.le_of_ble_eq_true hc.1;have hg:∀ b,b < m.next->m1.get b=m.get b:=fun b hb=>by
    rcases hw.lo b hb with q | q
    ·omega
    ·exact q
   have hk:(∀ k,X1 k ≠ none->φ1 k=φ k)/\∀ k,X1 k ≠ none->X k ≠ none:=by
    rcases hw.kp with ⟨k,a,b⟩ | q
    ·have:=h.hi k a; omega
    ·exact q
   have hb:∀ k,X1 k ≠ none->(φ1 k).b < m.next:=fun k hk1=>by simp [hk.1,hk1,h.hi,hk.2]
  ·exact { h1 with
    hi:=hb
    at':=fun k o hko=>by
     have:=h1.at' k o hko;have hbk:=hb k (by grind);cases o with
     | c l=>obtain ⟨ty,q⟩:=this; exact ⟨ty,by grind⟩
     | m es cl=>show m.get _=_; rw [<- hg _ hbk]; exact this }
  ·exact ⟨Nat.le_refl _,Nat.le_refl _,fun _ h _ _=>h,fun _ _ _=>rfl,fun _ _=>.inr rfl,fun k hk1=>.inr ⟨k,hk.2 k hk1,by grind⟩,.inr hk⟩
theorem X2y (L:Lc) (n sz:Nat) (m:Mem):lenK 1 (slV L n sz) m=some (I n):=by
 grind [slV,Xa6]
theorem X3e (L:Lc) (hr:L.r < 2) (n sz:Nat) (i:Nat) (k:IntKind) (h:i < n):Xa sz (slV L n sz) (.int k (i:Int))=some (pt L.b (i * sz) L.ver):=by
 unfold slV;rw [if_neg (by omega),X2b];show (match Nat.blt i n && X43 (some sz) sz with | true=>_ | false=>_)=_
 rw [Nat.blt_eq.mpr h,X1q];simp only [decide_true,Bool.and_self];show some (Value.pointer (some ⟨L.b,0 + i * sz,some ((2 * L.ver + L.r) / 2)⟩))=_;rw [Nat.zero_add,show (2 * L.ver + L.r) / 2=L.ver by omega]
def ents:List Str->Nat->List (Value × Value × Nat)
 | [],_=>[]
 | s :: l,i=>(sv s,.bool true,i) :: ents l (i + 1)
theorem Xlt:∀ (l:List Str) (s:Str) (i:Nat),ents (l ++ [s]) i=ents l i ++ [(sv s,.bool true,i + l.length)]
 | [],_,_=>rfl
 | a :: l,s,i=>by
  show _ :: ents (l ++ [s]) (i + 1)=_;rw [Xlt l s (i + 1)];show _=(_ :: ents l (i + 1)) ++ _;rw [List.cons_append,List.length_cons,show i + 1 + l.length=i + (l.length + 1) by omega]
theorem Xlc (a b:Str):aEq .str (sv a) (sv b)=some (decide (a=b)):=by
 show some (a == b)=_;by_cases h:a=b <;> simp [h]
theorem Xil:∀ (l:List Str) (s:Str) (i j:Nat),s ∉ l->X4w .str (sv s) (ents l i) j=some none
 | [],_,_,_,_=>rfl
 | a :: l,s,i,j,h=>by
  have h1:s ≠ a:=fun e=>h (by rw [e]; simp);show (match aEq .str (sv s) (sv a) with | some true=>_ | some false=>_ | none=>_)=_
  rw [Xlc,decide_eq_false h1];exact Xil l s (i + 1) (j + 1) (fun e=>h (List.mem_cons_of_mem _ e))
theorem Xf6:∀ (l:List Str) (s:Str) (i j:Nat),s ∈ l->∃ q,X4w .str (sv s) (ents l i) j=some (some (j + q))/\(ents l i)[q]?=some (sv s,.bool true,i + q)
 | [],_,_,_,h=>by cases h
 | a :: l,s,i,j,h=>by
  by_cases e:s=a
  ·subst e;exact ⟨0,by simp only [ents,X4w,Xlc,decide_eq_true rfl]; rfl,rfl⟩
  ·have hm:s ∈ l:=by
    rcases List.mem_cons.mp h with q | q
    ·grind
    ·exact q
   obtain ⟨q,q1,q2⟩:=Xf6 l s (i + 1) (j + 1) hm;refine ⟨q + 1,?_,?_⟩
   ·simp only [ents,X4w,Xlc,decide_eq_false e];rw [q1]; congr 2; omega
   ·show (ents l (i + 1))[q]?=_;rw [q2]; congr 3; omega
abbrev mapV (b:Nat):Value:=.map (some b)
theorem Xqt (s:Str):veq (sv s) (sv s)=true:=by simp [veq,veq1,sv]
theorem Xpl (s:Str):aEq .str (sv s) (sv s)=some true:=by rw [Xlc,decide_eq_true rfl]
def setO (l:List Str):NO:=.m (ents l 0) l.length
def insS (l:List Str) (s:Str):List Str:=if s ∈ l then l else l ++ [s]
theorem NR.look (h:NR cap m φ X) (hk:X k=some (setO l)) (s:Str):X5u .str (.bool false) false (mapV (φ k).b) (sv s) m=some (.bool (decide (s ∈ l))):=by
 have hm:m.get (φ k).b=some (.map (ents l 0) l.length):=h.at' k _ hk;unfold X5u;simp only [Xqt,Xpl,Bool.and_self,if_true,hm,X34];by_cases e:s ∈ l
 ·obtain ⟨q,q1,q2⟩:=Xf6 l s 0 0 e;rw [q1];simp only [Nat.zero_add,q2,decide_eq_true e];rfl
 ·rw [Xil l s 0 0 e,decide_eq_false e];rfl
theorem NR.insert (h:NR cap m φ X) (hk:X k=some (setO l)) (s:Str) :
  ∃ m',X31 .str (mapV (φ k).b) (sv s) (.bool true) m=some m'/\NR cap m' φ (X.set k (some (setO (insS l s))))/\Wk m φ X m' φ (X.set k (some (setO (insS l s)))):=by
 have hm:m.get (φ k).b=some (.map (ents l 0) l.length):=h.at' k _ hk;have hup:X31 .str (mapV (φ k).b) (sv s) (.bool true) m=some (m.put (φ k).b (.map (ents (insS l s) 0) (insS l s).length)):=by
  unfold X31;simp only [Xqt,Xpl,Bool.and_self,if_true,hm,X34];unfold insS;by_cases e:s ∈ l
  ·obtain ⟨q,q1,q2⟩:=Xf6 l s 0 0 e;rw [q1,if_pos e];simp only [Nat.zero_add,q2,Xqt,if_true];rw [Nat.zero_add] at q2;have:(ents l 0).set q (sv s,.bool true,q)=ents l 0:=by
    apply List.ext_getElem?;intro i;rw [List.getElem?_set];by_cases e2:q=i
    ·subst e2;rw [if_pos rfl,q2,if_pos (List.getElem?_eq_some_iff.mp q2).1]
    ·rw [if_neg e2]
   rw [this]
  ·rw [Xil l s 0 0 e,if_neg e];rw [Xlt];simp
 refine ⟨_,hup,?_,?_⟩
 ·have hXs:∀ k',X.set k (some (setO (insS l s))) k' ≠ none->X k' ≠ none:=fun k' hk'=>by
   by_cases e:k'=k
   ·grind
   ·rwa [NX.set_ne _ _ e] at hk'
  have hc:∀ a l2,X.set k (some (setO (insS l s))) a=some (.c l2)->X a=some (.c l2):=fun a l2 ha=>by
   by_cases e:a=k
   ·rw [e,NX.set_eq] at ha;cases ha
   ·rwa [NX.set_ne _ _ e] at ha
  have hc2:∀ a l2,X a=some (.c l2)->X.set k (some (setO (insS l s))) a=some (.c l2):=fun a l2 ha=>by
   by_cases e:a=k
   ·rw [e,hk] at ha;cases ha
   ·rwa [NX.set_ne _ _ e]
  exact {
   inj:=fun a b ha hb e=>h.inj a b (hXs a ha) (hXs b hb) e
   hi:=fun a ha=>by rw [Mem.next_put]; exact h.hi a (hXs a ha)
   r2:=fun a ha=>h.r2 a (hXs a ha)
   at':=fun a ob ha=>by
    by_cases e:a=k
    ·subst e;rw [NX.set_eq] at ha;cases ha;show (m.put _ _).get _=_;rw [Mem.get_put,if_pos rfl]
    ·rw [NX.set_ne _ _ e] at ha;have hb:(φ k).b ≠ (φ a).b:=fun e2=>e (h.inj a k (by rw [ha]; simp) (by rw [hk]; simp) e2.symm);have:=h.at' a ob ha;cases ob with
     | c l2=>obtain ⟨ty2,q2⟩:=this; exact ⟨ty2,by rw [Mem.get_put,if_neg hb]; exact q2⟩
     | m es cl=>show (m.put _ _).get _=_; rw [Mem.get_put,if_neg hb]; exact this
   ok:=fun a l2 ha=>h.ok a l2 (hc a l2 ha)
   ow:=fun a l2 i n' sz ha hi=>by
    obtain ⟨w3,w4,w5⟩:=h.ow a l2 i n' sz (hc a l2 ha) hi;refine ⟨w3,w4,?_⟩;by_cases hz:n'=0
    ·rw [if_pos hz] at w5 ⊢;have:(i :: a) ≠ k:=fun e=>by rw [e,hk] at w5; cases w5
     rw [NX.set_ne _ _ this]; exact w5
    ·rw [if_neg hz] at w5 ⊢;obtain ⟨l4,w6,w7⟩:=w5;exact ⟨l4,hc2 _ _ w6,w7⟩
   par:=fun i j a ha=>by
    obtain ⟨l3,n',sz,w1,w2,w3⟩:=h.par i j a (hXs _ ha);exact ⟨l3,n',sz,hc2 _ _ w1,w2,w3⟩ }
 ·exact {
   next:=by rw [Mem.next_put]; exact Nat.le_refl _
   low:=by simp [Mem.low_put,Nat.min_le_left]
   low2:=fun x y1 y2 y3=>by
    rw [Mem.low_put];have:=y3 k (by rw [hk]; simp);omega
   get:=fun b hb hne=>by simp [Mem.get_put,if_neg,hne,hk]
   lo:=fun b hb=>by
    rw [Mem.low_put,Mem.get_put];by_cases e:(φ k).b=b
    ·omega
    ·grind
   nw:=fun a ha=>by
    refine .inr ⟨a,?_,rfl⟩;by_cases e:a=k
    ·grind
    ·rwa [NX.set_ne _ _ e] at ha
   kp:=.inl ⟨k,by rw [hk]; simp,by simp [Mem.low_put,Nat.min_le_right]⟩ }
theorem NX.set_set (X:NX) (k:Key) (a b:Option NO):(X.set k a).set k b=X.set k b:=by
 funext q;unfold NX.set;by_cases h:q=k <;> simp [h]
theorem NR.put' (h:NR cap m φ X) {l:List Cl} (o n:Nat) (x:Value) (l':List Cl) (hk:X k=some (.c l)) (hn:x.cells.size=n) (h1:x.cells.toList.all one=true) (ho:o + n <= l.length) (hp:∀ i,i < n->∃ y,l[o + i]?=some (.v y)) (hl:l.take o ++ x.cells.toList.map .v ++ l.drop (o + n)=l') :
  ∃ m',Xd n (pt (φ k).b o (φ k).ver) x m=some m'/\NR cap m' φ (X.set k (some (.c l')))/\Wk m φ X m' φ (X.set k (some (.c l'))):=by
 obtain ⟨m',a1,a2,a3,_,_⟩:=h.put (o:=o) (n:=n) (x:=x) hk hn h1 ho (fun i h1 h2=>by
  obtain ⟨y,hy⟩:=hp (i - o) (by omega);rw [show o + (i - o)=i by omega] at hy;exact ⟨y,hy⟩)
 rw [hl] at a2 a3;exact ⟨m',a1,a2,a3⟩
end Go.Ab
namespace Go.Ab.Sh
open Go Go.Ab
variable {F:Nat}
theorem tq1 (e:Entry Go.Proofs.Tryz.prog) (s:Gt->Value->Mem->Option Rs) (h:e.h=arg1 s:=by kernel_rfl) (h0:oL.get (F + 1)=none:=by kernel_rfl) (h1:fns.get (F + 1)=some e:=by kernel_rfl) (h2:Nat.beq e.f F=true:=by kernel_rfl):∀ d a m,TA (d + 1) F [a] m=outOf m (s ⟨TA d,18446744073709551616⟩ a (withLow m m.next)):=by
 intros;rw [Xrw h0 h1 h2,h];rfl
theorem tq2 (e:Entry Go.Proofs.Tryz.prog) (s:Gt->Value->Value->Mem->Option Rs) (h:e.h=arg2 s:=by kernel_rfl) (h0:oL.get (F + 1)=none:=by kernel_rfl) (h1:fns.get (F + 1)=some e:=by kernel_rfl) (h2:Nat.beq e.f F=true:=by kernel_rfl):∀ d a b m,TA (d + 1) F [a,b] m=outOf m (s ⟨TA d,18446744073709551616⟩ a b (withLow m m.next)):=by
 intros;rw [Xrw h0 h1 h2,h];rfl
theorem tq3 (e:Entry Go.Proofs.Tryz.prog) (s:Gt->Value->Value->Value->Mem->Option Rs) (h:e.h=arg3 s:=by kernel_rfl) (h0:oL.get (F + 1)=none:=by kernel_rfl) (h1:fns.get (F + 1)=some e:=by kernel_rfl) (h2:Nat.beq e.f F=true:=by kernel_rfl):∀ d a b c m,TA (d + 1) F [a,b,c] m=outOf m (s ⟨TA d,18446744073709551616⟩ a b c (withLow m m.next)):=by
 intros;rw [Xrw h0 h1 h2,h];rfl
theorem tq4 (e:Entry Go.Proofs.Tryz.prog) (s:Gt->Value->Value->Value->Value->Mem->Option Rs) (h:e.h=arg4 s:=by kernel_rfl) (h0:oL.get (F + 1)=none:=by kernel_rfl) (h1:fns.get (F + 1)=some e:=by kernel_rfl) (h2:Nat.beq e.f F=true:=by kernel_rfl):∀ d a b c e m,TA (d + 1) F [a,b,c,e] m=outOf m (s ⟨TA d,18446744073709551616⟩ a b c e (withLow m m.next)):=by
 intros;rw [Xrw h0 h1 h2,h];rfl
theorem X8c:∀ d a m,TA (d + 1) Qz [a] m=outOf m (Q5j ⟨TA d,18446744073709551616⟩ a (withLow m m.next)):=tq1 Qir Q5j
theorem X9h:∀ d a b m,TA (d + 1) Q5 [a,b] m=outOf m (Q4p ⟨TA d,18446744073709551616⟩ a b (withLow m m.next)):=tq2 Qk2 Q4p
theorem X7x:∀ d a m,TA (d + 1) Q3i [a] m=outOf m (Q3j ⟨TA d,18446744073709551616⟩ a (withLow m m.next)):=tq1 Qi9 Q3j
theorem X8o:∀ d a m,TA (d + 1) Q8h [a] m=outOf m (Q5w ⟨TA d,18446744073709551616⟩ a (withLow m m.next)):=tq1 Qjb Q5w
theorem X7r:∀ d a m,TA (d + 1) Qaa [a] m=outOf m (Q4y ⟨TA d,18446744073709551616⟩ a (withLow m m.next)):=tq1 Qi8 Q4y
theorem X8e:∀ d a b c m,TA (d + 1) Q10 [a,b,c] m=outOf m (Q42 ⟨TA d,18446744073709551616⟩ b a c (withLow m m.next)):=tq3 Qj3 (fun G a b c=>Q42 G b a c)
theorem X97:∀ d a m,TA (d + 1) Q92 [a] m=outOf m (Q6q ⟨TA d,18446744073709551616⟩ a (withLow m m.next)):=tq1 Qk6 Q6q
theorem Xan:∀ d a b m,TA (d + 1) Qg [a,b] m=outOf m (Q7v ⟨TA d,18446744073709551616⟩ a b (withLow m m.next)):=tq2 Ql7 Q7v
theorem X8n:∀ d a m,TA (d + 1) Qbg [a] m=outOf m (Q40 ⟨TA d,18446744073709551616⟩ a (withLow m m.next)):=tq1 Qiy Q40
theorem X8f:∀ d a b m,TA (d + 1) Q3y [a,b] m=outOf m (Q5k ⟨TA d,18446744073709551616⟩ a b (withLow m m.next)):=tq2 Qis Q5k
theorem X8l:∀ d a m,TA (d + 1) Q1k [a] m=outOf m (Q5r ⟨TA d,18446744073709551616⟩ a (withLow m m.next)):=tq1 Qj4 Q5r
theorem X8b:∀ d a m,TA (d + 1) Qd [a] m=outOf m (Q5u ⟨TA d,18446744073709551616⟩ a (withLow m m.next)):=tq1 Qj7 Q5u
theorem X9z:∀ d a b c m,TA (d + 1) Q6f [a,b,c] m=outOf m (Q6p ⟨TA d,18446744073709551616⟩ b c a (withLow m m.next)):=tq3 Qk5 (fun G a b c=>Q6p G b c a)
theorem X6s:∀ d a b c m,TA (d + 1) Q2 [a,b,c] m=outOf m (Q4d ⟨TA d,18446744073709551616⟩ a c b (withLow m m.next)):=tq3 Qhw (fun G a b c=>Q4d G a c b)
theorem X96:∀ d a b m,TA (d + 1) Qy [a,b] m=outOf m (Q6h ⟨TA d,18446744073709551616⟩ b a (withLow m m.next)):=tq2 Qk0 (fun G a b=>Q6h G b a)
theorem X7u:∀ d a b m,TA (d + 1) Q7j [a,b] m=outOf m (Q54 ⟨TA d,18446744073709551616⟩ b a (withLow m m.next)):=tq2 Qii (fun G a b=>Q54 G b a)
theorem X6x:∀ d a b c e m,TA (d + 1) Q4g [a,b,c,e] m=outOf m (Q4m ⟨TA d,18446744073709551616⟩ c a b e (withLow m m.next)):=tq4 Qi2 (fun G a b c e=>Q4m G c a b e)
theorem X9v:∀ d a m,TA (d + 1) Q6g [a] m=outOf m (Q6o ⟨TA d,18446744073709551616⟩ a (withLow m m.next)):=tq1 Qk4 Q6o
theorem X8a:∀ d a b m,TA (d + 1) Q8e [a,b] m=outOf m (Q5o ⟨TA d,18446744073709551616⟩ a b (withLow m m.next)):=tq2 Qiw Q5o
theorem X91:∀ d a m,TA (d + 1) Qe [a] m=outOf m (Q5t ⟨TA d,18446744073709551616⟩ a (withLow m m.next)):=tq1 Qj6 Q5t
theorem X9d:∀ d a b m,TA (d + 1) Q6i [a,b] m=outOf m (Q6r ⟨TA d,18446744073709551616⟩ a b (withLow m m.next)):=tq2 Qk7 Q6r
theorem X9g:∀ d a b m,TA (d + 1) Q94 [a,b] m=outOf m (Q6t ⟨TA d,18446744073709551616⟩ a b (withLow m m.next)):=tq2 Qk8 Q6t
theorem X70:∀ d a b c e m,TA (d + 1) Q9m [a,b,c,e] m=outOf m (Q4c ⟨TA d,18446744073709551616⟩ b a e c (withLow m m.next)):=tq4 Qhv (fun G a b c e=>Q4c G b a e c)
theorem X5q:∀ d a b m,TA (d + 1) Q1x [a,b] m=outOf m (Q3d ⟨TA d,18446744073709551616⟩ a b (withLow m m.next)):=tq2 Qgx Q3d
theorem X7v:∀ d a b m,TA (d + 1) Q7c [a,b] m=outOf m (Q4x ⟨TA d,18446744073709551616⟩ a b (withLow m m.next)):=tq2 Qi4 Q4x
theorem X6u:∀ d a b m,TA (d + 1) Q7 [a,b] m=outOf m (Q4f ⟨TA d,18446744073709551616⟩ a b (withLow m m.next)):=tq2 Qhz Q4f
theorem Xaj:∀ d a b m,TA (d + 1) Qdb [a,b] m=outOf m (Q7u ⟨TA d,18446744073709551616⟩ a b (withLow m m.next)):=tq2 Ql6 Q7u
theorem X8d:∀ d a b m,TA (d + 1) Q2o [a,b] m=outOf m (Q5m ⟨TA d,18446744073709551616⟩ a b (withLow m m.next)):=tq2 Qiu Q5m
theorem X8m:∀ d a b m,TA (d + 1) Q2p [a,b] m=outOf m (Q5n ⟨TA d,18446744073709551616⟩ a b (withLow m m.next)):=tq2 Qiv Q5n
theorem X5x:∀ d a b c m,TA (d + 1) Q87 [a,b,c] m=outOf m (Q3g ⟨TA d,18446744073709551616⟩ b c a (withLow m m.next)):=tq3 Qgz (fun G a b c=>Q3g G b c a)
theorem X50:∀ d a b m,TA (d + 1) Q1m [a,b] m=outOf m (Q2k ⟨TA d,18446744073709551616⟩ a b (withLow m m.next)):=tq2 Qgh Q2k
theorem X8p:∀ d a b c m,TA (d + 1) Q27 [a,b,c] m=outOf m (Q5v ⟨TA d,18446744073709551616⟩ a c b (withLow m m.next)):=tq3 Qj8 (fun G a b c=>Q5v G a c b)
theorem X8h:∀ d a b m,TA (d + 1) Q8g [a,b] m=outOf m (Q5p ⟨TA d,18446744073709551616⟩ a b (withLow m m.next)):=tq2 Qix Q5p
theorem X75:∀ d a b m,TA (d + 1) Q9n [a,b] m=outOf m (Q4e ⟨TA d,18446744073709551616⟩ a b (withLow m m.next)):=tq2 Qhx Q4e
theorem X8r:∀ d a b m,TA (d + 1) Q8f [a,b] m=outOf m (Q5l ⟨TA d,18446744073709551616⟩ a b (withLow m m.next)):=tq2 Qit Q5l
theorem X95:∀ d a b c m,TA (d + 1) Qc8 [a,b,c] m=outOf m (Q72 ⟨TA d,18446744073709551616⟩ b c (withLow m m.next)):=tq3 Qkf (fun G a b c=>Q72 G b c)
theorem X6w:∀ d a b m,TA (d + 1) Q2w [a,b] m=outOf m (Q4k ⟨TA d,18446744073709551616⟩ b a (withLow m m.next)):=tq2 Qi1 (fun G a b=>Q4k G b a)
theorem X9p:∀ d a b m,TA (d + 1) Q98 [a,b] m=outOf m (Q6z ⟨TA d,18446744073709551616⟩ a b (withLow m m.next)):=tq2 Qkb Q6z
theorem X48:∀ d a b m,TA (d + 1) Q2u [a,b] m=outOf m (Q22 ⟨TA d,18446744073709551616⟩ a b (withLow m m.next)):=tq2 Qdo Q22
theorem Xix:∀ d a m,TA (d + 1) Qjy [a] m=outOf m (Qg3 ⟨TA d,18446744073709551616⟩ a (withLow m m.next)):=tq1 Qp9 Qg3
theorem Xh4:∀ d a m,TA (d + 1) Qgm [a] m=outOf m (Qe6 ⟨TA d,18446744073709551616⟩ a (withLow m m.next)):=tq1 Qoq Qe6
theorem Xh9:∀ d a m,TA (d + 1) Qgl [a] m=outOf m (Qe7 ⟨TA d,18446744073709551616⟩ a (withLow m m.next)):=tq1 Qor Qe7
theorem X9n:∀ d a m,TA (d + 1) Qc7 [a] m=outOf m (Q73 ⟨TA d,18446744073709551616⟩ a (withLow m m.next)):=tq1 Qkg Q73
theorem Xau:∀ d a m,TA (d + 1) Qa9 [a] m=outOf m (Q7x ⟨TA d,18446744073709551616⟩ a (withLow m m.next)):=tq1 Qla Q7x
theorem Xk8:∀ d a m,TA (d + 1) Q7b [a] m=outOf m (Qg0 ⟨TA d,18446744073709551616⟩ a (withLow m m.next)):=tq1 Qp3 Qg0
theorem Xfu:∀ d a m,TA (d + 1) Qfv [a] m=outOf m (Qc4 ⟨TA d,18446744073709551616⟩ a (withLow m m.next)):=tq1 Qnh Qc4
theorem Xgg:∀ d a b m,TA (d + 1) Q7y [a,b] m=outOf m (Qc5 ⟨TA d,18446744073709551616⟩ a b (withLow m m.next)):=tq2 Qnf Qc5
theorem Xh1:∀ d a m,TA (d + 1) Q97 [a] m=outOf m (Qb8 ⟨TA d,18446744073709551616⟩ a (withLow m m.next)):=tq1 Qol Qb8
theorem Xjy:∀ d a m,TA (d + 1) Qjx [a] m=outOf m (Qg1 ⟨TA d,18446744073709551616⟩ a (withLow m m.next)):=tq1 Qp4 Qg1
theorem X4m:∀ d a b m,TA (d + 1) Q69 [a,b] m=outOf m (Q2c ⟨TA d,18446744073709551616⟩ a b (withLow m m.next)):=tq2 Qfu Q2c
theorem Xd4:∀ d a m,TA (d + 1) Qcs [a] m=outOf m (Qat ⟨TA d,18446744073709551616⟩ a (withLow m m.next)):=tq1 Qp7 Qat
theorem Xnc:∀ d a m,TA (d + 1) Qlb [a] m=outOf m (Qgq ⟨TA d,18446744073709551616⟩ a (withLow m m.next)):=tq1 Qph Qgq
theorem Xi7:∀ d a b m,TA (d + 1) Qde [a,b] m=outOf m (Qdm ⟨TA d,18446744073709551616⟩ a b (withLow m m.next)):=tq2 Qof Qdm
theorem Xik:∀ d a m,TA (d + 1) Qg2 [a] m=outOf m (Qcz ⟨TA d,18446744073709551616⟩ a (withLow m m.next)):=tq1 Qp8 Qcz
theorem Xfi:∀ d a m,TA (d + 1) Qhn [a] m=outOf m (Qc3 ⟨TA d,18446744073709551616⟩ a (withLow m m.next)):=tq1 Qng Qc3
theorem Xi1:∀ d a m,TA (d + 1) Qib [a] m=outOf m (Qe5 ⟨TA d,18446744073709551616⟩ a (withLow m m.next)):=tq1 Qop Qe5
theorem X4l:∀ d a m,TA (d + 1) Q6a [a] m=outOf m (Q2e ⟨TA d,18446744073709551616⟩ a (withLow m m.next)):=tq1 Qfx Q2e
theorem Xa5:∀ d a m,TA (d + 1) Qdc [a] m=outOf m (Q7w ⟨TA d,18446744073709551616⟩ a (withLow m m.next)):=tq1 Ql8 Q7w
theorem X1h:∀ d a b m,TA (d + 1) Qn [a,b] m=outOf m (Qb ⟨TA d,18446744073709551616⟩ a b (withLow m m.next)):=tq2 Q2q Qb
theorem X2j:∀ d a b m,TA (d + 1) Q1i [a,b] m=outOf m (Q13 ⟨TA d,18446744073709551616⟩ a b (withLow m m.next)):=tq2 Q7z Q13
theorem X22:∀ d a b m,TA (d + 1) Q1c [a,b] m=outOf m (Qu ⟨TA d,18446744073709551616⟩ a b (withLow m m.next)):=tq2 Q6d Qu
theorem X1x:∀ d a b m,TA (d + 1) Qt [a,b] m=outOf m (Qk ⟨TA d,18446744073709551616⟩ a b (withLow m m.next)):=tq2 Q3x Qk
theorem X3g:∀ d a b m,TA (d + 1) Q3o [a,b] m=outOf m (Q1r ⟨TA d,18446744073709551616⟩ a b (withLow m m.next)):=tq2 Qbj Q1r
theorem Xg2:∀ d a b m,TA (d + 1) Q4w [a,b] m=outOf m (Qc2 ⟨TA d,18446744073709551616⟩ a b (withLow m m.next)):=tq2 Qne Qc2
theorem Xce:∀ d a b m,TA (d + 1) Qgc [a,b] m=outOf m (Q9r ⟨TA d,18446744073709551616⟩ a b (withLow m m.next)):=tq2 Qm2 Q9r
theorem X85:∀ d a b m,TA (d + 1) Q8k [a,b] m=outOf m (Q5x ⟨TA d,18446744073709551616⟩ a b (withLow m m.next)):=tq2 Qj9 Q5x
theorem X4i:∀ d a b m,TA (d + 1) Q28 [a,b] m=outOf m (Q2r ⟨TA d,18446744073709551616⟩ b a (withLow m m.next)):=tq2 Qja (fun G a b=>Q2r G b a)
theorem Xc6:∀ d a b m,TA (d + 1) Q7l [a,b] m=outOf m (Q7r ⟨TA d,18446744073709551616⟩ a b (withLow m m.next)):=tq2 Qm4 Q7r
theorem Xdq:∀ d a b m,TA (d + 1) Qdl [a,b] m=outOf m (Qaw ⟨TA d,18446744073709551616⟩ a b (withLow m m.next)):=tq2 Qmv Qaw
theorem X99:∀ d a b m,TA (d + 1) Q4r [a,b] m=outOf m (Q71 ⟨TA d,18446744073709551616⟩ a b (withLow m m.next)):=tq2 Qke Q71
theorem X9i:∀ d a b c e m,TA (d + 1) Qc6 [a,b,c,e] m=outOf m (Q4q ⟨TA d,18446744073709551616⟩ e b a c (withLow m m.next)):=tq4 Qk3 (fun G a b c e=>Q4q G e b a c)
theorem X6h:∀ d a m,TA (d + 1) Q60 [a] m=outOf m (Q3r ⟨TA d,18446744073709551616⟩ a (withLow m m.next)):=tq1 Qh2 Q3r
theorem X5o:∀ d a b m,TA (d + 1) Q58 [a,b] m=outOf m (Q3c ⟨TA d,18446744073709551616⟩ a b (withLow m m.next)):=tq2 Qgw Q3c
theorem X6k:∀ d a b m,TA (d + 1) Q5z [a,b] m=outOf m (Q3q ⟨TA d,18446744073709551616⟩ a b (withLow m m.next)):=tq2 Qh1 Q3q
theorem X5a:∀ d a b m,TA (d + 1) Q7n [a,b] m=outOf m (Q32 ⟨TA d,18446744073709551616⟩ a b (withLow m m.next)):=tq2 Qgp Q32
theorem X57:∀ d a m,TA (d + 1) Q7m [a] m=outOf m (Q33 ⟨TA d,18446744073709551616⟩ a (withLow m m.next)):=tq1 Qgo Q33
theorem X4z:∀ d a b m,TA (d + 1) Q44 [a,b] m=outOf m (Q1z ⟨TA d,18446744073709551616⟩ a b (withLow m m.next)):=tq2 Qge Q1z
theorem X9t:∀ d a m,TA (d + 1) Q96 [a] m=outOf m (Q4s ⟨TA d,18446744073709551616⟩ a (withLow m m.next)):=tq1 Qka Q4s
theorem X3p:∀ d a m,TA (d + 1) Q6k [a] m=outOf m (Q2s ⟨TA d,18446744073709551616⟩ a (withLow m m.next)):=tq1 Qhy Q2s
theorem X6l:∀ d a m,TA (d + 1) Q6j [a] m=outOf m (Q4h ⟨TA d,18446744073709551616⟩ a (withLow m m.next)):=tq1 Qi0 Q4h
theorem X89:∀ d a m,TA (d + 1) Q41 [a] m=outOf m (Q5q ⟨TA d,18446744073709551616⟩ a (withLow m m.next)):=tq1 Qj2 Q5q
theorem X9l:∀ d a m,TA (d + 1) Q14 [a] m=outOf m (Q70 ⟨TA d,18446744073709551616⟩ a (withLow m m.next)):=tq1 Qkc Q70
theorem X92:∀ d a b m,TA (d + 1) Q0 [a,b] m=outOf m (Q5s ⟨TA d,18446744073709551616⟩ a b (withLow m m.next)):=tq2 Qj5 Q5s
theorem X6g:∀ d a m,TA (d + 1) Q8w [a] m=outOf m (Q3v ⟨TA d,18446744073709551616⟩ a (withLow m m.next)):=tq1 Qh7 Q3v
theorem X5j:∀ d a m,TA (d + 1) Q7k [a] m=outOf m (Q31 ⟨TA d,18446744073709551616⟩ a (withLow m m.next)):=tq1 Qgn Q31
theorem X62:∀ d a m,TA (d + 1) Q88 [a] m=outOf m (Q3f ⟨TA d,18446744073709551616⟩ a (withLow m m.next)):=tq1 Qgy Q3f
theorem X4f:∀ d a m,TA (d + 1) Q5c [a] m=outOf m (Q29 ⟨TA d,18446744073709551616⟩ a (withLow m m.next)):=tq1 Qee Q29
theorem X4n:∀ d a m,TA (d + 1) Q2b [a] m=outOf m (Q2a ⟨TA d,18446744073709551616⟩ a (withLow m m.next)):=tq1 Qft Q2a
theorem X6f:∀ d a m,TA (d + 1) Q3p [a] m=outOf m (Q2j ⟨TA d,18446744073709551616⟩ a (withLow m m.next)):=tq1 Qh0 Q2j
end Go.Ab.Sh
namespace Go.Ab
open Go Go.Lib
variable {c:UInt8} {most n:Nat} {s:Str}
def isD (c:UInt8):Bool:=Nat.ble 48 c.toNat && Nat.ble c.toNat 57
theorem Xjs (c:UInt8):isD c=true ↔ 48 <= c.toNat/\c.toNat <= 57:=by unfold isD; simp [Nat.ble_eq]
def val:Nat->Str->Nat
 | acc,[]=>acc
 | acc,c :: l=>val (acc * 10 + (c.toNat - 48)) l
theorem val_append (l:Str) (c:UInt8):∀ acc,val acc (l ++ [c])=val acc l * 10 + (c.toNat - 48):=by
 induction l with
 | nil=>intro acc; rfl
 | cons a l ih=>intro acc; exact ih _
theorem Xss (d:Nat) (h:d < 10):(UInt8.ofNat (48 + d)).toNat=48 + d:=by
 rw [UInt8.toNat_ofNat']; omega
theorem Xcc (h:n < 10):decDigits n=[UInt8.ofNat (48 + n)]:=by rw [decDigits,dif_pos h]
theorem Xiv (h:¬ n < 10):decDigits n=decDigits (n / 10) ++ [UInt8.ofNat (48 + n % 10)]:=by rw [decDigits,dif_neg h]
theorem Xxf (n:Nat):decDigits n ≠ []:=by
 intro h;have:=decDigits_length n;rw [h] at this;have:=nDigits_pos n;simp at *;omega
theorem Xj7 (n:Nat):val 0 (decDigits n)=n:=by
 induction n using Nat.strongRecOn with
 | _ n ih =>
  by_cases h:n < 10
  ·rw [Xcc h];show 0 * 10 + ((UInt8.ofNat (48 + n)).toNat - 48)=n;rw [Xss n h]; omega
  ·rw [Xiv h,val_append,ih (n / 10) (by omega),Xss _ (Nat.mod_lt _ (by omega))];omega
theorem Xvq (n:Nat):(decDigits n).all isD=true:=by
 induction n using Nat.strongRecOn with
 | _ n ih =>
  by_cases h:n < 10
  ·rw [Xcc h];simp only [List.all_cons,List.all_nil,Bool.and_true,Xjs,Xss n h]; omega
  ·rw [Xiv h,List.all_append,ih (n / 10) (by omega)];simp only [List.all_cons,List.all_nil,Bool.and_true,Bool.true_and,Xjs,Xss _ (Nat.mod_lt n (by omega:0 < 10))];have:=Nat.mod_lt n (by omega:0 < 10);omega
def num (most:Nat) (s:Str):Option Nat:=if s=decDigits (val 0 s)/\val 0 s <= most then some (val 0 s) else none
theorem num_some:num most s=some n ↔ s=decDigits n/\n <= most:=by
 unfold num;constructor
 ·intro h;split at h
  ·rename_i h1;cases h;exact h1
  ·cases h
 ·rintro ⟨rfl,h⟩
  rw [Xj7,if_pos ⟨rfl,h⟩]
theorem Xgo (n:Nat):itoa (n:Int)=decDigits n:=by
 unfold itoa;rw [if_neg (by omega),Int.toNat_natCast]
theorem Xus (h:isD c=true):48 <= c.toNat/\c.toNat <= 57:=(Xjs c).mp h
theorem Xbw:∀ (l:Str) (acc:Nat),l.all isD=true->val acc l < 1844674407370955162->parseUint10 acc l=.ok (val acc l)
 | [],acc,_,_=>rfl
 | c :: l,acc,h,hv=>by
  simp only [List.all_cons,Bool.and_eq_true] at h;have hc:=Xus h.1;have mono:∀ (l:Str) (a:Nat),a <= val a l:=by
   intro l
   induction l with
   | nil=>intro a; exact Nat.le_refl _
   | cons c l ih=>intro a; exact Nat.le_trans (by omega) (ih _)
  have h1:=mono l (acc * 10 + (c.toNat - 48));have hv':val (acc * 10 + (c.toNat - 48)) l < 1844674407370955162:=hv;show (if 48 <= c.toNat/\c.toNat <= 57 then _ else _)=_;rw [if_pos hc,if_neg (by omega),if_neg (by omega)];exact Xbw l _ h.2 hv'
theorem Xs8 (n:Nat) (h:n < 1000000000000):atoiAll (decDigits n)=.ok (n:Int):=by
 have ha:=Xvq n;have hp:=Xbw (decDigits n) 0 ha (by rw [Xj7]; omega);rw [Xj7] at hp;cases hd:decDigits n with
 | nil=>exact absurd hd (Xxf n)
 | cons c r =>
  rw [hd] at ha hp;simp only [List.all_cons,Bool.and_eq_true] at ha;have hc:=Xus ha.1;unfold atoiAll;simp only;rw [if_neg (by omega)];unfold parseMag;rw [if_neg (by simp),hp];simp only;rw [if_neg (by omega),if_neg (by omega),if_neg (by omega)]
theorem Xwf (n k:Nat) (hk:1 <= k) (h:n < 10 ^ k):(decDigits n).length <= k:=by
 induction k generalizing n with
 | zero=>omega
 | succ k ih =>
  by_cases hn:n < 10
  ·rw [Xcc hn]; simp
  ·rw [Xiv hn,List.length_append];have:1 <= k:=by
    cases k with
    | zero=>simp at h; omega
    | succ k=>omega
   have:=ih (n / 10) this (by rw [Nat.pow_succ] at h; omega);simp only [List.length_cons,List.length_nil];omega
theorem Xck (h:n < 9223372036854775808):Xfv (n:Int)=true:=Nat.blt_eq.mpr h
end Go.Ab
namespace Go.Ab.Sh
open Go Go.Ab Go.Lib
variable {most:Nat} {s:Str} {v:Int}
theorem c_Itoa (n:Int) (h:Xfv n=true) (d:Nat) (m:Mem):TA d Q21 [I n] m=some (sv (itoa n),m):=by
 refine Xdp (o:=Qsd) (by kernel_rfl) ?_ d;obtain ⟨q1,q2⟩:=Xd9 h;show (if Q21=Q21/\Xfv n=true then some (Value.string ⟨(Xvz n).toArray⟩,m) else none)=_;rw [if_pos ⟨rfl,h⟩,Xl7 q1 q2];rfl
theorem c_ItoaN (n:Nat) (h:n < 1000000000000) (d:Nat) (m:Mem):TA d Q21 [I n] m=some (sv (decDigits n),m):=by
 rw [c_Itoa n (Xck (by omega)),Xgo]
theorem c_Atoi (s:Str) (hs:s.length <= 4194304) (d:Nat) (m:Mem):∃ v e m1,TA d Q3u [sv s] m=some (.tuple ⟨[I v,e]⟩,m1)/\Fr [] m m1 /\
  ((atoiAll s=.ok v/\e=.nilIface)\/((∀ v,atoiAll s ≠ .ok v)/\∃ p,e=.iface Qf (.pointer (some p)))):=by
 have key:∀ r,Qpo Q3u [sv s] m=some r->TA d Q3u [sv s] m=some r:=fun r h=>Xdp (o:=Qpo) (by kernel_rfl) h d;have e:Qpo Q3u [sv s] m=(match atoiAll s with
   | .ok v=>some (.tuple #[.int .i64 v,.nilIface],m)
   | Lib.NumEnd.syntax=>errV (.int .i64 0) Qf m
   | .range=>errV (.int .i64 (atoiSat s)) Qf m):=by
  show (if Q3u=Q3u/\s.length <= 281474976710656 then _ else none)=_;rw [if_pos ⟨rfl,by omega⟩];rfl
 rw [e] at key;cases h:atoiAll s with
 | ok v =>
  rw [h] at key;exact ⟨v,.nilIface,m,key _ rfl,.refl _ _,.inl ⟨rfl,rfl⟩⟩
 | range =>
  rw [h] at key;exact ⟨_,_,_,key _ rfl,.push _,.inr ⟨by simp,_,rfl⟩⟩
 | _ =>
  rw [h] at key;exact ⟨0,_,_,key _ rfl,.push _,.inr ⟨by simp,_,rfl⟩⟩
theorem nilI (g:Bool):bin .neq true g .iface .nilIface .nilIface=some (.bool false):=by
 rw [X1z]; cases g <;> rfl
theorem nilE (g:Bool):bin .eql true g .iface .nilIface .nilIface=some (.bool true):=by
 rw [X1z]; cases g <;> rfl
theorem Xwi (T:TypeId) (p:Addr):bin .neq true false .iface (.iface T (.pointer (some p))) .nilIface=some (.bool true):=by rw [X1z]; rfl
theorem Xzd (T:TypeId) (p:Addr):bin .eql true false .iface (.iface T (.pointer (some p))) .nilIface=some (.bool false):=by rw [X1z]; rfl
theorem Xte (h:atoiAll s=.ok v):(0 <= v/\v <= most/\itoa v=s) ↔ num most s=some v.toNat/\0 <= v:=by
 constructor
 ·rintro ⟨h1,h2,h3⟩
  obtain ⟨n,rfl⟩:=Int.eq_ofNat_of_zero_le h1;rw [Xgo] at h3;exact ⟨num_some.mpr ⟨h3.symm,by omega⟩,h1⟩
 ·rintro ⟨h1,h2⟩
  obtain ⟨n,rfl⟩:=Int.eq_ofNat_of_zero_le h2;obtain ⟨q1,q2⟩:=num_some.mp h1;rw [Int.toNat_natCast] at q1 q2;exact ⟨h2,by omega,by rw [Xgo]; exact q1.symm⟩
theorem X46 {n:Nat} (hm:most < 1000000000000) (h:num most s=some n):atoiAll s=.ok (n:Int):=by
 obtain ⟨rfl,h2⟩:=num_some.mp h;exact Xs8 n (by omega)
theorem c_lexNumber (s:Str) (hs:s.length <= 4194304) (most:Nat) (hm:most < 1000000000000) (d:Nat) (m:Mem) :
  TA (d + 1) Qde [sv s,I most] m=some (match num most s with | some n=>.tuple ⟨[I n,.bool true]⟩ | none=>.tuple ⟨[I 0,.bool false]⟩,m):=by
 rw [Xi7];obtain ⟨v,e,m1,k1,k2,k3⟩:=c_Atoi s hs d (withLow m m.next);refine X1t (m1:=m1) ?_ k2 (by cases num most s <;> rfl);delta Qdm Qjd Qjc Q6s C Q D B K U qe A qf;simp only [k1,X4,ex0,ex1,X3];rcases k3 with ⟨h1,rfl⟩ | ⟨h1,p,rfl⟩
 ·have ht:=Xte (most:=most) h1;simp only [nilI,X3,X6,Q1d,Qhr,Xt,Q6s,X7,Q,K,qe,A,qf];by_cases c1:v < 0
  ·rw [if_pos c1];cases hn:num most s with
   | none=>rfl
   | some n=>have:=X46 hm hn; rw [h1] at this; cases this; omega
  ·rw [if_neg c1];by_cases c2:(most:Int) < v
   ·rw [if_pos c2];cases hn:num most s with
    | none=>rfl
    | some n =>
     have:=X46 hm hn; rw [h1] at this; cases this;have:=(num_some.mp hn).2;omega
   ·rw [if_neg c2];obtain ⟨n,rfl⟩:=Int.eq_ofNat_of_zero_le (by omega:0 <= v);have c2':n <= most:=by omega
    rw [c_ItoaN n (by omega)];simp only [X4,Qmw,X3,Xt];by_cases c3:decDigits n=s
    ·have:num most s=some n:=num_some.mpr ⟨c3.symm,c2'⟩;rw [this,if_neg (by simpa using c3)]
    ·rw [if_pos c3];cases hn:num most s with
     | none=>rfl
     | some k =>
      have:=X46 hm hn; rw [h1] at this; cases this;exact absurd (num_some.mp hn).1.symm c3
 ·simp only [Xwi,X3,X7,Q6s,Q,K,qe,A,qf];cases hn:num most s with
  | none=>rfl
  | some n=>exact absurd (X46 hm hn) (h1 _)
theorem c_addrNumber (s:Str) (hs:s.length <= 4194304) (most:Nat) (hm:most < 1000000000000) (d:Nat) (m:Mem) :
  ∃ v:Int,TA (d + 1) Q7y [sv s,I most] m=some (.tuple ⟨[I v,.bool (num most s).isSome]⟩,m)/\∀ n,num most s=some n->v=n:=by
 rw [Xgg];obtain ⟨v,e,m1,k1,k2,k3⟩:=c_Atoi s hs d (withLow m m.next);refine ⟨v,X1t (m1:=m1) ?_ k2 rfl,?_⟩
 ·delta Qc5 Qio Qip Q5i C D B K U qe A;simp only [k1,X4,ex0,ex1,X3];rcases k3 with ⟨h1,rfl⟩ | ⟨h1,p,rfl⟩
  ·simp only [nilE,X3,X7,Qlh,Qlg,Xt,Q5i,K];by_cases c1:0 <= v
   ·rw [if_pos c1];by_cases c2:v <= (most:Int)
    ·rw [if_pos c2];obtain ⟨n,rfl⟩:=Int.eq_ofNat_of_zero_le c1;rw [c_ItoaN n (by omega)];simp only [X4,Qw,X3];by_cases c3:decDigits n=s
     ·have:num most s=some n:=num_some.mpr ⟨c3.symm,by omega⟩;rw [this]; simp [c3]
     ·cases hn:num most s with
      | none=>simp [c3]
      | some k =>
       have:=X46 hm hn; rw [h1] at this; cases this;exact absurd (num_some.mp hn).1.symm c3
    ·rw [if_neg c2];cases hn:num most s with
     | none=>rfl
     | some n =>
      have:=X46 hm hn; rw [h1] at this; cases this;have:=(num_some.mp hn).2;omega
   ·rw [if_neg c1];cases hn:num most s with
    | none=>rfl
    | some n=>have:=X46 hm hn; rw [h1] at this; cases this; omega
  ·simp only [Xzd,X3,X6,Q5i,K];cases hn:num most s with
   | none=>rfl
   | some n=>exact absurd (X46 hm hn) (h1 _)
 ·intro n hn;have h2:=X46 hm hn;rcases k3 with ⟨h1,_⟩ | ⟨h1,_⟩
  ·rw [h1] at h2; cases h2; rfl
  ·exact absurd h2 (h1 _)
end Go.Ab.Sh
namespace Go.Ab
open Go Go.Lib
variable {c:UInt8} {i:Nat} {l w x y:Str} {m:Mem} {v:Value} {ws:List Str}
def cut (c:UInt8):Str->Option (Str × Str)
 | []=>none
 | a :: l=>if a=c then some ([],l) else match cut c l with | none=>none | some (x,y)=>some (a :: x,y)
def split (c:UInt8):Str->List Str
 | []=>[[]]
 | a :: l=>if a=c then [] :: split c l else match split c l with | w :: ws=>(a :: w) :: ws | []=>[[a]]
theorem X4a (c a:UInt8) (l:Str):split c (a :: l)=if a=c then [] :: split c l else match split c l with | w :: ws=>(a :: w) :: ws | []=>[[a]]:=rfl
theorem X4v (c:UInt8):∀ l,split c l ≠ []
 | []=>by simp [split]
 | a :: l=>by
  unfold split;split
  ·simp
  ·split <;> simp
theorem X7k {c:UInt8}:∀ {l:Str},cut c l=none->split c l=[l]
 | [],_=>rfl
 | a :: l,h=>by
  unfold cut at h;rw [X4a];split at h
  ·cases h
  ·rename_i hc;rw [if_neg hc];cases hk:cut c l with
   | none=>rw [X7k hk]
   | some p=>rw [hk] at h; cases h
theorem X5i {c:UInt8}:∀ {l x y:Str},cut c l=some (x,y)->split c l=x :: split c y
 | a :: l,x,y,h=>by
  unfold cut at h;rw [X4a];split at h
  ·rename_i hc;cases h;rw [if_pos hc]
  ·rename_i hc;rw [if_neg hc];cases hk:cut c l with
   | none=>rw [hk] at h; cases h
   | some p =>
    rw [hk] at h;cases h;rw [X5i hk]
theorem Xig {c:UInt8}:∀ {l x y:Str},cut c l=some (x,y)->l=x ++ c :: y/\c ∉ x
 | a :: l,x,y,h=>by
  unfold cut at h;split at h
  ·rename_i hc;cases h;subst hc;exact ⟨rfl,by simp⟩
  ·rename_i hc;cases hk:cut c l with
   | none=>rw [hk] at h; cases h
   | some p =>
    rw [hk] at h;cases h;obtain ⟨q1,q2⟩:=Xig hk;exact ⟨by rw [q1]; rfl,by simp only [List.mem_cons,not_or]; exact ⟨fun e=>hc e.symm,q2⟩⟩
theorem Xo3 {c:UInt8}:∀ {l:Str},cut c l=none->c ∉ l
 | [],_=>by simp
 | a :: l,h=>by
  unfold cut at h;split at h
  ·cases h
  ·rename_i hc;cases hk:cut c l with
   | none=>simp only [List.mem_cons,not_or]; exact ⟨fun e=>hc e.symm,Xo3 hk⟩
   | some p=>rw [hk] at h; cases h
theorem Xpn {c:UInt8}:∀ {x:Str} (y:Str),c ∉ x->cut c (x ++ c :: y)=some (x,y)
 | [],y,_=>by simp [cut]
 | a :: x,y,h=>by
  simp only [List.mem_cons,not_or] at h;have hne:¬ a=c:=fun e=>h.1 e.symm;show (if a=c then some ([],x ++ c :: y) else match cut c (x ++ c :: y) with | none=>none | some (x,y)=>some (a :: x,y))=_
  rw [if_neg hne,Xpn y h.2]
theorem Xd5 (h:cut c l=some (x,y)):l.count c=y.count c + 1:=by
 obtain ⟨rfl,h2⟩:=Xig h;rw [List.count_append,List.count_cons_self,List.count_eq_zero_of_not_mem h2];omega
theorem count_none (h:cut c l=none):l.count c=0:=List.count_eq_zero_of_not_mem (Xo3 h)
theorem X8s (h:cut c l=some (x,y)):l.length=x.length + y.length + 1:=by
 obtain ⟨rfl,_⟩:=Xig h;simp; omega
theorem X59 (c:UInt8):∀ (n:Nat) (l:Str),l.length <= n->(split c l).length=l.count c + 1
 | n,l,hn=>by
  cases h:cut c l with
  | none=>rw [X7k h,count_none h]; rfl
  | some p =>
   obtain ⟨x,y⟩:=p;rw [X5i h,Xd5 h];have:=X8s h;cases n with
   | zero=>omega
   | succ n=>rw [List.length_cons,X59 c n y (by omega)]
theorem index_one (c:UInt8):∀ (l:Str),index l [c]=match cut c l with | none=>-1 | some (x,_)=>(x.length:Int)
 | []=>rfl
 | a :: l=>by
  have ih:=index_one c l;unfold index cut;by_cases hc:a=c
  ·subst hc;simp
  ·have e:([c]:Str).isPrefixOf (a :: l)=false:=by
    simp [List.isPrefixOf];exact fun e=>hc e.symm
   rw [e,if_neg hc,ih];cases hk:cut c l with
   | none=>rfl
   | some p =>
    obtain ⟨x,y⟩:=p;simp only [Bool.false_eq_true,if_false];have:((x.length:Int) == -1)=false:=by simp
    rw [this];simp
def SL (m:Mem) (v:Value) (ws:List Str):Prop:=
 ∃ b o r c fro ro ty,v=.slice (some ⟨b,o,some 1⟩) ws.length r/\b < m.next/\m.get b=some (.cells c (r / 2) fro ro ty)/\o + ws.length <= c.length/\∀ i w,ws[i]?=some w->c[o + i]?=some (sv w)
theorem SL.len (h:SL m v ws) (m':Mem):lenK 1 v m'=some (I ws.length):=by
 obtain ⟨b,o,r,c,fro,ro,ty,rfl,_⟩:=h;exact Xa6 _ _ _ _
theorem SL.at (h:SL m v ws) (hw:ws[i]?=some w):∃ p,Xa 1 v (.int .i64 (i:Int))=some p/\X8 false 1 p m=some (sv w):=by
 obtain ⟨b,o,r,c,fro,ro,ty,rfl,h2,h3,h4,h5⟩:=h;have hlt:i < ws.length:=(List.getElem?_eq_some_iff.mp hw).1;refine ⟨pt b (o + i * 1) (r / 2),?_,?_⟩
 ·rw [X2b];have h1:Nat.blt i ws.length=true:=Nat.blt_eq.mpr hlt;show (match Nat.blt i ws.length && X43 (some 1) 1 with | true=>some (Value.pointer (some ⟨b,o + i * 1,some (r / 2)⟩)) | false=>none)=_
  rw [h1,X1q];rfl
 ·rw [Nat.mul_one];exact X12 h3 (h5 i w hw)
theorem SL.tail (h:SL m v (w :: ws)):∃ v',X7a 1 v (some (I 1)) none=some v'/\SL m v' ws:=by
 obtain ⟨b,o,r,c,fro,ro,ty,rfl,h2,h3,h4,h5⟩:=h;refine ⟨.slice (some ⟨b,o + 1 * 1,some 1⟩) ws.length r,?_,b,o + 1 * 1,r,c,fro,ro,ty,rfl,h2,h3,by simp at h4; omega,fun i x hx=>?_⟩
 ·have hb:Nat.ble 1 (w :: ws).length=true:=Nat.ble_eq.mpr (by simp);show (match (match Nat.ble 1 (w :: ws).length with | true=>some 1 | false=>none) with
   | some l=>if some 1=some 1 then some (Value.slice (some ⟨b,o + l * 1,some 1⟩) ((w :: ws).length - l) (if (w :: ws).length=(w :: ws).length then r else r / 2 * 2)) else none
   | none=>none)=_
  rw [hb];simp
 ·have:=h5 (i + 1) x (by simpa using hx);rw [show o + 1 * 1 + i=o + (i + 1) by omega];exact this
end Go.Ab
namespace Go.Ab.Sh
open Go Go.Ab Go.Lib
theorem c_Idx (s:Str) (hs:s.length <= 4194304) (c:UInt8) (d:Nat) (m:Mem):TA d Q1o [sv s,sv [c]] m=some (I (match cut c s with | none=>-1 | some (x,_)=>(x.length:Int)),m):=by
 refine Xdp (o:=Qrl) (by kernel_rfl) ?_ d;show (if Q1o=Q1o/\s.length < 4294967281 then some (Value.int .i64 (ixF s [c]),m) else none)=_;rw [if_pos ⟨rfl,by omega⟩,Xuv,index_one]
theorem c_Index (s:Str) (hs:s.length <= 4194304) (c:UInt8) (d:Nat) (m:Mem):TA (d + 1) Qgc [sv s,sv [c]] m=some (I (match cut c s with | none=>-1 | some (x,_)=>(x.length:Int)),m):=by
 rw [Xce];refine X1t (m1:=withLow m m.next) ?_ (.refl _ _) rfl;delta Q9r C K;simp only [c_Idx s hs,X4]
theorem c_Count (s:Str) (c:UInt8) (d:Nat) (m:Mem):TA d Q9o [sv s,sv [c]] m=some (I (s.count c:Nat),m):=by
 refine Xdp (o:=Qrm) (by kernel_rfl) ?_ d;show (if Q9o=Q9o then some (Value.int .i64 (cntF s c),m) else none)=_;rw [if_pos rfl,Xr6];rfl
theorem Xbt (l:Str) (h:Nat) (hh:h <= l.length):Xw (sv l) none (some (I h))=some (sv (l.take h)):=by
 rw [X4y];show (match bound (some (I h)) l.length l.length with | some h=>(match bound none 0 h with | some k=>some (Value.string ⟨((l.take h).drop k).toArray⟩) | none=>none) | none=>none)=_
 have:bound (some (I h)) l.length l.length=some h:=by
  show (match Nat.ble h l.length with | true=>some h | false=>none)=_
  rw [Nat.ble_eq.mpr hh]
 rw [this];rfl
theorem X9c (l:Str) (k:Nat) (hk:k <= l.length):Xw (sv l) (some (I k)) none=some (sv (l.drop k)):=by
 rw [X4y];show (match bound (some (I k)) 0 l.length with | some k=>some (Value.string ⟨((l.take l.length).drop k).toArray⟩) | none=>none)=_
 have:bound (some (I k)) 0 l.length=some k:=by
  show (match Nat.ble k l.length with | true=>some k | false=>none)=_
  rw [Nat.ble_eq.mpr hk]
 rw [this,List.take_length];rfl
theorem Xl3 {c:UInt8} {l x y:Str} (h:cut c l=some (x,y)):l.take x.length=x/\l.drop (x.length + 1)=y/\x.length + 1 <= l.length:=by
 have h3:=X8s h;obtain ⟨rfl,_⟩:=Xig h;refine ⟨by simp,?_,by omega⟩;rw [List.drop_append];simp
theorem c_Cut (s:Str) (hs:s.length <= 4194304) (c:UInt8) (d:Nat) (m:Mem):TA (d + 2) Q4w [sv s,sv [c]] m =
  some (match cut c s with | none=>.tuple ⟨[sv s,sv [],.bool false]⟩ | some (x,y)=>.tuple ⟨[sv x,sv y,.bool true]⟩,m):=by
 have inner:∀ m,TA (d + 1) Q69 [sv s,sv [c]] m=some (match cut c s with | none=>.tuple ⟨[sv s,sv [],.bool false]⟩ | some (x,y)=>.tuple ⟨[sv x,sv y,.bool true]⟩,m):=by
  intro m;rw [X4m];refine X1t (m1:=withLow m m.next) ?_ (.refl _ _) (by cases cut c s <;> rfl);delta Q2c C D B N K qe A qf E;simp only [c_Idx s hs,X4];cases h:cut c s with
  | none =>
   simp only [Qlg,X3,Xt];rfl
  | some p =>
   obtain ⟨x,y⟩:=p;obtain ⟨q1,q2,q3⟩:=Xl3 h;have w:IntKind.i64.wrap ((x.length:Int) + (1:Nat))=((x.length + 1:Nat):Int):=by rw [IntWalk.i64_in _ (by omega)]; omega
   have e1:([c]:Str).length=1:=rfl;simp only [Qlg,X3,Xt,if_pos (Int.natCast_nonneg x.length),X36,Q35,e1,w,Xbt s x.length (by omega),X9c s (x.length + 1) q3,q1,q2]
 rw [Xg2];refine X1t (m1:=withLow m m.next) ?_ (.refl _ _) (by cases cut c s <;> rfl);delta Qc2 C K U;simp only [inner,X4];cases cut c s with
 | none=>simp only [ex0,ex1,ex2,X3]
 | some p=>simp only [ex0,ex1,ex2,X3]
theorem Xrl (b n r:Nat) (i:Nat) (h:i < n):Xa 1 (.slice (some ⟨b,0,some 1⟩) n r) (.int .i64 (i:Int))=some (pt b i (r / 2)):=by
 rw [X2b];have h1:Nat.blt i n=true:=Nat.blt_eq.mpr h;show (match Nat.blt i n && X43 (some 1) 1 with | true=>some (Value.pointer (some ⟨b,0 + i * 1,some (r / 2)⟩)) | false=>none)=_
 rw [h1,X1q];simp
theorem Xwe (b n r k:Nat) (h:k <= n):X7a 1 (.slice (some ⟨b,0,some 1⟩) n r) none (some (I k))=some (.slice (some ⟨b,0,some 1⟩) k (if k=n then r else r / 2 * 2)):=by
 have hb:Nat.ble k n=true:=Nat.ble_eq.mpr h;show (match (match Nat.ble k n with | true=>some k | false=>none) with
  | some h=>(match some 0 with
   | some l=>if some 1=some 1 then some (Value.slice (some ⟨b,0 + l * 1,some 1⟩) (h - l) (if h=n then r else r / 2 * 2)) else none
   | none=>none)
  | none=>none)=_
 rw [hb];simp
theorem Xyp (w:Str):(sv w).cells.toList.all one=true:=rfl
theorem X9a (d:Nat) (c:UInt8) (b:Nat) (ty:Option Nat):∀ (k:Nat) (rest:Str) (done:List Str) (cs:List Value) (m:Mem),rest.length <= 4194304->rest.count c < k ->
  m.get b=some (.cells cs 0 0 false ty)->cs.length=done.length + rest.count c + 1->cs.length <= 4194305->(∀ (j:Nat) (w:Str),done[j]?=some w->cs[j]?=some (sv w)) ->
  ∃ m1 cs',Q7f ⟨TA (d + 1),18446744073709551616⟩ k (I done.length) (I (cs.length - 1:Nat)) (sv rest) (sv [c]) (.slice (some ⟨b,0,some 1⟩) cs.length 1) (I 0) m =
   some (.slice (some ⟨b,0,some 1⟩) cs.length 1,m1)/\Fr [b] m m1/\m1.get b=some (.cells cs' 0 0 false ty)/\cs'.length=cs.length/\∀ (j:Nat) (w:Str),(done ++ split c rest)[j]?=some w->cs'[j]?=some (sv w)
 | 0,_,_,_,_,_,hk,_,_,_,_=>by omega
 | k + 1,rest,done,cs,m,hr,hk,hb,hl,hd,hc=>by
  have hcount:=List.count_le_length (a:=c) (l:=rest);unfold Q7f;delta C D B N T Y X A qh
  -- a cell written
  have put:∀ (x:Str),∃ m',Xd 1 (pt b done.length 0) (sv x) m=some m'/\Fr [b] m m'/\m'.get b=some (.cells (cs.take done.length ++ [sv x] ++ cs.drop (done.length + 1)) 0 0 false ty):=by
   intro x;obtain ⟨m',k1,k2⟩:=X1u (o:=done.length) (n:=1) (v:=sv x) hb rfl (Nat.zero_le _) (by omega) (Xyp x) rfl;refine ⟨m',k1,((Fr.refl _ _).put _ (.inl (by simp))).meq k2,?_⟩;rw [k2.get,Mem.get_put,if_pos rfl];rfl
  have cell:∀ (x:Str) (j:Nat) (w:Str),(done ++ [x])[j]?=some w->(cs.take done.length ++ [sv x] ++ cs.drop (done.length + 1))[j]?=some (sv w):=by
   intro x j w hw;have h1:(cs.take done.length).length=done.length:=by rw [List.length_take]; omega
   by_cases hj:j < done.length
   ·rw [List.getElem?_append_left hj] at hw;rw [List.append_assoc,List.getElem?_append_left (by omega),List.getElem?_take_of_lt hj];exact hc j w hw
   ·have hj2:j=done.length:=by
     have:=(List.getElem?_eq_some_iff.mp hw).1;simp at this;omega
    subst hj2;simp only [List.getElem?_append_right (Nat.le_refl _),Nat.sub_self,List.getElem?_cons_zero,Option.some.injEq] at hw;subst hw;rw [List.append_assoc,List.getElem?_append_right (by omega),h1,Nat.sub_self];rfl
  have newlen:∀ (x:Str),(cs.take done.length ++ [sv x] ++ cs.drop (done.length + 1)).length=cs.length:=by
   intro x;simp only [List.length_append,List.length_take,List.length_cons,List.length_nil,List.length_drop];omega
  have w1:IntKind.i64.wrap ((done.length:Int) + 1)=((done.length + 1:Nat):Int):=by rw [IntWalk.i64_in _ (by omega)]; omega
  simp only [Q1d,X3,Xt];by_cases h0:rest.count c=0
  ·-- the last word
   have hnone:cut c rest=none:=by
    cases h:cut c rest with
    | none=>rfl
    | some p=>obtain ⟨x,y⟩:=p; have:=Xd5 h; omega
   have hn:¬ ((done.length:Int) < ((cs.length - 1:Nat):Int)):=by omega
   rw [if_neg hn];obtain ⟨m',k1,k2,k3⟩:=put rest;refine ⟨m',_,?_,k2,k3,newlen rest,?_⟩
   ·delta Qac B K T Y X A;simp only [Xrl b cs.length 1 done.length (by omega),X3,show (1:Nat) / 2=0 from rfl,k1,Xo,Q35,w1,Xwe b cs.length 1 (done.length + 1) (by omega),X3];rw [if_pos (by omega),show done.length + 1=cs.length by omega]
   ·rw [X7k hnone];exact cell rest
  ·have hlt:(done.length:Int) < ((cs.length - 1:Nat):Int):=by omega
   rw [if_pos hlt];cases h:cut c rest with
   | none=>exact absurd (count_none h) h0
   | some p =>
    obtain ⟨x,y⟩:=p;obtain ⟨q1,q2,q3⟩:=Xl3 h;have q4:=Xd5 h;have q5:=X8s h;obtain ⟨m',k1,k2,k3⟩:=put x;have w0:IntKind.i64.wrap ((x.length:Int) + 0)=(x.length:Int):=by rw [IntWalk.i64_in _ (by omega)]; omega
    have w2:IntKind.i64.wrap ((x.length:Int) + (1:Nat))=((x.length + 1:Nat):Int):=by rw [IntWalk.i64_in _ (by omega)]; omega
    have e1:([c]:Str).length=1:=rfl;have hneg:¬ ((x.length:Int) < 0):=by omega
    obtain ⟨m1,cs',r1,r2,r3,r4,r5⟩:=X9a d c b ty k y (done ++ [x]) (cs.take done.length ++ [sv x] ++ cs.drop (done.length + 1)) m' (by omega) (by omega) k3 (by rw [newlen]; simp; omega) (by rw [newlen]; exact hd) (cell x);rw [newlen] at r1 r4;refine ⟨m1,cs',?_,k2.trans r2,r3,r4,?_⟩
    ·rw [<- r1];simp only [c_Index rest hr,h,X4,Q1d,X3,Xt,if_neg hneg,Q35,w0,Xbt rest x.length (by omega),q1,Xrl b cs.length 1 done.length (by omega),show (1:Nat) / 2=0 from rfl,k1,Xo,X36,e1,w2,X9c rest (x.length + 1) q3,q2,w1];simp
    ·rw [X5i h];intro j w hw;exact r5 j w (by simpa using hw)
theorem min_i64 (a b:Int):aMin (.int .i64 a) (.int .i64 b)=some (I (if b < a then b else a)):=rfl
theorem X9j (m:Mem) (o:AObj):(m.push o).get m.next=some o:=by rw [Mem.get_push,if_pos rfl]
theorem Xk5 {m m1:Mem} {v:Value} {x:Option Rs} (hx:x=some (v,m1)) (hF:Fr [] (withLow m m.next) m1) (hr:refs m.next 8 v=false) :
  ∃ m2,outOf m x=some (v,m2)/\Fr [] m m2/\m2.next=m1.next/\∀ b,m2.get b=m1.get b:=by
 subst hx;unfold outOf;simp only;rw [Xh2]; unfold gcO;rw [hr,Bool.and_false];have hlow:m.next <= m1.low:=hF.low2 m.next (Nat.le_refl _) (Nat.le_refl _) (by simp);refine ⟨_,rfl,⟨hF.next,Nat.min_le_left _ _,fun x a b _=>?_,hF.get,fun b hb=>.inr (hF.get b hb (by simp))⟩,rfl,fun b=>rfl⟩;show x <= min m.low m1.low;omega
theorem SL.same {m m':Mem} {v:Value} {ws:List Str} (h:SL m v ws) (hn:m.next <= m'.next) (hg:∀ b,m'.get b=m.get b):SL m' v ws:=by
 obtain ⟨b,o,r,c,fro,ro,ty,h1,h2,h3,h4,h5⟩:=h;exact ⟨b,o,r,c,fro,ro,ty,h1,Nat.lt_of_lt_of_le h2 hn,by rw [hg]; exact h3,h4,h5⟩
theorem c_Split (s:Str) (hs:s.length <= 4194304) (c:UInt8) (d:Nat) (m:Mem):∃ v m1,TA (d + 3) Q7l [sv s,sv [c]] m=some (v,m1)/\Fr [] m m1/\SL m1 v (split c s)/\refs m.next 8 v=false:=by
 have inner:∀ m,∃ v m1,TA (d + 2) Qc6 [sv s,sv [c],I 0,I (-1)] m=some (v,m1)/\Fr [] m m1/\SL m1 v (split c s)/\refs m.next 8 v=false:=by
  intro m;have hcount:=List.count_le_length (a:=c) (l:=s);let n:=s.count c + 1;have hn:n=s.count c + 1:=rfl;have hp:=X9j (withLow m m.next) (.cells (rep n [sv []]) 0 0 false (some (2 * Q4)));have hrl:(rep n [sv []]).length=n:=by
   have:∀ k,(rep k [sv []]).length=k:=by
    intro k
    induction k with
    | zero=>rfl
    | succ k ih=>simp [rep,ih]
   exact this n
  obtain ⟨m1,cs',k1,k2,k3,k4,k5⟩:=X9a d c (withLow m m.next).next (some (2 * Q4)) 18446744073709551616 s [] (rep n [sv []]) ((withLow m m.next).push (.cells (rep n [sv []]) 0 0 false (some (2 * Q4)))) hs (by omega) hp (by rw [hrl]; simp; omega) (by rw [hrl]; omega) (by intro j w h; simp at h);rw [hrl] at k1 k4;have hF:Fr [] (withLow m m.next) m1:=by
   have h1:Fr [(withLow m m.next).next] (withLow m m.next) m1:=((Fr.push (W:=[(withLow m m.next).next]) _)).trans k2;refine ⟨h1.next,h1.low,fun x a b _=>h1.low2 x a b (by intro w hw; simp at hw; subst hw; exact b),fun b hb _=>h1.get b hb (by simp; omega),h1.lo⟩
  have hx:Q4q ⟨TA (d + 1),18446744073709551616⟩ (I (-1)) (sv [c]) (sv s) (I 0) (withLow m m.next)=some (.slice (some ⟨(withLow m m.next).next,0,some 1⟩) n 1,m1):=by
   have e0:Value.string ⟨#[]⟩=sv []:=rfl;have e1:¬ ((-1:Int)=0):=by omega
   have e2:¬ ([c]:Str)=[]:=by simp
   have e3:(-1:Int) < 0:=by omega
   have w1:IntKind.i64.wrap (((s.count c:Nat):Int) + 1)=(n:Int):=by rw [IntWalk.i64_in _ (by omega)]; omega
   have w2:IntKind.i64.wrap ((s.length:Int) + 1)=((s.length + 1:Nat):Int):=by rw [IntWalk.i64_in _ (by omega)]; omega
   have w3:(if ((s.length + 1:Nat):Int) < (n:Int) then ((s.length + 1:Nat):Int) else (n:Int))=(n:Int):=by rw [if_neg (by omega)]
   have w4:IntKind.i64.wrap ((n:Int) - 1)=((n - 1:Nat):Int):=by rw [IntWalk.i64_in _ (by omega)]; omega
   have mk:X3j Q4 [sv []] 1 16 (I n) (I n) (withLow m m.next)=some (.slice (some ⟨(withLow m m.next).next,0,some 1⟩) n 1,(withLow m m.next).push (.cells (rep n [sv []]) 0 0 false (some (2 * Q4)))):=by
    have hf:fits n 16=true:=by
     simp only [fits,Bool.and_eq_true,Nat.ble_eq]; omega
    show (if (decide ((0:Int) <= (n:Int)) && decide ((n:Int) <= (n:Int)) && fits ((n:Int).toNat) 16 && Nat.ble 1 1)=true then _ else none)=_;rw [Int.toNat_natCast,hf,decide_eq_true (Int.natCast_nonneg n),decide_eq_true (Int.le_refl _)];simp
   delta Q4q Qev Qeu Qet Qad Qes Qer Qeq Qep F C D B N K X qg A qd E;simp only [e0,Q79,X3,Xt,if_neg e1,Qw,if_neg e2,Q1d,if_pos e3,c_Count,X4,Q35,w1,X36,w2,min_i64,w3,mk,Qhs,w4];exact k1
  rw [X9i];have hr:refs m.next 8 (.slice (some ⟨(withLow m m.next).next,0,some 1⟩) n 1)=false:=by
   show Nat.blt m.next m.next=false;cases h:Nat.blt m.next m.next with
   | false=>rfl
   | true=>have:=Nat.blt_eq.mp h; omega
  obtain ⟨m2,q1,q2,q3,q4⟩:=Xk5 (m:=m) hx hF hr;refine ⟨_,m2,q1,q2,?_,hr⟩;refine ⟨(withLow m m.next).next,0,1,cs',0,false,some (2 * Q4),?_,?_,by rw [q4]; exact k3,?_,fun i w hw=>by rw [Nat.zero_add]; exact k5 i w (by simpa using hw)⟩
  ·rw [X59 c s.length s (Nat.le_refl _)]
  ·rw [q3];have:=k2.next;simp [Mem.push] at this;omega
  ·rw [X59 c s.length s (Nat.le_refl _),k4];omega
 rw [Xc6];obtain ⟨v,m1,k1,k2,k3,k4⟩:=inner (withLow m m.next);have hx:Q7r ⟨TA (d + 2),18446744073709551616⟩ (sv s) (sv [c]) (withLow m m.next)=some (v,m1):=by
  delta Q7r C K A;simp only [k1,X4]
 obtain ⟨m2,q1,q2,q3,q4⟩:=Xk5 (m:=m) hx k2 k4;exact ⟨v,m2,q1,q2,SL.same k3 (by omega) q4,k4⟩
end Go.Ab.Sh
namespace Go.Ab
open Go Go.Lib
def Xmm:Nat->List Str->Option Nat
 | acc,[]=>some acc
 | acc,w :: ws=>match num 255 w with | none=>none | some n=>Xmm (acc * 256 + n) ws
def Xds (s:Str):Option Nat:=if (split 46 s).length=4 then Xmm 0 (split 46 s) else none
def Xhs (o:Option Nat):Value:=match o with | some a=>.tuple ⟨[.int .u32 (a:Int),I 0]⟩ | none=>.tuple ⟨[.int .u32 0,I 4]⟩
theorem Xnk (n:Nat) (o:Option Nat):refs n 8 (Xhs o)=true:=by cases o <;> rfl
theorem X51 (c:UInt8):∀ (l w:Str),w ∈ split c l->w.length <= l.length
 | [],w,h=>by simp [split] at h; subst h; simp
 | a :: l,w,h=>by
  rw [X4a] at h;split at h
  ·rcases List.mem_cons.mp h with e | e
   ·subst e; simp
   ·have:=X51 c l w e; simp; omega
  ·cases hs:split c l with
   | nil=>exact absurd hs (X4v c l)
   | cons x xs =>
    rw [hs] at h;have ih:=X51 c l;rw [hs] at ih;rcases List.mem_cons.mp h with e | e
    ·subst e;have:=ih x List.mem_cons_self;simp; omega
    ·have:=ih w (List.mem_cons_of_mem _ e);simp; omega
theorem Xz8 (c g:Bool) (a n:Nat) (ha:a < 16777216) (hn:n < 256):bin .or c g .int (.int .u32 ((a * 256:Nat):Int)) (.int .u32 (n:Int))=some (.int .u32 ((a * 256 + n:Nat):Int)):=by
 rw [X1z];simp only [binO,ne_eq,not_true_eq_false,if_false];have e1:(BitVec.ofInt 32 ((a * 256:Nat):Int) ||| BitVec.ofInt 32 (n:Int)).toNat=a * 256 + n:=by
  rw [BitVec.ofInt_natCast,BitVec.ofInt_natCast,BitVec.toNat_or,BitVec.toNat_ofNat,BitVec.toNat_ofNat,Nat.mod_eq_of_lt (by omega),Nat.mod_eq_of_lt (by omega)];have h:=Nat.shiftLeft_add_eq_or_of_lt (i:=8) (b:=n) (by omega) a;rw [Nat.shiftLeft_eq] at h;exact h.symm
 have e2:(BitVec.ofInt IntKind.u32.bits ((a * 256:Nat):Int) ||| BitVec.ofInt IntKind.u32.bits (n:Int)).toNat=a * 256 + n:=e1;rw [e2,IntWalk.u32_in _ (by omega)]
theorem Xwu (c g:Bool) (a:Nat) (ha:a < 16777216):bin .shl c g .int (.int .u32 (a:Int)) (.int .u64 8)=some (.int .u32 ((a * 256:Nat):Int)):=by
 rw [X1z];show (if (8:Int) < 0 then none else some (Value.int .u32 (IntKind.u32.wrap ((a:Int) * 2 ^ (min (8:Int).toNat 32)))))=_;have e:((a:Int) * 2 ^ (min (8:Int).toNat 32))=((a * 256:Nat):Int):=by
  have:(2:Int) ^ (min (8:Int).toNat 32)=256:=rfl;rw [this]; omega
 rw [if_neg (by omega),e,IntWalk.u32_in _ (by omega)]
end Go.Ab
namespace Go.Ab.Sh
open Go Go.Ab Go.Lib
theorem Xy8 {k:Nat} (h:k <= 3):(256:Nat) ^ k <= 16777216:=by
 have:(256:Nat) ^ k <= 256 ^ 3:=Nat.pow_le_pow_right (by omega) h;omega
theorem X81 (d:Nat) (v:Value) (m:Mem) (ws:List Str) (h4:ws.length=4) (hw:∀ w ∈ ws,w.length <= 4194304) (hS:SL m v ws):∀ (rest pre:List Str) (acc k:Nat),ws=pre ++ rest->rest.length < k->acc < 256 ^ pre.length ->
  Qax ⟨TA (d + 1),18446744073709551616⟩ k (I pre.length) v (.int .u32 (acc:Int)) m=some (Xhs (Xmm acc rest),m)
 | [],pre,acc,k,he,hk,ha=>by
  obtain ⟨k,rfl⟩:∃ j,k=j + 1:=⟨k - 1,by simp at hk; omega⟩
  have hl:pre.length=4:=by rw [<- h4,he]; simp
  unfold Qax;delta Qjq F C D B K U qx X A;simp only [Q1d,X3,Xt,hl];rfl
 | w :: rest,pre,acc,k,he,hk,ha=>by
  obtain ⟨k,rfl⟩:∃ j,k=j + 1:=⟨k - 1,by simp at hk; omega⟩
  have hl:pre.length + (rest.length + 1)=4:=by rw [<- h4,he]; simp
  have hlt:(pre.length:Int) < 4:=by omega
  obtain ⟨p,k1,k2⟩:=hS.at (i:=pre.length) (w:=w) (by rw [he]; simp);obtain ⟨z,n1,n2⟩:=c_addrNumber w (hw w (by rw [he]; simp)) 255 (by omega) d m;have w1:IntKind.i64.wrap ((pre.length:Int) + 1)=((pre ++ [w]).length:Int):=by rw [IntWalk.i64_in _ (by omega)]; simp
  have hp:=Xy8 (k:=pre.length) (by omega);unfold Qax;delta F C D B K U qx X A;simp only [Q1d,X3,Xt,if_pos hlt,k1,k2];have n1:TA (d + 1) Q7y [sv w,.int .i64 255] m=_:=n1;simp only [n1,X4,ex0,ex1,X3,Xbi,Xpz];unfold Xmm;cases hn:num 255 w with
  | none=>rfl
  | some n =>
   have:=n2 n hn;subst this;have hn2:=(num_some.mp hn).2;have w2:IntKind.u32.wrap (n:Int)=(n:Int):=by rw [IntWalk.u32_in _ (by omega)]
   simp only [Option.isSome_some,Bool.not_true,Bool.false_eq_true,if_false,Xwu _ _ acc (by omega),X3,c_int,w2,X4,Xz8 _ _ acc n (by omega) (by omega),Q35,w1];exact X81 d v m ws h4 hw hS rest (pre ++ [w]) (acc * 256 + n) k (by rw [he]; simp) (by simp at hk; omega) (by simp [Nat.pow_succ]; omega)
theorem c_addrParse (s:Str) (hs:s.length <= 4194304) (d:Nat) (m:Mem):TA (d + 4) Qgl [sv s] m=some (Xhs (Xds s),m):=by
 rw [Xh9];obtain ⟨v,m1,k1,k2,k3,_⟩:=c_Split s hs 46 d (withLow m m.next);refine X1t (m1:=m1) ?_ k2 (Xnk _ _);delta Qe7 Qjr Qjs Qjt Qju Qjv C D N K A E;have k1:TA (d + 3) Q7l [sv s,.string ⟨#[46]⟩] (withLow m m.next)=some (v,m1):=k1;simp only [k1,X4,k3.len,X3,Q9y,Xt];unfold Xds;by_cases h4:(split 46 s).length=4
 ·rw [if_neg (by omega),if_pos h4];exact X81 (d + 2) v m1 (split 46 s) h4 (fun w hw=>by have:=X51 46 s w hw; omega) k3 (split 46 s) [] 0 18446744073709551616 rfl (by omega) (by simp)
 ·rw [if_pos (by omega),if_neg h4];rfl
end Go.Ab.Sh
namespace Go.Ab
open Go Go.Lib
variable {B:Nat} {m:Mem} {v:Value} {ws:List Str}
def SA (B:Nat) (m:Mem) (v:Value) (ws:List Str):Prop:=
 (ws=[]/\v=.slice none 0 0)\/(ws ≠ []/\∃ b ver ty,v=.slice (some ⟨b,0,some 1⟩) ws.length (2 * ver)/\B <= b/\b < m.next/\m.get b=some (.cells (ws.map sv) ver 0 false ty))
theorem SA.sl (h:SA B m v ws) (hne:ws ≠ []):SL m v ws/\refs B 8 v=false:=by
 rcases h with ⟨h1,_⟩ | ⟨_,b,ver,ty,rfl,h2,h3,h4⟩
 ·exact absurd h1 hne
 ·refine ⟨⟨b,0,2 * ver,ws.map sv,0,false,ty,rfl,h3,?_,by simp,fun i w hw=>by rw [Nat.zero_add,List.getElem?_map,hw]; rfl⟩,?_⟩
  ·rw [show 2 * ver / 2=ver by omega]; exact h4
  ·show Nat.blt b B=false;cases hb:Nat.blt b B with
   | false=>rfl
   | true=>have:=Nat.blt_eq.mp hb; omega
theorem SA.app {e:Nat} (h:SA B m v ws) (hB:B <= m.next) (hl:ws.length <= 4194304) (w:Str) :
  ∃ m2 v' m',X5 e [sv []] 1 1 [(0,sv w)] m=some (.slice (some ⟨m.next,0,some 1⟩) 1 1,m2)/\apS e 1 16 v (.slice (some ⟨m.next,0,some 1⟩) 1 1) m2=some (v',m')/\Fb B m m'/\SA B m' v' (ws ++ [w]):=by
 have hb:X5 e [sv []] 1 1 [(0,sv w)] m=some (.slice (some ⟨m.next,0,some 1⟩) 1 1,m.push (.cells [sv w] 0 0 false (some (2 * e)))):=Eq.trans rfl rfl;have hg:(m.push (.cells [sv w] 0 0 false (some (2 * e)))).get m.next=some (.cells [sv w] 0 0 false (some (2 * e))):=by rw [Mem.get_push,if_pos rfl]
 have hF:Fb B m (m.push (.cells [sv w] 0 0 false (some (2 * e)))):=(Fb.push _ hB)
 rcases h with ⟨rfl,rfl⟩ | ⟨hne,b,ver,ty,rfl,h2,h3,h4⟩
 ·have ha:=Xqv (e:=e) (bytes:=16) hg rfl rfl (Nat.le_refl 1) rfl;refine ⟨_,_,_,hb,ha,hF.trans (Fb.push _ (by show B <= m.next + 1; omega)),.inr ⟨by simp,(m.push (.cells [sv w] 0 0 false (some (2 * e)))).next,0,some (2 * e),rfl,by show B <= m.next + 1; omega,by show m.next + 1 < m.next + 1 + 1; omega,?_⟩⟩;rw [Mem.get_push,if_pos rfl];rfl
 ·have hfit:fits (ws.length + 1) 16=true:=by
   simp only [fits,Bool.and_eq_true,Nat.ble_eq]; omega
  have hb2:(m.push (.cells [sv w] 0 0 false (some (2 * e)))).get b=some (.cells (ws.map sv) ver 0 false ty):=by rw [Mem.get_push,if_neg (by omega)]; exact h4
  obtain ⟨m',k1,k2⟩:=Xum (e:=e) (bytes:=16) (len:=ws.length) (size:=1) hb2 hg rfl rfl (Nat.le_refl 1) (Nat.zero_le _) (by simp) hfit;refine ⟨_,_,m',hb,k1,(hF.trans ((Fb.refl B _).put _ h2)).meq k2,.inr ⟨by simp,b,ver + 1,tyOf ty (2 * e),by simp,h2,?_,?_⟩⟩
  ·rw [k2.next,Mem.next_put];show b < m.next + 1;omega
  ·rw [k2.get,Mem.get_put,if_pos rfl];congr 2;simp only [Nat.mul_one,List.map_append,List.map_cons,List.map_nil];rw [List.take_of_length_le (by simp)]
def spl (c:UInt8):Str->Str->List Str
 | cur,[]=>[cur]
 | cur,a :: r=>if a=c then cur :: spl c [] r else spl c (cur ++ [a]) r
theorem Xqb (c:UInt8):∀ (r cur:Str),spl c cur r=match split c r with | w :: ws=>(cur ++ w) :: ws | []=>[]
 | [],cur=>by simp [spl,split]
 | a :: r,cur=>by
  rw [X4a];unfold spl;by_cases h:a=c
  ·rw [if_pos h,if_pos h,Xqb c r];cases hs:split c r with
   | nil=>exact absurd hs (X4v c r)
   | cons x xs=>simp
  ·rw [if_neg h,if_neg h,Xqb c r];cases hs:split c r with
   | nil=>exact absurd hs (X4v c r)
   | cons x xs=>simp
theorem Xw6 (c:UInt8) (s:Str):spl c [] s=split c s:=by
 rw [Xqb];cases hs:split c s with
 | nil=>exact absurd hs (X4v c s)
 | cons x xs=>rfl
theorem Xjo (l:Str) (a b:Nat) (h1:a <= b) (h2:b <= l.length):Xw (sv l) (some (I a)) (some (I b))=some (sv ((l.take b).drop a)):=by
 rw [X4y];show (match bound (some (I b)) l.length l.length with | some h=>(match bound (some (I a)) 0 h with | some k=>some (Value.string ⟨((l.take h).drop k).toArray⟩) | none=>none) | none=>none)=_
 have e1:bound (some (I b)) l.length l.length=some b:=by
  show (match Nat.ble b l.length with | true=>some b | false=>none)=_
  rw [Nat.ble_eq.mpr h2]
 have e2:bound (some (I a)) 0 b=some a:=by
  show (match Nat.ble a b with | true=>some a | false=>none)=_
  rw [Nat.ble_eq.mpr h1]
 rw [e1];simp only [e2];rfl
theorem Xrk (pre cur rest:Str):(((pre ++ cur ++ rest).take (pre.length + cur.length)).drop pre.length)=cur:=by
 rw [List.take_append_of_le_length (by simp),List.take_of_length_le (by simp),List.drop_left]
end Go.Ab
namespace Go.Ab.Sh
open Go Go.Ab Go.Lib
theorem Xtw {m m1:Mem} {v:Value} {x:Option Rs} (hx:x=some (v,m1)) (hF:Fb m.next (withLow m m.next) m1) (hr:refs m.next 8 v=false) :
  ∃ m2,outOf m x=some (v,m2)/\Fr [] m m2/\m2.next=m1.next/\∀ b,m2.get b=m1.get b:=Xk5 hx (Fb.toFr hF) hr
end Go.Ab.Sh
namespace Go.Ab
open Go Go.Lib
variable {B e:Nat} {cs tail vs:List Value} {m:Mem} {ty:Option Nat} {v:Value} {x:Option Rs}
abbrev X24 (a:Nat):Str:=decDigits (a / 16777216) ++ [46] ++ decDigits (a / 65536 % 256) ++ [46] ++ decDigits (a / 256 % 256) ++ [46] ++ decDigits (a % 256)
theorem X6c (n:Nat) (h:n < 18446744073709551616):(decDigits n).length <= 20:=Xwf n 20 (by omega) (by omega)
theorem Xp {α:Type} (ty:Nat) (cs:List Value) (m:Mem) (k:Value->Mem->Option α):bp (some (aNew ty cs m)) k=k (pt m.next 0 0) (m.push (.cells cs 0 0 false (some (2 * ty + 1)))):=Eq.trans rfl rfl
theorem X16 {m1:Mem} (hx:x=some (v,m1)) (hF:Fb m.next (withLow m m.next) m1) (hv:refs m.next 8 v=true):outOf m x=some (v,m):=X1t hx (Fb.toFr hF) hv
theorem X106 (n k:Nat):(n:Int).tmod (k:Int)=((n % k:Nat):Int):=rfl
theorem X10c (n k:Nat):(n:Int).tdiv (k:Int)=((n / k:Nat):Int):=rfl
theorem Xlh (m:Mem) (x:Nat) {α:Type} (k:Value->Mem->Option α):bp (X5 e [.int .u8 0] 1 1 [(0,.int .u8 (x:Int))] m) (fun v m=>bp (conv .str v m) k)=k (sv [UInt8.ofNat x]) (m.push (.cells [.int .u8 (x:Int)] 0 0 false (some (2 * e)))):=by
 have h1:X5 e [.int .u8 0] 1 1 [(0,.int .u8 (x:Int))] m=some (.slice (some ⟨m.next,0,some 1⟩) 1 1,m.push (.cells [.int .u8 (x:Int)] 0 0 false (some (2 * e)))):=Eq.trans rfl rfl;rw [h1,X4];have hg:(m.push (.cells [.int .u8 (x:Int)] 0 0 false (some (2 * e)))).get m.next=some (.cells [.int .u8 (x:Int)] 0 0 false (some (2 * e))):=by rw [Mem.get_push,if_pos rfl]
 have hc:getCells (m.push (.cells [.int .u8 (x:Int)] 0 0 false (some (2 * e)))) ⟨m.next,0,some 0⟩ 1=some [.int .u8 (x:Int)]:=by
  simp [Xn,Xy,hg]
 have h2:conv .str (.slice (some ⟨m.next,0,some 1⟩) 1 1) (m.push (.cells [.int .u8 (x:Int)] 0 0 false (some (2 * e))))=some (sv [UInt8.ofNat x],m.push (.cells [.int .u8 (x:Int)] 0 0 false (some (2 * e)))):=by
  show (match getCells (m.push (.cells [.int .u8 (x:Int)] 0 0 false (some (2 * e)))) ⟨m.next,0,some (1 / 2)⟩ 1 with
   | some cs=>match X1g cs with | some l=>some (Value.string ⟨l.toArray⟩,m.push (.cells [.int .u8 (x:Int)] 0 0 false (some (2 * e)))) | none=>none
   | none=>none)=_
  rw [show 1 / 2=0 from rfl,hc];simp only [X1g,Int.toNat_natCast];rfl
 rw [h2,X4]
theorem Xfp {b n:Nat} (h:m.get b=some (.cells cs 0 0 false ty)) (hn:cs.length=n) (hv:vs.length=n) (h1:vs.all one=true) (hB:B <= b) :
  ∃ m',bp (unt (Xd n (pt b 0 0) (.agg ⟨vs⟩) m)) (fun _ m=>ob (ob (X8 true n (pt b 0 0) m) fun v=>ob (some tail) fun l=>some (v :: l)) fun l=>some (X1i l,m))=some (X1i (.agg ⟨vs⟩ :: tail),m')/\Fb B m m'/\m'.next=m.next:=by
 obtain ⟨m',k1,k2⟩:=X1u (o:=0) (c':=vs) (v:=.agg ⟨vs⟩) (n:=n) h hv (Nat.zero_le _) (by omega) h1 (by
  show [] ++ vs ++ cs.drop (0 + n)=vs;rw [List.drop_eq_nil_of_le (by omega)]; simp)
 have hg:m'.get b=some (.cells vs 0 0 false ty):=by rw [k2.get,Mem.get_put,if_pos rfl]
 have hl:X8 true n (pt b 0 0) m'=some (.agg ⟨vs⟩):=Xv hg (by omega) (by simp [<- hv]);refine ⟨m',?_,(((Fb.refl B _).put _ hB).meq k2),by rw [k2.next,Mem.next_put]⟩;rw [k1,Xo];simp only [hl,Xt1]
end Go.Ab
namespace Go.Ab.Sh
open Go Go.Ab Go.Lib
end Go.Ab.Sh
namespace Go.Ab
open Go Go.Lib
theorem X1a (k:IntKind) (z:Int) (m:Mem):again (pur (some (.int k z)) m) (.int k z)=true:=by
 show vsame 8 (.int k z) (.int k z)=true;simp [vsame]
theorem X1p (l:Str) (m:Mem):again (pur (some (sv l)) m) (sv l)=true:=by
 show vsame 8 (sv l) (sv l)=true;simp [vsame,sv]
abbrev pfx (a b:Int):Value:=.agg ⟨[.int .u32 a,I b]⟩
theorem X3q {m:Mem} {cs:List Value} {ty:Option Nat} {o:Nat} {v:Value} (h:cs[o]?=some v):X8 false 1 (pt m.next o 0) (m.push (.cells cs 0 0 false ty))=some v:=X12 (by rw [Mem.get_push,if_pos rfl]) h
def chk (a:Nat) (b:Int):Nat:=if b < 0\/32 < b then 1 else if a % 2 ^ (32 - b.toNat)=0 then 0 else 10
theorem Xj0 (c g:Bool) (a k:Nat) (ha:a < 4294967296) (hk:k <= 32):bin .and c g .int (.int .u32 (a:Int)) (.int .u32 ((2 ^ k - 1:Nat):Int))=some (.int .u32 ((a % 2 ^ k:Nat):Int)):=by
 have hp:2 ^ k <= 2 ^ 32:=Nat.pow_le_pow_right (by omega) hk;have hm:=Nat.mod_le a (2 ^ k);rw [X1z];simp only [binO,ne_eq,not_true_eq_false,if_false];have e2:(BitVec.ofInt IntKind.u32.bits (a:Int) &&& BitVec.ofInt IntKind.u32.bits ((2 ^ k - 1:Nat):Int)).toNat=a % 2 ^ k:=by
  show (BitVec.ofInt 32 (a:Int) &&& BitVec.ofInt 32 ((2 ^ k - 1:Nat):Int)).toNat=a % 2 ^ k;rw [BitVec.ofInt_natCast,BitVec.ofInt_natCast,BitVec.toNat_and,BitVec.toNat_ofNat,BitVec.toNat_ofNat,Nat.mod_eq_of_lt (by omega),Nat.mod_eq_of_lt (by omega)];exact Nat.and_two_pow_sub_one_eq_mod a k
 rw [e2];generalize a % 2 ^ k=r at hm;rw [IntWalk.u32_in _ (by omega)]
end Go.Ab
namespace Go.Ab.Sh
open Go Go.Ab Go.Lib
theorem c_behind (n:Nat) (hn:n <= 32) (d:Nat) (m:Mem):TA (d + 1) Qfv [I n] m=some (.int .u32 ((2 ^ (32 - n) - 1:Nat):Int),m):=by
 rw [Xfu];refine X16 (m1:=withLow m m.next) ?_ (.refl _ _) rfl;have hp:2 ^ (32 - n) <= 2 ^ 32:=Nat.pow_le_pow_right (by omega) (by omega);have hp1:1 <= 2 ^ (32 - n):=Nat.one_le_two_pow;have w1:IntKind.i64.wrap (32 - (n:Int))=((32 - n:Nat):Int):=by rw [IntWalk.i64_in _ (by omega)]; omega
 have hs:bin .shl true true .int (.int .u64 1) (.int .i64 ((32 - n:Nat):Int))=some (.int .u64 ((2 ^ (32 - n):Nat):Int)):=by
  rw [X1z];show (if ((32 - n:Nat):Int) < 0 then none else some (Value.int .u64 (IntKind.u64.wrap (1 * 2 ^ (min ((32 - n:Nat):Int).toNat 64)))))=_;rw [if_neg (by omega),Int.toNat_natCast,Nat.min_eq_left (by omega),Int.one_mul];have e:((2:Int) ^ (32 - n))=((2 ^ (32 - n):Nat):Int):=by rw [Int.natCast_pow]; rfl
  rw [e];generalize 2 ^ (32 - n)=q at hp hp1;rw [IntWalk.u64_in _ (by omega)]
 delta Qc4 F B K A;simp only [Qhs,w1,X3,hs,c_int,X4];generalize 2 ^ (32 - n)=q at hp hp1;rw [IntWalk.u64_in _ (by omega),IntWalk.u32_in _ (by omega)];congr 4;omega
theorem c_addrCheck (a:Nat) (ha:a < 4294967296) (b:Int) (d:Nat) (m:Mem):TA (d + 2) Qgm [pfx a b] m=some (I (chk a b),m):=by
 rw [Xh4];refine X16 (m1:=(withLow m m.next).push (.cells [.int .u32 (a:Int),I b] 0 0 false (some (2 * Q16 + 1)))) ?_ (Fb.push _ (Nat.le_refl _)) rfl;have l0:=X3q (m:=withLow m m.next) (cs:=[.int .u32 (a:Int),I b]) (ty:=some (2 * Q16 + 1)) (o:=0 + 0) rfl;have l1:=X3q (m:=withLow m m.next) (cs:=[.int .u32 (a:Int),I b]) (ty:=some (2 * Q16 + 1)) (o:=0 + 1) rfl;have ec:(Value.cells (pfx a b)).toList=[.int .u32 (a:Int),I b]:=rfl;delta Qe6 Qjw Qgv L C qj O H Q D qi P B K S A qf;rw [ec,Xp];simp only [X9,X3,l0,l1,Q1d,Qhr,Xt,X7];unfold chk;by_cases h1:b < 0
 ·rw [if_pos h1,if_pos (.inl h1)]; rfl
 rw [if_neg h1];by_cases h2:32 < b
 ·rw [if_pos h2,if_pos (.inr h2)]; rfl
 rw [if_neg h2,if_neg (by omega)];obtain ⟨n,rfl⟩:=Int.eq_ofNat_of_zero_le (by omega:0 <= b);simp only [c_behind n (by omega),X4,Xj0 _ _ a (32 - n) ha (by omega),X3,Q9y,Xt,Int.toNat_natCast,l0,X1a,Bool.and_true,Xr];by_cases h3:a % 2 ^ (32 - n)=0
 ·rw [if_neg (by rw [h3]; simp),if_pos h3]; rfl
 ·rw [if_pos (by intro h; exact h3 (by omega)),if_neg h3]; rfl
def Xjh (s:Str):Nat × Nat × Nat:=match cut 47 s with
 | none=>(0,0,4)
 | some (x,y)=>match Xds x,num 32 y with
  | some a,some b=>if a % 2 ^ (32 - b)=0 then (a,b,0) else (0,0,10)
  | _,_=>(0,0,4)
def Xvw (x:Nat × Nat × Nat):Value:=.tuple ⟨[pfx x.1 x.2.1,I x.2.2]⟩
theorem Xkz:∀ (ws:List Str) (acc n:Nat),Xmm acc ws=some n->n < (acc + 1) * 256 ^ ws.length
 | [],acc,n,h=>by cases h; simp
 | w :: ws,acc,n,h=>by
  unfold Xmm at h;cases hn:num 255 w with
  | none=>rw [hn] at h; cases h
  | some k =>
   rw [hn] at h;have h1:=Xkz ws _ n h;have h2:=(num_some.mp hn).2;rw [List.length_cons,Nat.pow_succ,Nat.mul_comm (256 ^ ws.length) 256,<- Nat.mul_assoc];exact Nat.lt_of_lt_of_le h1 (Nat.mul_le_mul_right _ (by omega))
theorem Xkg {s:Str} {n:Nat} (h:Xds s=some n):n < 4294967296:=by
 unfold Xds at h;split at h
 ·rename_i h4;have:=Xkz _ _ _ h;rw [h4] at this;simpa using this
 ·cases h
theorem aB2 (a b:Int):Xg Qq [(0,1),(1,1)] [(0,.int .u32 a),(1,I b)]=some (pfx a b):=Eq.trans rfl rfl
theorem aB0:Xg Qq [(0,1),(1,1)] []=some (pfx 0 0):=Eq.trans rfl rfl
theorem Xoh (a b:Int):(pfx a b).cells.toList=[.int .u32 a,I b]:=rfl
theorem c_addrPrefix (s:Str) (hs:s.length <= 4194304) (d:Nat) (m:Mem):TA (d + 5) Qc7 [sv s] m=some (Xvw (Xjh s),m):=by
 rw [X9n]
 -- the result's variable
 let m0:=(withLow m m.next).push (.cells Qq 0 0 false (some (2 * Q16 + 1)));have hm0:m0=(withLow m m.next).push (.cells Qq 0 0 false (some (2 * Q16 + 1))):=rfl;have g0:m0.get m.next=some (.cells [.int .u32 0,I 0] 0 0 false (some (2 * Q16 + 1))):=X9j (withLow m m.next) _;have F0:Fb m.next (withLow m m.next) m0:=Fb.push _ (Nat.le_refl _);have n0:m0.next=m.next + 1:=rfl;have body:∃ m1,Qas ⟨TA (d + 4),18446744073709551616⟩ (sv s) (pt m.next 0 0) m0=some (Xvw (Xjh s),m1)/\Fb m.next m0 m1:=by
  have e0:Value.string ⟨#[47]⟩=sv [47]:=rfl;obtain ⟨mE,r1,r2,_⟩:=Xfp (n:=2) (tail:=[I 4]) g0 rfl (vs:=[.int .u32 0,I 0]) rfl rfl (Nat.le_refl m.next);delta Qas Qfq Qfr Qfs Q7t C Q D qc B T qq S U A qf E;have hcut:TA (d + 4) Q4w [sv s,sv [47]] m0=_:=c_Cut s hs 47 (d + 2) m0;simp only [e0,hcut,X4];unfold Xjh;cases hc:cut 47 s with
  | none =>
   refine ⟨mE,?_,r2⟩;obtain ⟨z,n1,_⟩:=c_addrNumber [] (by simp) 32 (by omega) (d + 3) m0;have n1:TA (d + 4) Q7y [sv [],.int .i64 32] m0=_:=n1;simp only [ex0,ex1,ex2,X3,c_addrParse s hs d m0,X4,Xbi,Bool.not_false,X7,aB0];cases Xds s with
   | none=>simp only [Xhs,ex0,ex1,X3,n1,X4]; exact r1
   | some a=>simp only [Xhs,ex0,ex1,X3,n1,X4]; exact r1
  | some p =>
   obtain ⟨x,y⟩:=p;have hl:=X8s hc;obtain ⟨z,n1,n2⟩:=c_addrNumber y (by omega) 32 (by omega) (d + 3) m0;have n1:TA (d + 4) Q7y [sv y,.int .i64 32] m0=_:=n1;simp only [ex0,ex1,ex2,X3,c_addrParse x (by omega) d m0,X4,Xbi,Bool.not_true,X6];cases ha:Xds x with
   | none =>
    refine ⟨mE,?_,r2⟩;simp only [Xhs,ex0,ex1,X3,n1,X4,Xbi,Q9y,Xpz,aB0];cases hn:num 32 y with
    | none=>simp only [Option.isSome_none,Bool.not_false,if_true]; exact r1
    | some b=>simp only [Option.isSome_some,Bool.not_true,Bool.false_eq_true,if_false]; exact r1
   | some a =>
    have ha2:=Xkg ha;simp only [Xhs,ex0,ex1,X3,n1,X4,Xbi,Q9y,Xpz,aB0];cases hn:num 32 y with
    | none =>
     refine ⟨mE,?_,r2⟩;simp only [Option.isSome_none,Bool.not_false,if_true]; exact r1
    | some b =>
     have:=n2 b hn;subst this;have hb:=(num_some.mp hn).2
     -- the prefix itself
     obtain ⟨m2,q1,q2,q3,q4⟩:=X2c [] m0 (some (2 * Q16 + 1)) Qq (v:=pfx a b) (n:=2) rfl rfl rfl;have g2:m2.get m.next=some (.cells [.int .u32 0,I 0] 0 0 false (some (2 * Q16 + 1))):=by rw [q2.get m.next (by omega) (by simp)]; exact g0
     have F2:Fb m.next m0 m2:=Fr.toFb q2 (by omega);have lp:X8 true 2 (pt m0.next 0 0) m2=some (pfx a b):=Xv q4 (by show 0 + 2 <= 2; omega) rfl;have aB:=aB2 a b;simp only [Option.isSome_some,Bool.not_true,Bool.false_eq_true,if_false,ne_eq,not_true_eq_false,decide_false,aB,X3,Xp,q1,Xo,lp,c_addrCheck a ha2 b (d + 2) m2,X4];unfold chk;rw [if_neg (by omega),Int.toNat_natCast];by_cases h3:a % 2 ^ (32 - b)=0
     ·rw [if_pos h3,if_pos h3];obtain ⟨m3,r3,r4,_⟩:=Xfp (n:=2) (tail:=[I 0]) g2 rfl (vs:=[.int .u32 (a:Int),I b]) rfl rfl (Nat.le_refl m.next);refine ⟨m3,?_,F2.trans r4⟩;simp only [Q9y,X3,Xt];rw [if_neg (by simp)];simp only [lp,X3];exact r3
     ·rw [if_neg h3,if_neg h3];obtain ⟨m3,r3,r4,_⟩:=Xfp (n:=2) (tail:=[I 10]) g2 rfl (vs:=[.int .u32 0,I 0]) rfl rfl (Nat.le_refl m.next);refine ⟨m3,?_,F2.trans r4⟩;simp only [Q9y,X3,Xt];rw [if_pos (by simp)];exact r3
 obtain ⟨m1,k1,k2⟩:=body;refine X16 (m1:=m1) ?_ (F0.trans k2) rfl;delta Q73 S;rw [Xp];exact k1
end Go.Ab.Sh
namespace Go.Ab
open Go Go.Lib
end Go.Ab
namespace Go.Ab.Sh
open Go Go.Ab Go.Lib
theorem Xkv (z:Int) (h:Xfv z=true):(itoa z).length <= 21:=by
 obtain ⟨h1,h2⟩:=Xd9 h;unfold itoa;split
 ·have:=X6c z.natAbs (by omega); simp; omega
 ·have:=X6c z.toNat (by omega); omega
theorem X9s (a:Nat) (ha:a < 4294967296):(X24 a).length <= 83:=by
 have l1:=X6c (a / 16777216) (by omega);have l2:=X6c (a / 65536 % 256) (by omega);have l3:=X6c (a / 256 % 256) (by omega);have l4:=X6c (a % 256) (by omega);simp only [List.length_append,List.length_cons,List.length_nil];omega
def Xdo (a:Nat) (b:Int):Str:=X24 a ++ [47] ++ itoa b
end Go.Ab.Sh
namespace Go.Ab
open Go Go.Lib
def X2q (sep:Str) (ws:List Str):Str:=sep.intercalate ws
theorem Xhi:∀ (ws:List Str),strsOf (ws.map sv)=some (ws.map fun w=>⟨⟨w⟩⟩)
 | []=>rfl
 | w :: ws=>by
  show (match strsOf (ws.map sv) with | some l=>some (_ :: l) | none=>none)=_
  rw [Xhi ws]; rfl
theorem Xt8 {m:Mem} {b o r:Nat} {c:List Value} {fro:Nat} {ro:Bool} {ty:Option Nat} {ws:List Str} (h3:m.get b=some (.cells c (r / 2) fro ro ty)) (h4:o + ws.length <= c.length) (h5:∀ (i:Nat) (w:Str),ws[i]?=some w->c[o + i]?=some (sv w)) :
  getCells m ⟨b,o,some (r / 2)⟩ ws.length=some (ws.map sv):=by
 have:(c.drop o).take ws.length=ws.map sv:=by
  apply List.ext_getElem?;intro i;rw [List.getElem?_take,List.getElem?_drop,List.getElem?_map];by_cases hi:i < ws.length
  ·rw [if_pos hi];have hw:ws[i]?=some ws[i]:=List.getElem?_eq_getElem hi;rw [h5 i ws[i] hw,hw]; rfl
  ·rw [if_neg hi,List.getElem?_eq_none (by omega)]; rfl
 simp [Xn,Xy,h3,h4,this]
theorem Xvo (c g:Bool) (a k:Nat) (ha:a < 4294967296) (hk:k <= 32):bin .shr c g .int (.int .u32 (a:Int)) (I k)=some (.int .u32 ((a / 2 ^ k:Nat):Int)):=by
 rw [X1z];show (if ((k:Nat):Int) < 0 then none else some (Value.int .u32 ((a:Int).fdiv (2 ^ (min ((k:Nat):Int).toNat 32)))))=_;rw [if_neg (by omega),Int.toNat_natCast,Nat.min_eq_left hk];have e:((2:Int) ^ k)=((2 ^ k:Nat):Int):=by rw [Int.natCast_pow]; rfl
 rw [e,Int.fdiv_eq_ediv_of_nonneg _ (Int.natCast_nonneg _),<- Int.natCast_ediv]
end Go.Ab
namespace Go.Ab.Sh
open Go Go.Ab Go.Lib
theorem c_Join (v:Value) (ws:List Str) (sep:Str) (m:Mem) (h:SL m v ws) (hn:ws.length <= 140737488355328) (hl:(X2q sep ws).length <= 140737488355328) (d:Nat):TA d Q3t [v,sv sep] m=some (sv (X2q sep ws),m):=by
 refine Xdp (o:=Qse) (by kernel_rfl) ?_ d;obtain ⟨b,o,r,c,fro,ro,ty,rfl,h2,h3,h4,h5⟩:=h;show (if Q3t=Q3t then (match getCells m ⟨b,o,some (r / 2)⟩ ws.length with
   | some cs=>(match strsOf cs with
    | some l=>(match Nat.ble ws.length 140737488355328 && Nat.ble (Xet l ⟨⟨sep⟩⟩).length 140737488355328 with
     | true=>some (Value.string ⟨(Xet l ⟨⟨sep⟩⟩).toArray⟩,m)
     | false=>none)
    | none=>none)
   | none=>none) else none)=_
 rw [if_pos rfl,Xt8 h3 h4 h5];simp only [Xhi];have e:Xet (ws.map fun w=>(⟨⟨w⟩⟩:ByteArray)) ⟨⟨sep⟩⟩=X2q sep ws:=by
  unfold Xet X2q Lib.join;rw [List.map_map];congr 1;have:((fun x:ByteArray=>x.data.toList) ∘ fun w:Str=>(⟨⟨w⟩⟩:ByteArray))=id:=rfl;rw [this,List.map_id]
 rw [e,Nat.ble_eq.mpr hn,Nat.ble_eq.mpr hl];rfl
theorem Xx5 (b:Nat) (i:Nat) (h:i < 4):X20 4 1 (pt b 0 0) (I i)=some (pt b i 0):=by
 show (if (0:Int) <= (i:Int) && (i:Int) < (4:Nat) then some (Value.pointer (some ⟨b,0 + (i:Int).toNat * 1,some 0⟩)) else none)=_;have h1:(decide ((0:Int) <= (i:Int)) && decide ((i:Int) < (4:Nat)))=true:=by simp; omega
 rw [if_pos h1];simp
def part (a i:Nat):Nat:=a / 2 ^ (24 - 8 * i) % 256
theorem Xcr (a i:Nat):part a i < 256:=Nat.mod_lt _ (by omega)
theorem X9u (d:Nat) (a:Nat) (ha:a < 4294967296) (b:Nat) (ty:Option Nat):∀ (k i:Nat) (cs:List Value) (m:Mem) (j:Nat),i + k=4->k < j->cs.length=4->m.get b=some (.cells cs 0 0 false ty)->b < m.next->(∀ t,t < i->cs[t]?=some (sv (decDigits (part a t)))) ->
  ∃ m1,Qby ⟨TA d,18446744073709551616⟩ j (I i) (.int .u32 (a:Int)) (pt b 0 0) m=some (sv (X24 a),m1)/\Fr [b] m m1
 | 0,i,cs,m,j,hi,hj,hl,hb,hbn,hc=>by
  obtain ⟨j,rfl⟩:∃ q,j=q + 1:=⟨j - 1,by omega⟩
  have h4:i=4:=by omega
  subst h4;refine ⟨m,?_,.refl _ _⟩;have hsl:SL m (.slice (some ⟨b,0 + 0 * 1,some 1⟩) 4 1) [decDigits (part a 0),decDigits (part a 1),decDigits (part a 2),decDigits (part a 3)]:=by
   refine ⟨b,0,1,cs,0,false,ty,rfl,hbn,hb,by simp; omega,fun t w hw=>?_⟩;rw [Nat.zero_add]
   match t,hw with
   | 0,hw=>cases hw; exact hc 0 (by omega)
   | 1,hw=>cases hw; exact hc 1 (by omega)
   | 2,hw=>cases hw; exact hc 2 (by omega)
   | 3,hw=>cases hw; exact hc 3 (by omega)
  have hs:X3v 4 1 (pt b 0 0) none none m=some (.slice (some ⟨b,0 + 0 * 1,some 1⟩) 4 1):=by
   have hg:getCells m ⟨b,0,some 0⟩ (4 * 1)=some ((cs.drop 0).take (4 * 1)):=by
    simp [Xn,Xy,hb,hl]
   show (match getCells m ⟨b,0,some 0⟩ (4 * 1) with
    | none=>none
    | some _=>match bound none 4 4 with
     | some h=>match bound none 0 h with
      | some l=>if Nat.ble 1 1 then some (Value.slice (some ⟨b,0 + l * 1,some 1⟩) (h - l) (if h=4 then 2 * 0 + 1 else 2 * 0)) else none
      | none=>none
     | none=>none)=_
   rw [hg];rfl
  have l0:=X6c (part a 0) (by have:=Xcr a 0; omega);have l1:=X6c (part a 1) (by have:=Xcr a 1; omega);have l2:=X6c (part a 2) (by have:=Xcr a 2; omega);have l3:=X6c (part a 3) (by have:=Xcr a 3; omega);have hj2:X2q [46] [decDigits (part a 0),decDigits (part a 1),decDigits (part a 2),decDigits (part a 3)]=X24 a:=by
   have p0:part a 0=a / 16777216:=by show a / 2 ^ 24 % 256=_; rw [show (2:Nat) ^ 24=16777216 from rfl]; omega
   have p1:part a 1=a / 65536 % 256:=rfl;have p2:part a 2=a / 256 % 256:=rfl;have p3:part a 3=a % 256:=by show a / 2 ^ 0 % 256=_; rw [Nat.pow_zero,Nat.div_one]
   rw [p0,p1,p2,p3];simp [X2q,List.intercalate,List.intersperse]
  have hlen:=X9s a ha;have cj:=c_Join _ _ [46] m hsl (by simp) (by rw [hj2]; omega) d;have e0:Value.string ⟨#[46]⟩=sv [46]:=rfl;unfold Qby;delta Qkj F C D B N K T X A E;simp only [Q1d,X3,Xt];rw [if_neg (by omega)];simp only [hs,X3,e0,cj,X4,hj2]
 | k + 1,i,cs,m,j,hi,hj,hl,hb,hbn,hc=>by
  obtain ⟨j,rfl⟩:∃ q,j=q + 1:=⟨j - 1,by omega⟩
  have w1:IntKind.i64.wrap (8 * (i:Int))=((8 * i:Nat):Int):=by rw [IntWalk.i64_in _ (by omega)]; omega
  have w2:IntKind.i64.wrap (24 - ((8 * i:Nat):Int))=((24 - 8 * i:Nat):Int):=by rw [IntWalk.i64_in _ (by omega)]; omega
  have w3:IntKind.i64.wrap ((i:Int) + 1)=((i + 1:Nat):Int):=by rw [IntWalk.i64_in _ (by omega)]; omega
  have hp:=Xcr a i;have w4:IntKind.i64.wrap ((part a i:Nat):Int)=((part a i:Nat):Int):=by rw [IntWalk.i64_in _ (by omega)]
  have hdiv:a / 2 ^ (24 - 8 * i) < 4294967296:=Nat.lt_of_le_of_lt (Nat.div_le_self _ _) ha;have had:=Xj0 true true (a / 2 ^ (24 - 8 * i)) 8 hdiv (by omega);have had:bin .and true true .int (.int .u32 ((a / 2 ^ (24 - 8 * i):Nat):Int)) (.int .u32 255)=some (.int .u32 ((part a i:Nat):Int)):=had;obtain ⟨m',k1,k2⟩:=X1u (o:=i) (n:=1) (v:=sv (decDigits (part a i))) hb rfl (Nat.zero_le _) (by omega) rfl rfl;have hb':m'.get b=some (.cells (cs.take i ++ [sv (decDigits (part a i))] ++ cs.drop (i + 1)) 0 0 false ty):=by
   rw [k2.get,Mem.get_put,if_pos rfl]; rfl
  have hn':m'.next=m.next:=by rw [k2.next,Mem.next_put]
  obtain ⟨m1,q1,q2⟩:=X9u d a ha b ty k (i + 1) (cs.take i ++ [sv (decDigits (part a i))] ++ cs.drop (i + 1)) m' j (by omega) (by omega) (by simp; omega) hb' (by omega) (by
   intro t ht;have h1:(cs.take i).length=i:=by rw [List.length_take]; omega
   by_cases hti:t < i
   ·rw [List.append_assoc,List.getElem?_append_left (by omega),List.getElem?_take_of_lt hti];exact hc t hti
   ·have:t=i:=by omega
    subst this;rw [List.append_assoc,List.getElem?_append_right (by omega),h1,Nat.sub_self];rfl)
  refine ⟨m1,?_,(((Fr.refl _ _).put _ (.inl (by simp))).meq k2).trans q2⟩;unfold Qby;delta F C D B T X A;simp only [Q1d,X3,Xt];rw [if_pos (by omega)];simp only [Qus,w1,X3,Qhs,w2,Xvo _ _ a (24 - 8 * i) ha (by omega),had,c_int,w4,X4,c_ItoaN (part a i) (by omega),Xx5 b i (by omega),k1,Xo,Q35,w3];exact q1
theorem c_addrText (a:Nat) (ha:a < 4294967296) (d:Nat) (m:Mem):TA (d + 1) Q7b [.int .u32 (a:Int)] m=some (sv (X24 a),m):=by
 rw [Xk8];obtain ⟨m1,k1,k2⟩:=X9u d a ha m.next (some (2 * Qm8 + 1)) 4 0 Qm9 ((withLow m m.next).push (.cells Qm9 0 0 false (some (2 * Qm8 + 1)))) 18446744073709551616 (by omega) (by omega) rfl (X9j (withLow m m.next) _) (by show m.next < m.next + 1; omega) (by intro t ht; omega);have hF:Fr [] (withLow m m.next) m1:=by
  have h1:Fr [m.next] (withLow m m.next) m1:=((Fr.push (W:=[m.next]) _)).trans k2;refine ⟨h1.next,h1.low,fun x a b _=>h1.low2 x a b (by intro w hw; simp at hw; subst hw; exact b),fun b hb _=>h1.get b hb (by simp; intro e; subst e; exact absurd hb (Nat.lt_irrefl _)),h1.lo⟩
 refine X1t (m1:=m1) ?_ hF rfl;delta Qg0 Qkm Qkl Qkk S A;rw [Xp];exact k1
theorem c_addrPrefixText (a:Nat) (ha:a < 4294967296) (b:Int) (hb:Xfv b=true) (d:Nat) (m:Mem):TA (d + 2) Qa9 [pfx a b] m=some (sv (Xdo a b),m):=by
 rw [Xau];refine X16 (m1:=(withLow m m.next).push (.cells [.int .u32 (a:Int),I b] 0 0 false (some (2 * Q16 + 1)))) ?_ (Fb.push _ (Nat.le_refl _)) rfl;have l0:=X3q (m:=withLow m m.next) (cs:=[.int .u32 (a:Int),I b]) (ty:=some (2 * Q16 + 1)) (o:=0 + 0) rfl;have l1:=X3q (m:=withLow m m.next) (cs:=[.int .u32 (a:Int),I b]) (ty:=some (2 * Q16 + 1)) (o:=0 + 1) rfl;have e0:Value.string ⟨#[47]⟩=sv [47]:=rfl;have h1:=X9s a ha;have h2:=Xkv b hb;delta Q7x L C qj O H qi P B K S E;rw [Xoh,Xp];have c1:∀ m,TA (d + 1) Q7b [.int .u32 (a:Int)] m=some (sv (X24 a),m):=c_addrText a ha d;have c2:∀ m,TA (d + 1) Q21 [I b] m=some (sv (itoa b),m):=fun m=>c_Itoa b hb (d + 1) m;generalize haT:X24 a=T at *;simp only [X9,X3,l0,l1,c1,X4,X1a,Bool.and_true,Xr,e0,Q48 _ _ T [47] (by simp; omega),c2,Q48 _ _ (T ++ [47]) (itoa b) (by simp; omega)];unfold Xdo;rw [haT]
end Go.Ab.Sh
namespace Go.Ab
open Go Go.Lib
end Go.Ab
namespace Go.Ab.Sh
open Go Go.Ab Go.Lib
end Go.Ab.Sh
namespace Go.Ab
open Go Go.Lib
theorem Xu4:∀ (l:Str) (M acc u:Nat),parseUintM M acc l=.ok u->acc <= M->u <= M
 | [],M,acc,u,h,ha=>by cases h; exact ha
 | c :: r,M,acc,u,h,ha=>by
  unfold parseUintM at h;split at h
  ·split at h
   ·cases h
   ·split at h
    ·cases h
    ·exact Xu4 r M _ u h (by omega)
  ·cases h
theorem Xxq {B:Nat} {l:Str} {u:Nat} (h:parseUintB B l=.ok u):u <= 2 ^ B - 1:=by
 unfold parseUintB at h;split at h
 ·cases h
 ·exact Xu4 l _ 0 u h (Nat.zero_le _)
end Go.Ab
namespace Go.Ab.Sh
open Go Go.Ab Go.Lib
theorem c_Pu (B:Nat) (hB:B=16\/B=8) (s:Str) (hs:s.length <= 4194304) (d:Nat) (m:Mem):∃ u e m1,TA d Q9 [sv s,I 10,I B] m=some (.tuple ⟨[.int .u64 u,e]⟩,m1)/\Fr [] m m1 /\
  ((∃ n:Nat,parseUintB B s=.ok n/\u=n/\e=.nilIface)\/((∀ n,parseUintB B s ≠ .ok n)/\∃ p,e=.iface Qf (.pointer (some p)))):=by
 have key:∀ r,Qru Q9 [sv s,I 10,I B] m=some r->TA d Q9 [sv s,I 10,I B] m=some r:=fun r h=>Xdp (o:=Qru) (by kernel_rfl) h d;have e:Qru Q9 [sv s,I 10,I B] m=(match parseUintB B s with
   | .ok u=>some (.tuple #[.int .u64 u,.nilIface],m)
   | Lib.NumEnd.syntax=>errV (.int .u64 0) Qf m
   | .range=>errV (.int .u64 (2 ^ B - 1:Nat)) Qf m):=by
  have f16:∀ (z:Int) (Z:Nat),ovPu Q9 Qf z Z Q9 [sv s,I 10,I B] m=if (B:Int)=z then (match parseUintB Z s with
   | .ok u=>some (.tuple #[.int .u64 u,.nilIface],m)
   | Lib.NumEnd.syntax=>errV (.int .u64 0) Qf m
   | .range=>errV (.int .u64 (2 ^ Z - 1:Nat)) Qf m) else none:=by
   intro z Z;show (if Q9=Q9/\s.length <= 281474976710656/\(10:Int)=10/\(B:Int)=z then _ else none)=_;by_cases hz:(B:Int)=z
   ·rw [if_pos ⟨rfl,by omega,rfl,hz⟩,if_pos hz]; rfl
   ·rw [if_neg (by intro h; exact hz h.2.2.2),if_neg hz]
  show (match ovPu Q9 Qf 16 16 Q9 [sv s,I 10,I B] m with | some r=>some r | none=>ovPu Q9 Qf 8 8 Q9 [sv s,I 10,I B] m)=_
  rw [f16,f16];rcases hB with rfl | rfl
  ·rw [if_pos (by rfl)];cases parseUintB 16 s <;> rfl
  ·rw [if_neg (by omega),if_pos (by rfl)]
 rw [e] at key;cases h:parseUintB B s with
 | ok v =>
  rw [h] at key;exact ⟨v,.nilIface,m,key _ rfl,.refl _ _,.inl ⟨v,rfl,rfl,rfl⟩⟩
 | range =>
  rw [h] at key;exact ⟨_,_,_,key _ rfl,.push _,.inr ⟨by simp,_,rfl⟩⟩
 | _ =>
  rw [h] at key;exact ⟨0,_,_,key _ rfl,.push _,.inr ⟨by simp,_,rfl⟩⟩
end Go.Ab.Sh
namespace Go.Ab
open Go Go.Lib
theorem SL.block {m:Mem} {v:Value} {ws:List Str} (h:SL m v ws):∃ bs,bs < m.next/\(∀ m',m.next <= m'.next->m'.get bs=m.get bs->SL m' v ws)/\∀ n,refs n 8 v=Nat.blt bs n:=by
 obtain ⟨b,o,r,c,fro,ro,ty,rfl,h2,h3,h4,h5⟩:=h;exact ⟨b,h2,fun m' hn hg=>⟨b,o,r,c,fro,ro,ty,rfl,Nat.lt_of_lt_of_le h2 hn,by rw [hg]; exact h3,h4,h5⟩,fun n=>rfl⟩
theorem Xl0 {m:Mem} {b o:Nat} {cs:List Value} {ty:Option Nat} (h:m.get b=some (.cells cs 0 0 false ty)) (v:Value) (hv:v.cells.toList=[v]) (h1:one v=true) (ho:o + 1 <= cs.length) {B:Nat} (hB:B <= b) :
  ∃ m',Xd 1 (pt b o 0) v m=some m'/\Fb B m m'/\m'.next=m.next/\m'.get b=some (.cells (cs.take o ++ [v] ++ cs.drop (o + 1)) 0 0 false ty)/\∀ c,c ≠ b->m'.get c=m.get c:=by
 have hs:v.cells.size=1:=by rw [<- Array.length_toList,hv]; rfl
 obtain ⟨m',k1,k2⟩:=X1u (o:=o) (n:=1) (v:=v) h hs (Nat.zero_le _) ho (by rw [hv]; simp [h1]) rfl;refine ⟨m',k1,((Fb.refl B _).put _ hB).meq k2,by rw [k2.next,Mem.next_put],by rw [k2.get,Mem.get_put,if_pos rfl,hv],fun c hc=>by rw [k2.get,Mem.get_put,if_neg (fun e=>hc e.symm)]⟩
end Go.Ab
namespace Go.Ab.Sh
open Go Go.Ab Go.Lib
def cutO (c:UInt8) (w:Str):Str × Str × Bool:=match cut c w with | none=>(w,[],false) | some (x,y)=>(x,y,true)
theorem c_CutO (s:Str) (hs:s.length <= 4194304) (c:UInt8) (d:Nat) (m:Mem):TA (d + 2) Q4w [sv s,sv [c]] m=some (.tuple ⟨[sv (cutO c s).1,sv (cutO c s).2.1,.bool (cutO c s).2.2]⟩,m):=by
 rw [c_Cut s hs];unfold cutO;cases cut c s <;> rfl
theorem Xfe (c:UInt8) (w:Str):(cutO c w).1.length <= w.length/\(cutO c w).2.1.length <= w.length:=by
 unfold cutO;cases h:cut c w with
 | none=>simp
 | some p=>have:=X8s h; simp; omega
end Go.Ab.Sh
namespace Go.Ab
open Go Go.Lib
theorem Xq1 {c:UInt8} {x:Str} (y:Str) (h:c ∉ x):split c (x ++ c :: y)=x :: split c y:=X5i (Xpn y h)
theorem Xe2 (c:UInt8):∀ (n:Nat) (s:Str),s.length <= n->∀ ws,split c s=ws->s=X2q [c] ws/\∀ w ∈ ws,c ∉ w
 | n,s,hn,ws,h=>by
  cases hc:cut c s with
  | none =>
   rw [X7k hc] at h;subst h;refine ⟨by simp [X2q,List.intercalate],fun w hw=>?_⟩;simp only [List.mem_singleton] at hw;subst hw;exact Xo3 hc
  | some p =>
   obtain ⟨x,y⟩:=p;have hl:=X8s hc;rw [X5i hc] at h;subst h;cases n with
   | zero=>omega
   | succ n =>
    obtain ⟨q1,q2⟩:=Xe2 c n y (by omega) _ rfl;obtain ⟨e1,e2⟩:=Xig hc;refine ⟨?_,fun w hw=>?_⟩
    ·rw [e1];cases hs:split c y with
     | nil=>exact absurd hs (X4v c y)
     | cons a l =>
      rw [hs] at q1;rw [q1];simp [X2q,List.intercalate,List.intersperse]
    ·rcases List.mem_cons.mp hw with e | e
     ·subst e; exact e2
     ·exact q2 w e
theorem getB (l:Str) (i:Nat) (h:i < l.length):(⟨⟨l⟩⟩:ByteArray).get! i=l[i]:=by
 show (⟨l⟩:Array UInt8)[i]! = _;rw [getElem!_pos (⟨l⟩:Array UInt8) i h];rfl
theorem Xuf (l:Str) (i:Nat) (h:i < l.length) (hc:(l[i]).toNat < 128):Utf8.decode ⟨⟨l⟩⟩ i=((l[i]).toNat,1):=by
 unfold Utf8.decode;simp only [Nat.add_zero,getB l i h];rw [if_pos hc]
theorem Xya (l:Str) (i:Nat) (h:i < l.length) (hc:128 <= (l[i]).toNat):128 <= (Utf8.decode ⟨⟨l⟩⟩ i).1/\((Utf8.decode ⟨⟨l⟩⟩ i).1=65533\/Utf8.valid ((Utf8.decode ⟨⟨l⟩⟩ i).1:Int)=true):=by
 unfold Utf8.decode;simp only [Nat.add_zero,getB l i h];rw [if_neg (by omega)];split
 ·rename_i h2;split
  ·rename_i h3;refine ⟨h3,.inr ?_⟩;have:=Nat.mod_lt (l[i]).toNat (by omega:0 < 32);have:=Nat.mod_lt ((⟨⟨l⟩⟩:ByteArray).get! (i + 1)).toNat (by omega:0 < 64);unfold Utf8.valid;simp;omega
  ·exact ⟨by show 128 <= Utf8.runeError; unfold Utf8.runeError; omega,.inl rfl⟩
 ·split
  ·split
   ·rename_i h3;simp only [Bool.and_eq_true,decide_eq_true_eq] at h3;exact ⟨by have:=h3.1; omega,.inr h3.2⟩
   ·exact ⟨by show 128 <= Utf8.runeError; unfold Utf8.runeError; omega,.inl rfl⟩
  ·split
   ·split
    ·rename_i h3;simp only [Bool.and_eq_true,decide_eq_true_eq] at h3;exact ⟨by have:=h3.1; omega,.inr h3.2⟩
    ·exact ⟨by show 128 <= Utf8.runeError; unfold Utf8.runeError; omega,.inl rfl⟩
   ·exact ⟨by show 128 <= Utf8.runeError; unfold Utf8.runeError; omega,.inl rfl⟩
def isL (c:UInt8):Bool:=decide (97 <= c.toNat/\c.toNat <= 122\/65 <= c.toNat/\c.toNat <= 90)
def isO (c:UInt8):Bool:=decide (48 <= c.toNat/\c.toNat <= 57\/c.toNat=45\/c.toNat=95\/c.toNat=46\/c.toNat=47)
def Xp6 (s:Str):Bool:=match s with
 | []=>false
 | a :: r=>decide (s.length <= 32) && (isL a && r.all fun c=>isL c || isO c)
def nmGo:Bool->Str->Bool
 | _,[]=>true
 | true,a :: r=>isL a && nmGo false r
 | false,a :: r=>(isL a || isO a) && nmGo false r
theorem Xen:∀ (r:Str),nmGo false r=r.all fun c=>isL c || isO c
 | []=>rfl
 | a :: r=>by
  show ((isL a || isO a) && nmGo false r)=_;rw [Xen r]; rfl
theorem Xt0 (s:Str):Xp6 s=(decide (s ≠ []) && (decide (s.length <= 32) && nmGo true s)):=by
 cases s with
 | nil=>rfl
 | cons a r =>
  show (decide _ && (isL a && r.all _))=(decide _ && (decide _ && (isL a && nmGo false r)));rw [Xen];simp
end Go.Ab
namespace Go.Ab.Sh
open Go Go.Ab Go.Lib
variable {b i:Nat} {l:Str} {m:Mem}
theorem c_IdxByte (s:Str) (c:Nat) (hc:c < 256) (d:Nat) (m:Mem):TA d Q1p [sv s,.int .u8 (c:Int)] m=some (I (indexByte s (UInt8.ofNat c)),m):=by
 refine Xdp (o:=Qpa) (by kernel_rfl) ?_ d;show (if Q1p=Q1p/\IntKind.u8=IntKind.u8 then (match some (Xam s (c:Int)) with | some v=>some (v,m) | none=>none) else none)=_
 rw [if_pos ⟨rfl,rfl⟩,Xak,Int.toNat_natCast]
theorem c_IndexByte (s:Str) (c:Nat) (hc:c < 256) (d:Nat) (m:Mem):TA (d + 1) Q8k [sv s,.int .u8 (c:Int)] m=some (I (indexByte s (UInt8.ofNat c)),m):=by
 rw [X85];refine X16 (m1:=withLow m m.next) ?_ (.refl _ _) rfl;delta Q5x C K;simp only [c_IdxByte s c hc,X4]
abbrev odd4:Str:=[45,95,46,47]
theorem Xqz (c:UInt8):(indexByte odd4 c < 0) ↔ ¬ (c.toNat=45\/c.toNat=95\/c.toNat=46\/c.toNat=47):=by
 by_cases h1:c=45
 ·subst h1; decide
 by_cases h2:c=95
 ·subst h2; decide
 by_cases h3:c=46
 ·subst h3; decide
 by_cases h4:c=47
 ·subst h4; decide
 have n1:¬ c.toNat=45:=fun h=>h1 (UInt8.toNat_inj.mp h);have n2:¬ c.toNat=95:=fun h=>h2 (UInt8.toNat_inj.mp h);have n3:¬ c.toNat=46:=fun h=>h3 (UInt8.toNat_inj.mp h);have n4:¬ c.toNat=47:=fun h=>h4 (UInt8.toNat_inj.mp h);have e1:((45:UInt8) == c)=false:=by simp; exact fun h=>h1 h.symm
 have e2:((95:UInt8) == c)=false:=by simp; exact fun h=>h2 h.symm
 have e3:((46:UInt8) == c)=false:=by simp; exact fun h=>h3 h.symm
 have e4:((47:UInt8) == c)=false:=by simp; exact fun h=>h4 h.symm
 simp [indexByte,e1,e2,e3,e4,n1,n2,n3,n4]
theorem Xtp (l:Str) (c:UInt8) (hc:128 <= c.toNat) (hl:∀ x ∈ l,x.toNat < 128):indexByte l c=-1:=by
 induction l with
 | nil=>rfl
 | cons a l ih =>
  have e:(a == c)=false:=by
   simp;intro h;subst h;have:=hl a (by simp);omega
  unfold indexByte;rw [e,ih (fun x hx=>hl x (List.mem_cons_of_mem _ hx))];rfl
theorem c_Rune_lo (c:Nat) (hc:c < 128) (d:Nat) (m:Mem):TA (d + 2) Q28 [sv odd4,.int .i32 (c:Int)] m=some (I (indexByte odd4 (UInt8.ofNat c)),m):=by
 rw [X4i];refine X16 (m1:=withLow m m.next) ?_ (.refl _ _) rfl;have w:IntKind.u8.wrap (c:Int)=c:=by rw [IntWalk.u8_in _ (by omega)]
 delta Q2r Q74 Q4n F C Q D B K qg qe;simp only [Qlh,X3,Xt,if_pos (Int.natCast_nonneg c),Q1d,if_pos (by omega:(c:Int) < 128),c_int,w,X4,c_IndexByte odd4 c (by omega)]
theorem c_ValidRune (c:Nat) (hv:Utf8.valid (c:Int)=true) (d:Nat) (m:Mem):TA (d + 1) Q7m [.int .i32 (c:Int)] m=some (.bool true,m):=by
 rw [X57];refine X16 (m1:=withLow m m.next) ?_ (.refl _ _) rfl;unfold Utf8.valid at hv;simp at hv;delta Q33 Qa7 Q6b Q6c Q D B K qe qf;simp only [Qlh,X3,Xt,if_pos (Int.natCast_nonneg c),Q1d];by_cases h1:(c:Int) < 55296
 ·rw [if_pos h1]
 ·rw [if_neg h1,if_pos (by omega),if_pos (by omega)]
theorem Xrv (c:Nat) (h:128 <= c) (hv:Utf8.valid (c:Int)=true):∃ pre x,Utf8.encode (c:Int)=⟨⟨pre ++ [x]⟩⟩/\1 <= pre.length/\pre.length <= 3/\128 <= x.toNat:=by
 have hx:128 <= (UInt8.ofNat (0x80 + c % 64)).toNat:=by
  have:=Nat.mod_lt c (by omega:0 < 64);rw [UInt8.toNat_ofNat'];omega
 unfold Utf8.encode;simp only [hv,if_true,Int.toNat_natCast];rw [if_neg (by omega)];split
 ·exact ⟨[UInt8.ofNat (0xC0 + c / 64)],UInt8.ofNat (0x80 + c % 64),rfl,by simp,by simp,hx⟩
 ·split
  ·exact ⟨[UInt8.ofNat (0xE0 + c / 4096),UInt8.ofNat (0x80 + c / 64 % 64)],UInt8.ofNat (0x80 + c % 64),rfl,by simp,by simp,hx⟩
  ·exact ⟨[UInt8.ofNat (0xF0 + c / 262144),UInt8.ofNat (0x80 + c / 4096 % 64),UInt8.ofNat (0x80 + c / 64 % 64)],UInt8.ofNat (0x80 + c % 64),rfl,by simp,by simp,hx⟩
theorem Xvx (l:Str) (k:Nat) (hk:k <= l.length) (z:Int) (hz:z=k):Xw (sv l) (some (I z)) none=some (sv (l.drop k)):=by subst hz; exact X9c l k hk
theorem c_Rune_hi (c:Nat) (hc:128 <= c) (hv:c=65533\/Utf8.valid (c:Int)=true) (d:Nat) (m:Mem):TA (d + 3) Q28 [sv odd4,.int .i32 (c:Int)] m=some (I (-1),m):=by
 rw [X4i];have h0:¬ ((c:Int) < 128):=by omega
 by_cases he:c=65533
 ·subst he;have nx:∀ (m:Mem) (b i:Nat),m.get b=some (.siter ⟨⟨odd4⟩⟩ i)->(hi:i < 4)->X45 (pt b 0 0) m=some (.tuple ⟨[.bool true,I i,.int .i32 ((odd4[i]).toNat:Int)]⟩,m.put b (.siter ⟨⟨odd4⟩⟩ (i + 1))):=by
   intro m b i hg hi;have hdec:Utf8.decode ⟨⟨odd4⟩⟩ i=((odd4[i]).toNat,1):=Xuf odd4 i hi (by
    have hlow:∀ y ∈ odd4,y.toNat < 128:=by decide
    exact hlow _ (List.getElem_mem _))
   show (match m.get b with
    | some (.siter s pos)=>if pos < s.size then (let (c,w):=Utf8.decode s pos; some (Value.tuple #[.bool true,.int .i64 pos,.int .i32 c],m.put b (.siter s (pos + w)))) else some (Value.tuple #[.bool false],m)
    | _=>none)=_
   rw [hg];show (if i < 4 then (let (c,w):=Utf8.decode ⟨⟨odd4⟩⟩ i; some (Value.tuple #[.bool true,.int .i64 i,.int .i32 c],m.put b (.siter ⟨⟨odd4⟩⟩ (i + w)))) else some (Value.tuple #[.bool false],m))=_;rw [if_pos hi,hdec]
  have nE:∀ (m:Mem) (b:Nat),m.get b=some (.siter ⟨⟨odd4⟩⟩ 4)->X45 (pt b 0 0) m=some (.tuple ⟨[.bool false]⟩,m):=by
   intro m b hg;show (match m.get b with
    | some (.siter s pos)=>if pos < s.size then (let (c,w):=Utf8.decode s pos; some (Value.tuple #[.bool true,.int .i64 pos,.int .i32 c],m.put b (.siter s (pos + w)))) else some (Value.tuple #[.bool false],m)
    | _=>none)=_
   rw [hg];rfl
  have loop:∀ (k i j:Nat) (m1:Mem) (b:Nat),i + k=4->k < j->m.next <= b->m1.get b=some (.siter ⟨⟨odd4⟩⟩ i)->∃ m2,Q4o ⟨TA (d + 2),18446744073709551616⟩ j (pt b 0 0) m1=some (I (-1),m2)/\Fb m.next m1 m2:=by
   intro k
   induction k with
   | zero =>
    intro i j m1 b hi hj hb hg;obtain ⟨j,rfl⟩:∃ q,j=q + 1:=⟨j - 1,by omega⟩
    have hi4:i=4:=by omega
    subst hi4;refine ⟨m1,?_,.refl _ _⟩;unfold Q4o;delta Qe8 F Q D K U qg A;simp only [nE m1 b hg,X4,ex0,X3,X6]
   | succ k ih =>
    intro i j m1 b hi hj hb hg;obtain ⟨j,rfl⟩:∃ q,j=q + 1:=⟨j - 1,by omega⟩
    obtain ⟨m2,q1,q2⟩:=ih (i + 1) j (m1.put b (.siter ⟨⟨odd4⟩⟩ (i + 1))) b (by omega) (by omega) hb (by rw [Mem.get_put,if_pos rfl]);refine ⟨m2,?_,((Fb.refl _ _).put _ hb).trans q2⟩;have hne:¬ (((odd4[i]'(by show i < 4; omega)).toNat:Int)=65533):=by
     have:=UInt8.toNat_lt (odd4[i]'(by show i < 4; omega));omega
    unfold Q4o;delta F Q D K U qg;simp only [nx m1 b i hg (by omega),X4,ex0,ex1,ex2,X3,X7,Q79,Xt,if_neg hne];exact q1
  obtain ⟨m2,q1,q2⟩:=loop 4 0 18446744073709551616 ((withLow m m.next).push (.siter ⟨⟨odd4⟩⟩ 0)) m.next rfl (by omega) (Nat.le_refl _) (X9j (withLow m m.next) _);refine X16 (m1:=m2) ?_ ((Fb.push (m:=withLow m m.next) _ (Nat.le_refl _)).trans q2) rfl;have hr:X3w (sv odd4) (withLow m m.next)=some (pt m.next 0 0,(withLow m m.next).push (.siter ⟨⟨odd4⟩⟩ 0)):=rfl;delta Q2r Q74 Q4n Q9z Qe9 F C Q D B K qg qe;simp only [Qlh,X3,Xt,if_pos (Int.natCast_nonneg 65533),Q1d,if_neg h0,Q79];rw [if_pos (by rfl)];simp only [hr,X4];exact q1
 ·have hv:Utf8.valid (c:Int)=true:=hv.resolve_left he;obtain ⟨pre,x,e1,e2,e3,e4⟩:=Xrv c hc hv;refine X16 (m1:=withLow m m.next) ?_ (.refl _ _) rfl;have hcv:conv .intStr (.int .i32 (c:Int)) (withLow m m.next)=some (sv (pre ++ [x]),withLow m m.next):=by
   show some (Value.string (Utf8.encode (c:Int)),withLow m m.next)=_;rw [e1]; rfl
  have w1:IntKind.i64.wrap (((pre ++ [x]).length:Int) - 1)=(pre.length:Int):=by rw [IntWalk.i64_in _ (by simp; omega)]; simp
  have w2:IntKind.i64.wrap ((pre.length:Int) + 1)=((pre.length + 1:Nat):Int):=by rw [IntWalk.i64_in _ (by omega)]; omega
  have hne:¬ ((c:Int)=65533):=by omega
  have lt4:(pre.length:Int) < (odd4.length:Int):=by show (pre.length:Int) < (4:Nat); omega
  have o4:odd4.length=4:=rfl;have hlow:∀ y ∈ odd4,y.toNat < 128:=by decide
  have hix:(odd4[pre.length]'(by rw [o4]; omega)).toNat < 128:=hlow _ (List.getElem_mem _);have hpx:(pre ++ [x])[pre.length]'(by simp)=x:=by simp
  have hxl:=UInt8.toNat_lt x;have hd:indexByte (odd4.drop (pre.length + 1)) (UInt8.ofNat x.toNat)=-1:=by
   have:UInt8.ofNat x.toNat=x:=by apply UInt8.toNat_inj.mp; rw [UInt8.toNat_ofNat']; omega
   rw [this];exact Xtp _ x e4 (fun y hy=>hlow y (List.mem_of_mem_drop hy))
  have cI:=c_IndexByte (odd4.drop (pre.length + 1)) x.toNat hxl (d + 1) (withLow m m.next);rw [hd] at cI;delta Q2r Q74 Q4n Q9z Qea Qeb Qec Qed Qd2 F C Q D B N K qg qe A;simp only [Qlh,X3,Xt,if_pos (Int.natCast_nonneg c),Q1d,if_neg h0,Q79,if_neg hne,c_ValidRune c hv (d + 1),X4,Xbi,Bool.not_true,X6,hcv,X36,Qhs,w1];show Q19 ⟨TA (d + 2),18446744073709551616⟩ (18446744073709551615 + 1) _ _ _ _ _=_;unfold Q19;delta Qd3 C D B N K X A qh;have i1:=X56 odd4 .i64 pre.length (by rw [o4]; omega);have i2:=X56 (pre ++ [x]) .i64 pre.length (by simp);rw [hpx] at i2;have hq:((odd4[pre.length]'(by rw [o4]; omega)).toNat:Int) ≠ (x.toNat:Int):=by omega
  simp only [X36,X3,Q1d,Xt,if_pos lt4,i1,i2,Q9y,if_pos hq,Q35,w2,X9c odd4 (pre.length + 1) (by rw [o4]; omega),cI,X4];rfl
theorem Xns {β:Type} (c:UInt8) (f:Bool->Option β) :
  (if (97:Int) <= (c.toNat:Int) then (if (c.toNat:Int) <= 122 then f true else if (65:Int) <= (c.toNat:Int) then f (decide ((c.toNat:Int) <= 90)) else f false) else if (65:Int) <= (c.toNat:Int) then f (decide ((c.toNat:Int) <= 90)) else f false)=f (isL c):=by
 by_cases h1:(97:Int) <= (c.toNat:Int)
 ·rw [if_pos h1];by_cases h2:(c.toNat:Int) <= 122
  ·rw [if_pos h2,show isL c=true by unfold isL; simp; omega]
  ·rw [if_neg h2,if_pos (by omega),show decide ((c.toNat:Int) <= 90)=false by simp; omega,show isL c=false by unfold isL; simp; omega]
 ·rw [if_neg h1];by_cases h3:(65:Int) <= (c.toNat:Int)
  ·rw [if_pos h3];congr 1;unfold isL;rw [decide_eq_decide];omega
  ·rw [if_neg h3,show isL c=false by unfold isL; simp; omega]
theorem Xnv (hg:m.get b=some (.siter ⟨⟨l⟩⟩ i)) (hi:i < l.length):X45 (pt b 0 0) m=some (.tuple ⟨[.bool true,I i,.int .i32 ((Utf8.decode ⟨⟨l⟩⟩ i).1:Int)]⟩,m.put b (.siter ⟨⟨l⟩⟩ (i + (Utf8.decode ⟨⟨l⟩⟩ i).2))):=by
 show (match m.get b with
  | some (.siter s pos)=>if pos < s.size then (let (c,w):=Utf8.decode s pos; some (Value.tuple #[.bool true,.int .i64 pos,.int .i32 c],m.put b (.siter s (pos + w)))) else some (Value.tuple #[.bool false],m)
  | _=>none)=_
 rw [hg];show (if i < l.length then (let (c,w):=Utf8.decode ⟨⟨l⟩⟩ i; some (Value.tuple #[.bool true,.int .i64 i,.int .i32 c],m.put b (.siter ⟨⟨l⟩⟩ (i + w)))) else some (Value.tuple #[.bool false],m))=_;rw [if_pos hi]
theorem Xta (hg:m.get b=some (.siter ⟨⟨l⟩⟩ i)) (hi:¬ i < l.length):X45 (pt b 0 0) m=some (.tuple ⟨[.bool false]⟩,m):=by
 show (match m.get b with
  | some (.siter s pos)=>if pos < s.size then (let (c,w):=Utf8.decode s pos; some (Value.tuple #[.bool true,.int .i64 pos,.int .i32 c],m.put b (.siter s (pos + w)))) else some (Value.tuple #[.bool false],m)
  | _=>none)=_
 rw [hg];show (if i < l.length then _ else _)=_;rw [if_neg hi]
theorem Xbb (d:Nat) (B:Nat) (s:Str) (hs:s.length <= 4194304) (b:Nat) (hB:B <= b):∀ (rest pre:Str) (m:Mem) (k:Nat),s=pre ++ rest->rest.length < k->m.get b=some (.siter ⟨⟨s⟩⟩ pre.length) ->
  ∃ m1,Q2v ⟨TA (d + 3),18446744073709551616⟩ k (pt b 0 0) m=some (.bool (nmGo (decide (pre=[])) rest),m1)/\Fb B m m1
 | [],pre,m,k,he,hk,hg=>by
  obtain ⟨k,rfl⟩:∃ q,k=q + 1:=⟨k - 1,by omega⟩
  refine ⟨m,?_,.refl _ _⟩;have hn:¬ pre.length < s.length:=by rw [he]; simp
  unfold Q2v;delta Qi7 Qll F Q K U qf;simp only [Xta hg hn,X4,ex0,X3,X6];cases decide (pre=[]) <;> rfl
 | a :: rest,pre,m,k,he,hk,hg=>by
  obtain ⟨k,rfl⟩:∃ q,k=q + 1:=⟨k - 1,by omega⟩
  have hl:pre.length < s.length:=by rw [he]; simp
  have hix:s[pre.length]=a:=by simp [he]
  have e0:Value.string ⟨#[45,95,46,47]⟩=sv odd4:=rfl;have hF:Fb B m (m.put b (.siter ⟨⟨s⟩⟩ (pre.length + (Utf8.decode ⟨⟨s⟩⟩ pre.length).2))):=(Fb.refl _ _).put _ hB;unfold Q2v;delta Qi7 Qln Qlm F Q D B U qe qf;simp only [Xnv hg hl,X4,ex0,ex1,ex2,X3,X7,Qlg,Qlh,Xt];by_cases hlo:a.toNat < 128
  ·have hdec:=Xuf s pre.length hl (by rw [hix]; exact hlo);rw [hix] at hdec;rw [hdec] at hF ⊢;simp only at hF ⊢;rw [Xns a fun p5=>Q7h ⟨TA (d + 3),18446744073709551616⟩ (Q2v ⟨TA (d + 3),18446744073709551616⟩ k) (.bool p5) (I pre.length) (.int .i32 (a.toNat:Int)) (pt b 0 0) (m.put b (.siter ⟨⟨s⟩⟩ (pre.length + 1)))];obtain ⟨m1,q1,q2⟩:=Xbb d B s hs b hB rest (pre ++ [a]) (m.put b (.siter ⟨⟨s⟩⟩ (pre.length + 1))) k (by rw [he]; simp) (by simp at hk; omega) (by rw [Mem.get_put,if_pos rfl]; simp);have hnp:decide (pre ++ [a]=[])=false:=by simp
   rw [hnp] at q1;delta Q7h Q95 C Q D B K qg qe A qf E;simp only [Xbi,X3,Xpz];cases hL:isL a with
   | true =>
    refine ⟨m1,?_,hF.trans q2⟩;simp only [Bool.not_true,Bool.false_eq_true,if_false];rw [q1];have:nmGo (decide (pre=[])) (a :: rest)=nmGo false rest:=by
     cases decide (pre=[])
     ·show ((isL a || isO a) && nmGo false rest)=_;rw [hL]; simp
     ·show (isL a && nmGo false rest)=_;rw [hL]; simp
    rw [this]
   | false =>
    simp only [Bool.not_false,if_true,Q79,X3,Xt];by_cases hp:pre=[]
    ·subst hp;refine ⟨_,?_,hF⟩;rw [if_pos (by rfl)];have:nmGo (decide (([]:Str)=[])) (a :: rest)=false:=by
      show (isL a && nmGo false rest)=_;rw [hL]; rfl
     rw [this]
    ·have hp0:¬ ((pre.length:Int)=0):=by
      intro h;exact hp (List.length_eq_zero_iff.mp (by omega))
     rw [if_neg hp0];have hgo:nmGo (decide (pre=[])) (a :: rest)=(isO a && nmGo false rest):=by
      rw [show decide (pre=[])=false by simpa using hp];show ((isL a || isO a) && nmGo false rest)=_;rw [hL]; simp
     rw [hgo];have ofa:UInt8.ofNat a.toNat=a:=by apply UInt8.toNat_inj.mp; rw [UInt8.toNat_ofNat']; have:=UInt8.toNat_lt a; omega
     have cR:=c_Rune_lo a.toNat hlo (d + 1) (m.put b (.siter ⟨⟨s⟩⟩ (pre.length + 1)));rw [ofa] at cR;have cR:TA (d + 3) Q28 [sv odd4,.int .i32 (a.toNat:Int)] (m.put b (.siter ⟨⟨s⟩⟩ (pre.length + 1)))=_:=cR;simp only [Q1d,X3,Xt,e0,cR,X4,Qhr,Xpz,decide_eq_true_eq]
     -- what is no digit is looked up
     have look:(if indexByte odd4 a < 0 then some (Value.bool false,m.put b (.siter ⟨⟨s⟩⟩ (pre.length + 1))) else Q2v ⟨TA (d + 3),18446744073709551616⟩ k (pt b 0 0) (m.put b (.siter ⟨⟨s⟩⟩ (pre.length + 1))))=some (.bool (decide (a.toNat=45\/a.toNat=95\/a.toNat=46\/a.toNat=47) && nmGo false rest),if indexByte odd4 a < 0 then m.put b (.siter ⟨⟨s⟩⟩ (pre.length + 1)) else m1):=by
      by_cases hi:indexByte odd4 a < 0
      ·rw [if_pos hi,if_pos hi];have:=(Xqz a).mp hi;rw [decide_eq_false this]; rfl
      ·rw [if_neg hi,if_neg hi,q1];have:a.toNat=45\/a.toNat=95\/a.toNat=46\/a.toNat=47:=Decidable.byContradiction fun h=>hi ((Xqz a).mpr h);rw [decide_eq_true this]; rfl
     have hF3:Fb B m (if indexByte odd4 a < 0 then m.put b (.siter ⟨⟨s⟩⟩ (pre.length + 1)) else m1):=by
      split
      ·exact hF
      ·exact hF.trans q2
     by_cases h48:(a.toNat:Int) < 48
     ·rw [if_pos h48,look];refine ⟨_,?_,hF3⟩;have:isO a=decide (a.toNat=45\/a.toNat=95\/a.toNat=46\/a.toNat=47):=by unfold isO; rw [decide_eq_decide]; omega
      rw [this]
     ·rw [if_neg h48];by_cases h57:(57:Int) < (a.toNat:Int)
      ·rw [if_pos h57,look];refine ⟨_,?_,hF3⟩;have:isO a=decide (a.toNat=45\/a.toNat=95\/a.toNat=46\/a.toNat=47):=by unfold isO; rw [decide_eq_decide]; omega
       rw [this]
      ·rw [if_neg h57];refine ⟨m1,?_,hF.trans q2⟩;simp only [Bool.false_eq_true,if_false];rw [q1];have:isO a=true:=by unfold isO; simp; omega
       rw [this]; rfl
  ·have hhi:128 <= a.toNat:=by omega
   obtain ⟨h1,h2⟩:=Xya s pre.length hl (by rw [hix]; exact hhi);generalize hr:(Utf8.decode ⟨⟨s⟩⟩ pre.length).1=r at h1 h2;have hLa:isL a=false:=by unfold isL; simp; omega
   have hOa:isO a=false:=by unfold isO; simp; omega
   have hgo:nmGo (decide (pre=[])) (a :: rest)=false:=by
    cases decide (pre=[])
    ·show ((isL a || isO a) && _)=_;rw [hLa,hOa]; rfl
    ·show (isL a && _)=_;rw [hLa]; rfl
   refine ⟨_,?_,hF⟩;rw [hgo];have r1:(97:Int) <= (r:Int):=by omega
   have r2:¬ ((r:Int) <= 122):=by omega
   have r3:(65:Int) <= (r:Int):=by omega
   have r4:¬ ((r:Int) <= 90):=by omega
   have r5:¬ ((r:Int) < 48):=by omega
   have r6:(57:Int) < (r:Int):=by omega
   delta Q7h Q95 C Q D B K qg qe A qf E;have cR:∀ m,TA (d + 3) Q28 [sv odd4,.int .i32 (r:Int)] m=some (I (-1),m):=fun m=>c_Rune_hi r h1 h2 d m;have dR:decide ((r:Int) <= 90)=false:=decide_eq_false r4;simp only [if_pos r1,if_neg r2,if_pos r3,dR,Xbi,X3,Bool.not_false,X7,Q79,Xt,Q1d,if_neg r5,Qhr,if_pos r6,e0,cR,X4];by_cases hp:(pre.length:Int)=0
   ·rw [if_pos hp]
   ·rw [if_neg hp];rfl
theorem c_lexName (s:Str) (hs:s.length <= 4194304) (d:Nat) (m:Mem):TA (d + 4) Qlb [sv s] m=some (.bool (Xp6 s),m):=by
 rw [Xnc];have e0:Value.string ⟨#[]⟩=sv []:=rfl;rw [Xt0];delta Qgq Qlq Qhm Q D B N K qe A qd qf E;simp only [e0,Qw,X3,Xt,X7,X36,Qhr];by_cases h0:s=[]
 ·rw [if_pos h0,decide_eq_false (by simpa using h0)];exact X16 rfl (.refl _ _) rfl
 ·rw [if_neg h0,decide_eq_true h0,Bool.true_and];by_cases h1:(32:Int) < s.length
  ·rw [if_pos h1,decide_eq_false (by omega)];exact X16 rfl (.refl _ _) rfl
  ·rw [if_neg h1,decide_eq_true (by omega),Bool.true_and];obtain ⟨m1,q1,q2⟩:=Xbb d m.next s hs m.next (Nat.le_refl _) s [] ((withLow m m.next).push (.siter ⟨⟨s⟩⟩ 0)) 18446744073709551616 rfl (by omega) (X9j (withLow m m.next) _);refine X16 (m1:=m1) ?_ ((Fb.push (m:=withLow m m.next) _ (Nat.le_refl _)).trans q2) rfl;have hr:X3w (sv s) (withLow m m.next)=some (pt m.next 0 0,(withLow m m.next).push (.siter ⟨⟨s⟩⟩ 0)):=rfl;delta Qlp Qlo F;simp only [hr,X4];exact q1
end Go.Ab.Sh
end
