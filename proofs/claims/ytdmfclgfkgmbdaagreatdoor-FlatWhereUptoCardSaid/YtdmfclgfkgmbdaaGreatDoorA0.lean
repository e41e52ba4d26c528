/-
  What the functions of the program answer, at every text and every question. No conditions.
-/
import Derived.Test.YtdmfclgfkgmbdaaGreatDoorAb5
import Derived.Test.YtdmfclgfkgmbdaaGreatDoorT
import Derived.Test.YtdmfclgfkgmbdaaGreatDoorKT
import Derived.Lib.ItoaNum
import Derived.Lib.AtoiAll
import Derived.Lib.ParseIntB
import Derived.Lib.Index
import Derived.Lib.Bytealg
import Derived.Lib.Join
set_option linter.unusedSimpArgs false
set_option linter.unusedVariables false
set_option maxRecDepth 100000
namespace Go.Ab
open Go
inductive Cl where
 | v (x:Value)
 | s (n sz:Nat)
abbrev Key:=List Nat
structure Lc where
 b:Nat
 ver:Nat
 r:Nat
abbrev Phi:=Key→Lc
noncomputable def slV (l:Lc) (n sz:Nat):Value:=if n=0 then .slice none 0 0 else .slice (some ⟨l.b,0,some sz⟩) n (2 * l.ver + l.r)
noncomputable def cv (φ:Phi) (k:Key) (o:Nat):Cl→Value
 | .v x=>x
 | .s n sz=>slV (φ (o :: k)) n sz
inductive NO where
 | c (l:List Cl)
 | m (es:List (Value × Value × Nat)) (clock:Nat)
abbrev NX:=Key→Option NO
noncomputable def NX.set (X:NX) (k:Key) (o:Option NO):NX:=fun k'=>if k'=k then o else X k'
noncomputable def Phi.set (φ:Phi) (k:Key) (l:Lc):Phi:=fun k'=>if k'=k then l else φ k'
theorem NX.set_eq (X:NX) (k:Key) (o:Option NO):X.set k o k=o:=if_pos rfl
theorem NX.set_ne (X:NX) {k k':Key} (o:Option NO) (h:k' ≠ k):X.set k o k'=X k':=if_neg h
theorem Phi.set_eq (φ:Phi) (k:Key) (l:Lc):φ.set k l k=l:=if_pos rfl
theorem Phi.set_ne (φ:Phi) {k k':Key} (l:Lc) (h:k' ≠ k):φ.set k l k'=φ k':=if_neg h
noncomputable def cells (φ:Phi) (k:Key) (l:List Cl):List Value:=l.mapIdx (cv φ k)
theorem X18 (φ:Phi) (k:Key) (l:List Cl):(cells φ k l).length=l.length:=by unfold cells; simp
theorem Xv (φ:Phi) (k:Key) (l:List Cl) (o:Nat):(cells φ k l)[o]?=l[o]?.map (cv φ k o):=by unfold cells; simp
theorem X8n {φ φ':Phi} {k:Key} {l:List Cl} (h:∀ o n sz,l[o]?=some (.s n sz)→n ≠ 0→φ' (o :: k)=φ (o :: k)):cells φ' k l=cells φ k l:=by
 apply List.ext_getElem?
 intro o
 rw [Xv,Xv]
 cases hl:l[o]? with
 | none=>rfl
 | some c =>
  cases c with
  | v x=>rfl
  | s n sz =>
   show some (slV (φ' (o :: k)) n sz)=some (slV (φ (o :: k)) n sz)
   by_cases hn:n=0
   ·subst hn; rfl
   ·rw [h o n sz hl hn]
noncomputable def Cl.ok:Cl→Bool
 | .v x=>one x
 | .s _ _=>true
theorem X6k (l:Lc) (n sz:Nat):one (slV l n sz)=true:=by unfold slV; split <;> rfl
theorem cells_ok {φ:Phi} {k:Key} {l:List Cl} (h:l.all Cl.ok=true):(cells φ k l).all one=true:=by
 rw [List.all_eq_true] at h ⊢
 intro x hx
 obtain ⟨o,ho⟩:=List.mem_iff_getElem?.mp hx
 rw [Xv] at ho
 cases hl:l[o]? with
 | none=>rw [hl] at ho; cases ho
 | some c =>
  rw [hl] at ho
  have hc:=h c (List.mem_of_getElem? hl)
  cases c with
  | v y=>cases ho; exact hc
  | s n sz=>cases ho; exact X6k _ _ _
noncomputable def AtO (m:Mem) (φ:Phi) (k:Key):NO→Prop
 | .c l=>∃ ty,m.get (φ k).b=some (.cells (cells φ k l) (φ k).ver 0 false ty)
 | .m es clock=>m.get (φ k).b=some (.map es clock)
structure NR (cap:Nat) (m:Mem) (φ:Phi) (X:NX):Prop where
 inj:∀ k k',X k ≠ none→X k' ≠ none→(φ k).b=(φ k').b→k=k'
 hi:∀ k,X k ≠ none→(φ k).b < m.next
 r2:∀ k,X k ≠ none→(φ k).r < 2
 at':∀ k o,X k=some o→AtO m φ k o
 ok:∀ k l,X k=some (.c l)→l.all Cl.ok=true
 ow:∀ k l o n sz,X k=some (.c l)→l[o]?=some (.s n sz)→n ≤ cap∧0 < sz∧(if n=0 then X (o :: k)=none else ∃ l',X (o :: k)=some (.c l')∧l'.length=n * sz)
 par:∀ i j k,X (i :: j :: k) ≠ none→∃ l n sz,X (j :: k)=some (.c l)∧l[i]?=some (.s n sz)∧n ≠ 0
structure Wk (m:Mem) (φ:Phi) (X:NX) (m':Mem) (φ':Phi) (X':NX):Prop where
 next:m.next ≤ m'.next
 low:m'.low ≤ m.low
 low2:∀ x,x ≤ m.low→x ≤ m.next→(∀ k,X k ≠ none→x ≤ (φ k).b)→x ≤ m'.low
 get:∀ b,b < m.next→(∀ k,X k ≠ none→(φ k).b ≠ b)→m'.get b=m.get b
 lo:∀ b,b < m.next→m'.low ≤ b∨m'.get b=m.get b
 nw:∀ k,X' k ≠ none→m.next ≤ (φ' k).b∨∃ k0,X k0 ≠ none∧(φ k0).b=(φ' k).b
 kp:(∃ k,X k ≠ none∧m'.low ≤ (φ k).b)∨((∀ k,X' k ≠ none→φ' k=φ k)∧∀ k,X' k ≠ none→X k ≠ none)
theorem Wk.refl (m:Mem) (φ:Phi) (X:NX):Wk m φ X m φ X:=
 ⟨Nat.le_refl _,Nat.le_refl _,fun _ h _ _=>h,fun _ _ _=>rfl,fun _ _=>.inr rfl,fun k h=>.inr ⟨k,h,rfl⟩,.inr ⟨fun _ _=>rfl,fun _ h=>h⟩⟩
theorem Wk.trans {m m1 m2:Mem} {φ φ1 φ2:Phi} {X X1 X2:NX} (h:Wk m φ X m1 φ1 X1) (k:Wk m1 φ1 X1 m2 φ2 X2):Wk m φ X m2 φ2 X2 where
 next:=Nat.le_trans h.next k.next
 low:=Nat.le_trans k.low h.low
 low2:=fun x h1 h2 h3=>k.low2 x (h.low2 x h1 h2 h3) (Nat.le_trans h2 h.next) fun q hq=>by
  rcases h.nw q hq with e | ⟨k0,e1,e2⟩
  ·omega
  ·rw [← e2]; exact h3 k0 e1
 get:=fun b h1 h2=>by
  rw [k.get b (Nat.lt_of_lt_of_le h1 h.next) ?_,h.get b h1 h2]
  intro q hq
  rcases h.nw q hq with e | ⟨k0,e1,e2⟩
  ·omega
  ·rw [← e2]; exact h2 k0 e1
 lo:=fun b h1=>by
  rcases k.lo b (Nat.lt_of_lt_of_le h1 h.next) with q | q
  ·exact .inl q
  ·rcases h.lo b h1 with q2 | q2
   ·exact .inl (Nat.le_trans k.low q2)
   ·exact .inr (q.trans q2)
 nw:=fun q hq=>by
  rcases k.nw q hq with e | ⟨k0,e1,e2⟩
  ·exact .inl (Nat.le_trans h.next e)
  ·rw [← e2]; exact h.nw k0 e1
 kp:=by
  rcases h.kp with ⟨q,e1,e2⟩ | ⟨e1,e2⟩
  ·exact .inl ⟨q,e1,Nat.le_trans k.low e2⟩
  ·rcases k.kp with ⟨q,f1,f2⟩ | ⟨f1,f2⟩
   ·exact .inl ⟨q,e2 q f1,by rw [← e1 q f1]; exact f2⟩
   ·exact .inr ⟨fun q hq=>by rw [f1 q hq,e1 q (f2 q hq)],fun q hq=>e2 q (f2 q hq)⟩
theorem NR.mono {cap cap':Nat} {m:Mem} {φ:Phi} {X:NX} (h:NR cap m φ X) (hc:cap ≤ cap'):NR cap' m φ X:=
 { h with ow:=fun k l o n sz h1 h2=>by obtain ⟨a,b,c⟩:=h.ow k l o n sz h1 h2; exact ⟨Nat.le_trans a hc,b,c⟩ }
theorem NR.same {cap:Nat} {m m':Mem} {φ:Phi} {X:NX} (h:NR cap m φ X) (hn:m.next ≤ m'.next) (hg:∀ k,X k ≠ none→m'.get (φ k).b=m.get (φ k).b):NR cap m' φ X:=
 { h with
  hi:=fun k hk=>Nat.lt_of_lt_of_le (h.hi k hk) hn
  at':=fun k o hk=>by
   have e:=hg k (by rw [hk]; simp)
   have:=h.at' k o hk
   cases o with
   | c l=>obtain ⟨ty,q⟩:=this; exact ⟨ty,by rw [e]; exact q⟩
   | m es clock=>show m'.get _=_; rw [e]; exact this }
theorem NR.push {cap:Nat} {m:Mem} {φ:Phi} {X:NX} (h:NR cap m φ X) (o:AObj):NR cap (m.push o) φ X∧Wk m φ X (m.push o) φ X:=by
 have hg:∀ b,b < m.next→(m.push o).get b=m.get b:=fun b hb=>by rw [Mem.get_push,if_neg (by omega)]
 exact ⟨h.same (Nat.le_succ _) fun k hk=>hg _ (h.hi k hk),Nat.le_succ _,Nat.le_refl _,fun _ h _ _=>h,fun b hb _=>hg b hb,fun b hb=>.inr (hg b hb),fun k hk=>.inr ⟨k,hk,rfl⟩,.inr ⟨fun _ _=>rfl,fun _ h=>h⟩⟩
theorem NR.load {cap:Nat} {m:Mem} {φ:Phi} {X:NX} (h:NR cap m φ X) {k:Key} {l:List Cl} {o:Nat} {c:Cl} (hk:X k=some (.c l)) (ho:l[o]?=some c):X7 false 1 (pt (φ k).b o (φ k).ver) m=some (cv φ k o c):=by
 obtain ⟨ty,q⟩:=h.at' k _ hk
 exact X17 q (by rw [Xv,ho]; rfl)
theorem get3 {α:Type} (A B C:List α) (i:Nat):(A ++ B ++ C)[i]?=if i < A.length then A[i]? else if i < A.length + B.length then B[i - A.length]? else C[i - A.length - B.length]?:=by
 by_cases h1:i < A.length
 ·rw [if_pos h1,List.append_assoc,List.getElem?_append_left h1]
 ·rw [if_neg h1]
  by_cases h2:i < A.length + B.length
  ·rw [if_pos h2,List.append_assoc,List.getElem?_append_right (by omega),List.getElem?_append_left (by omega)]
  ·rw [if_neg h2,List.getElem?_append_right (by rw [List.length_append]; omega),List.length_append]
   congr 1
   omega
theorem Xp4 {φ:Phi} {k:Key} {l L:List Cl} {o:Nat} (h:o + L.length ≤ l.length) :
  cells φ k (l.take o ++ L ++ l.drop (o + L.length))=(cells φ k l).take o ++ L.mapIdx (fun i c=>cv φ k (o + i) c) ++ (cells φ k l).drop (o + L.length):=by
 apply List.ext_getElem?
 intro i
 have hto:(l.take o).length=o:=by simp; omega
 have hto2:((cells φ k l).take o).length=o:=by simp [X18]; omega
 have hL2:(L.mapIdx (fun i c=>cv φ k (o + i) c)).length=L.length:=by simp
 rw [Xv,get3,get3,hto,hto2,hL2]
 by_cases h1:i < o
 ·rw [if_pos h1,if_pos h1,List.getElem?_take,List.getElem?_take,if_pos h1,if_pos h1,Xv]
 ·rw [if_neg h1,if_neg h1]
  by_cases h2:i < o + L.length
  ·rw [if_pos h2,if_pos h2,List.getElem?_mapIdx]
   rw [show o + (i - o)=i by omega]
  ·rw [if_neg h2,if_neg h2,List.getElem?_drop,List.getElem?_drop,Xv]
   rw [show o + L.length + (i - o - L.length)=i by omega]
theorem NR.put {cap:Nat} {m:Mem} {φ:Phi} {X:NX} (h:NR cap m φ X) {k:Key} {l:List Cl} {o n:Nat} {x:Value} (hk:X k=some (.c l)) (hn:x.cells.size=n) (h1:x.cells.toList.all one=true) (ho:o + n ≤ l.length)
  (hp:∀ i,o ≤ i→i < o + n→∃ y,l[i]?=some (.v y)) :
  ∃ m',X8 n (pt (φ k).b o (φ k).ver) x m=some m'∧NR cap m' φ (X.set k (some (.c (l.take o ++ x.cells.toList.map .v ++ l.drop (o + n))))) ∧
   Wk m φ X m' φ (X.set k (some (.c (l.take o ++ x.cells.toList.map .v ++ l.drop (o + n)))))∧m'.next=m.next∧m'.low ≤ (φ k).b:=by
 obtain ⟨ty,q⟩:=h.at' k _ hk
 have hx:x.cells.toList.length=n:=by rw [Array.length_toList]; exact hn
 have hL:(x.cells.toList.map Cl.v).length=n:=by rw [List.length_map]; exact hx
 have hcp:=Xp4 (φ:=φ) (k:=k) (l:=l) (L:=x.cells.toList.map Cl.v) (o:=o) (by omega)
 rw [hL] at hcp
 have hm:(x.cells.toList.map Cl.v).mapIdx (fun i c=>cv φ k (o + i) c)=x.cells.toList:=by
  apply List.ext_getElem?
  intro i
  rw [List.getElem?_mapIdx,List.getElem?_map]
  cases x.cells.toList[i]? <;> rfl
 rw [hm] at hcp
 obtain ⟨m',k1,k2⟩:=X1s (o:=o) (n:=n) (v:=x) q hn (Nat.zero_le _) (by rw [X18]; exact ho) h1 hcp.symm
 have hgo:∀ b,b ≠ (φ k).b→m'.get b=m.get b:=fun b hb=>by rw [k2.get,Mem.get_put,if_neg (fun e=>hb e.symm)]
 have hgk:m'.get (φ k).b=some (.cells (cells φ k (l.take o ++ x.cells.toList.map Cl.v ++ l.drop (o + n))) (φ k).ver 0 false ty):=by rw [k2.get,Mem.get_put,if_pos rfl]
 have hnx:m'.next=m.next:=by rw [k2.next,Mem.next_put]
 have hlw:m'.low=min m.low (φ k).b:=by rw [k2.low,Mem.low_put]
 have hXs:∀ k',X.set k (some (.c (l.take o ++ x.cells.toList.map .v ++ l.drop (o + n)))) k' ≠ none→X k' ≠ none:=fun k' hk'=>by
  by_cases e:k'=k
  ·subst e; rw [hk]; simp
  ·rwa [NX.set_ne _ _ e] at hk'
 have hget:∀ (i n' sz:Nat),(l.take o ++ x.cells.toList.map Cl.v ++ l.drop (o + n))[i]?=some (Cl.s n' sz)→l[i]?=some (Cl.s n' sz):=by
  intro i n' sz hi
  have e1:(l.take o).length=o:=by simp; omega
  rw [get3,e1,hL] at hi
  by_cases a:i < o
  ·rwa [if_pos a,List.getElem?_take,if_pos a] at hi
  ·rw [if_neg a] at hi
   by_cases b:i < o + n
   ·rw [if_pos b,List.getElem?_map] at hi
    cases hq:x.cells.toList[i - o]? with
    | none=>rw [hq] at hi; cases hi
    | some y=>rw [hq] at hi; cases hi
   ·rw [if_neg b,List.getElem?_drop] at hi
    rwa [show o + n + (i - o - n)=i by omega] at hi
 have hgeti:∀ (i n' sz:Nat),l[i]?=some (Cl.s n' sz)→(l.take o ++ x.cells.toList.map Cl.v ++ l.drop (o + n))[i]?=some (Cl.s n' sz):=by
  intro i n' sz hi
  have e1:(l.take o).length=o:=by simp; omega
  rw [get3,e1,hL]
  by_cases a:i < o
  ·rw [if_pos a,List.getElem?_take,if_pos a]; exact hi
  ·rw [if_neg a]
   by_cases b:i < o + n
   ·obtain ⟨y,hy⟩:=hp i (by omega) b
    rw [hy] at hi; cases hi
   ·rw [if_neg b,List.getElem?_drop,show o + n + (i - o - n)=i by omega]; exact hi
 refine ⟨m',k1,?_,⟨by omega,by rw [hlw]; exact Nat.min_le_left _ _,?_,?_,?_,?_,.inl ⟨k,by rw [hk]; simp,by rw [hlw]; exact Nat.min_le_right _ _⟩⟩,hnx,by rw [hlw]; exact Nat.min_le_right _ _⟩
 ·exact {
   inj:=fun a b ha hb e=>h.inj a b (hXs a ha) (hXs b hb) e
   hi:=fun a ha=>by rw [hnx]; exact h.hi a (hXs a ha)
   r2:=fun a ha=>h.r2 a (hXs a ha)
   at':=fun a ob ha=>by
    by_cases e:a=k
    ·subst e
     rw [NX.set_eq] at ha
     cases ha
     exact ⟨ty,hgk⟩
    ·rw [NX.set_ne _ _ e] at ha
     have hb:(φ a).b ≠ (φ k).b:=fun e2=>e (h.inj a k (by rw [ha]; simp) (by rw [hk]; simp) e2)
     have:=h.at' a ob ha
     cases ob with
     | c l2=>obtain ⟨ty2,q2⟩:=this; exact ⟨ty2,by rw [hgo _ hb]; exact q2⟩
     | m es cl=>show m'.get _=_; rw [hgo _ hb]; exact this
   ok:=fun a l2 ha=>by
    by_cases e:a=k
    ·subst e
     rw [NX.set_eq] at ha
     cases ha
     have:=h.ok _ _ hk
     rw [List.all_eq_true] at this h1
     simp only [List.all_append,Bool.and_eq_true,List.all_eq_true]
     refine ⟨⟨fun c hc=>this c (List.mem_of_mem_take hc),fun c hc=>?_⟩,fun c hc=>this c (List.mem_of_mem_drop hc)⟩
     obtain ⟨y,hy,rfl⟩:=List.mem_map.mp hc
     exact h1 y hy
    ·rw [NX.set_ne _ _ e] at ha
     exact h.ok a l2 ha
   ow:=fun a l2 i n' sz ha hi=>by
    have key:∃ l3,X a=some (.c l3)∧l3[i]?=some (Cl.s n' sz):=by
     by_cases e:a=k
     ·subst e
      rw [NX.set_eq] at ha
      cases ha
      exact ⟨l,hk,hget i n' sz hi⟩
     ·rw [NX.set_ne _ _ e] at ha
      exact ⟨l2,ha,hi⟩
    obtain ⟨l3,w1,w2⟩:=key
    obtain ⟨w3,w4,w5⟩:=h.ow a l3 i n' sz w1 w2
    refine ⟨w3,w4,?_⟩
    by_cases hz:n'=0
    ·rw [if_pos hz] at w5 ⊢
     have:(i :: a) ≠ k:=fun e=>by rw [e,hk] at w5; cases w5
     rw [NX.set_ne _ _ this]; exact w5
    ·rw [if_neg hz] at w5 ⊢
     obtain ⟨l4,w6,w7⟩:=w5
     by_cases e:(i :: a)=k
     ·rw [e,NX.set_eq]
      rw [e,hk] at w6
      cases w6
      exact ⟨_,rfl,by simp; omega⟩
     ·rw [NX.set_ne _ _ e]; exact ⟨l4,w6,w7⟩
   par:=fun i j a ha=>by
    obtain ⟨l3,n',sz,w1,w2,w3⟩:=h.par i j a (hXs _ ha)
    by_cases e:(j :: a)=k
    ·rw [e,hk] at w1
     cases w1
     exact ⟨_,n',sz,by rw [e,NX.set_eq],hgeti i n' sz w2,w3⟩
    ·exact ⟨l3,n',sz,by rw [NX.set_ne _ _ e]; exact w1,w2,w3⟩ }
 ·intro y y1 y2 y3
  rw [hlw]
  have:=y3 k (by rw [hk]; simp)
  omega
 ·intro b hb hk'
  exact hgo b fun e=>hk' k (by rw [hk]; simp) e.symm
 ·intro b hb
  by_cases e:b=(φ k).b
  ·exact .inl (by rw [hlw,e]; exact Nat.min_le_right _ _)
  ·exact .inr (hgo b e)
 ·exact fun k' hk'=>.inr ⟨k',hXs k' hk',rfl⟩
end Go.Ab

set_option maxRecDepth 100000
namespace Go.Ab
open Go
theorem Xpp {m:Mem} {e size bytes b b2 len ver fro2:Nat} {c new:List Value} {ty ty2:Option Nat} {ro2:Bool} (h:m.get b=some (.cells c ver 0 false ty)) (h2:m.get b2=some (.cells new 0 fro2 ro2 ty2)) (hn:new.length=size) (h1:new.all one=true)
  (hs:1 ≤ size) (hl:len * size=c.length) (hb:fits (len + 1) bytes=true) :
  apS e size bytes (.slice (some ⟨b,0,some size⟩) len (2 * ver + 1)) (.slice (some ⟨b2,0,some size⟩) 1 1) m=some (.slice (some ⟨m.next,0,some size⟩) (len + 1) 0,m.push (.cells (c ++ new) 0 0 false (some (2 * e)))):=by
 refine Xms ?_
 unfold X3o
 have e1:(Nat.beq 1 0 || Nat.beq ((2 * ver + 1) % 2) 1)=true:=by
  have:(2 * ver + 1) % 2=1:=by omega
  rw [this]; rfl
 simp only [X2s,e1]
 unfold X24
 have e3:Nat.ble 1 size=true:=Nat.ble_eq.mpr hs
 have e4:(2 * ver + 1) / 2=ver:=by omega
 have e5:Nat.ble (len * size) c.length=true:=Nat.ble_eq.mpr (by omega)
 have e6:(2 * ver + 1) % 2=1:=by omega
 simp only [X2s,Xgb h2 hn,h1,e3,Bool.and_self,Bool.not_true,Bool.false_eq_true,if_false,h,Nat.zero_add,e4,Nat.beq_refl,e5,hb,beq_self_eq_true,e6,if_true,Nat.one_ne_zero,List.drop_zero]
 rw [hl,List.take_length]
theorem Xhk {m:Mem} {e size bytes b2 fro2 n:Nat} {L:Lc} {c new:List Value} {ty ty2:Option Nat} {ro2:Bool} (h:n ≠ 0→m.get L.b=some (.cells c L.ver 0 false ty)) (hr:n ≠ 0→L.r < 2) (hc:c.length=n * size) (h2:m.get b2=some (.cells new 0 fro2 ro2 ty2)) (hn:new.length=size) (h1:new.all one=true)
  (hs:1 ≤ size) (hb:fits (n + 1) bytes=true) :
  ∃ L' ty' m',apS e size bytes (slV L n size) (.slice (some ⟨b2,0,some size⟩) 1 1) m=some (slV L' (n + 1) size,m')∧m'.get L'.b=some (.cells (c ++ new) L'.ver 0 false ty')∧L'.r < 2∧(∀ b,b < m.next→b ≠ L'.b→m'.get b=m.get b) ∧
   ((L'.b=L.b∧n ≠ 0∧m'.next=m.next∧m'.low=min m.low L.b)∨(L'.b=m.next∧m'.next=m.next + 1∧m'.low=m.low)):=by
 by_cases hz:n=0
 ·subst hz
  have:c=[]:=List.eq_nil_of_length_eq_zero (by omega)
  subst this
  refine ⟨⟨m.next,0,0⟩,some (2 * e),m.push (.cells new 0 0 false (some (2 * e))),?_,?_,by show 0 < 2; omega,?_,.inr ⟨rfl,rfl,rfl⟩⟩
  ·exact Xrz h2 hn h1 hs hb
  ·show (m.push _).get m.next=_
   rw [Mem.get_push,if_pos rfl]; rfl
  ·intro b hb' hne
   rw [Mem.get_push,if_neg (by omega)]
 ·have h:=h hz
  have hr:=hr hz
  have e0:slV L n size=.slice (some ⟨L.b,0,some size⟩) n (2 * L.ver + L.r):=if_neg hz
  have:L.r=0∨L.r=1:=by omega
  rcases this with hr0 | hr1
  ·obtain ⟨m',k1,k2⟩:=Xug (e:=e) (bytes:=bytes) (len:=n) (size:=size) h h2 hn h1 hs (Nat.zero_le _) (by omega) hb
   refine ⟨⟨L.b,L.ver + 1,0⟩,tyOf ty (2 * e),m',?_,?_,by show 0 < 2; omega,?_,.inl ⟨rfl,hz,by rw [k2.next,Mem.next_put],by rw [k2.low,Mem.low_put]⟩⟩
   ·rw [e0,hr0]
    exact k1
   ·show m'.get L.b=_
    rw [k2.get,Mem.get_put,if_pos rfl,← hc,List.take_length]
   ·intro b hb' hne
    rw [k2.get,Mem.get_put,if_neg (fun e=>hne e.symm)]
  ·refine ⟨⟨m.next,0,0⟩,some (2 * e),m.push (.cells (c ++ new) 0 0 false (some (2 * e))),?_,?_,by show 0 < 2; omega,?_,.inr ⟨rfl,rfl,rfl⟩⟩
   ·rw [e0,hr1]
    exact Xpp h h2 hn h1 hs (by omega) hb
   ·show (m.push _).get m.next=_
    rw [Mem.get_push,if_pos rfl]
   ·intro b hb' hne
    rw [Mem.get_push,if_neg (by omega)]
theorem X30 (o:Nat) (k:Key):o :: k ≠ k:=fun e=>by
 have:=congrArg List.length e
 simp at this
theorem Xkv (i o:Nat) (k:Key):i :: o :: k ≠ k:=fun e=>by
 have:=congrArg List.length e
 simp only [List.length_cons] at this
 omega
noncomputable def Cl.new:Cl→Bool
 | .v x=>one x
 | .s n sz=>Nat.beq n 0 && Nat.blt 0 sz
theorem Xpy (φ:Phi) (k:Key) (o:Nat):∀ c:Cl,c.new=true→cv φ k o c=(match c with | .v x=>x | .s _ _=>.slice none 0 0)
 | .v _,_=>rfl
 | .s n sz,h=>by
  simp only [Cl.new,Bool.and_eq_true] at h
  have:n=0:=Nat.eq_of_beq_eq_true h.1
  subst this
  rfl
noncomputable def Cl.raw:Cl→Value
 | .v x=>x
 | .s _ _=>.slice none 0 0
theorem Xqp {φ:Phi} {k:Key} {l cs:List Cl} (h:cs.all Cl.new=true):cells φ k (l ++ cs)=cells φ k l ++ cs.map Cl.raw:=by
 apply List.ext_getElem?
 intro i
 rw [Xv]
 by_cases hi:i < l.length
 ·rw [List.getElem?_append_left hi,List.getElem?_append_left (by rw [X18]; exact hi),Xv]
 ·rw [List.getElem?_append_right (by omega),List.getElem?_append_right (by rw [X18]; omega),X18,List.getElem?_map]
  cases hc:cs[i - l.length]? with
  | none=>rfl
  | some c =>
   have:=List.all_eq_true.mp h c (List.mem_of_getElem? hc)
   show some (cv φ k i c)=some c.raw
   rw [Xpy _ _ _ _ this]
   cases c <;> rfl
noncomputable def X23 (X:NX) (k:Key):List Cl:=match X k with | some (.c l)=>l | _=>[]
theorem NR.app {cap:Nat} {m:Mem} {φ:Phi} {X:NX} (h:NR cap m φ X) {k:Key} {l cs:List Cl} {o n sz e bytes b2 fro2:Nat} {ty2:Option Nat} {ro2:Bool} (hk:X k=some (.c l)) (ho:l[o]?=some (.s n sz))
  (h2:m.get b2=some (.cells (cs.map Cl.raw) 0 fro2 ro2 ty2)) (hn:cs.length=sz) (hnew:cs.all Cl.new=true) (hb:fits (n + 1) bytes=true) :
  ∃ v' m1 m2 φ',apS e sz bytes (cv φ k o (.s n sz)) (.slice (some ⟨b2,0,some sz⟩) 1 1) m=some (v',m1)∧X8 1 (pt (φ k).b o (φ k).ver) v' m1=some m2 ∧
   NR (max cap (n + 1)) m2 φ' ((X.set (o :: k) (some (.c (X23 X (o :: k) ++ cs)))).set k (some (.c (l.set o (.s (n + 1) sz))))) ∧
   Wk m φ X m2 φ' ((X.set (o :: k) (some (.c (X23 X (o :: k) ++ cs)))).set k (some (.c (l.set o (.s (n + 1) sz))))) ∧
   (∀ k',k' ≠ o :: k→φ' k'=φ k')∧(∀ k',X k' ≠ none→k' ≠ o :: k→φ' k'=φ k')∧m2.low ≤ (φ k).b∧(∀ a,X a ≠ none→a ≠ o :: k→m1.get (φ a).b=m.get (φ a).b):=by
 obtain ⟨w1,w2,w3⟩:=h.ow k l o n sz hk ho
 obtain ⟨ty0,hm0⟩:=h.at' k _ hk
 have hol:o < l.length:=by
  by_cases hh:o < l.length
  ·exact hh
  ·rw [List.getElem?_eq_none (by omega)] at ho; cases ho
 have hX1:n=0→X (o :: k)=none:=fun e=>by rw [if_pos e] at w3; exact w3
 have hX2:n ≠ 0→∃ l',X (o :: k)=some (.c l')∧l'.length=n * sz:=fun e=>by rw [if_neg e] at w3; exact w3
 have hold:(X23 X (o :: k)).length=n * sz:=by
  unfold X23
  by_cases hz:n=0
  ·rw [hX1 hz,hz]; simp
  ·obtain ⟨l',q1,q2⟩:=hX2 hz
   rw [q1]; exact q2
 have hoX:n ≠ 0→X (o :: k)=some (.c (X23 X (o :: k))):=fun hz=>by
  obtain ⟨l',q1,q2⟩:=hX2 hz
  unfold X23
  rw [q1]
 have hraw:(cs.map Cl.raw).all one=true:=by
  rw [List.all_eq_true] at hnew ⊢
  intro x hx
  obtain ⟨c,hc,rfl⟩:=List.mem_map.mp hx
  have:=hnew c hc
  cases c with
  | v y=>exact this
  | s _ _=>rfl
 have hcs:∀ c ∈ cs,c.ok=true:=fun c hc=>by
  have:=List.all_eq_true.mp hnew c hc
  cases c with
  | v y=>exact this
  | s _ _=>rfl
 have hgetO:n ≠ 0→∃ ty,m.get (φ (o :: k)).b=some (.cells (cells φ (o :: k) (X23 X (o :: k))) (φ (o :: k)).ver 0 false ty):=fun hz=>h.at' _ _ (hoX hz)
 have hty:∃ ty,n ≠ 0→m.get (φ (o :: k)).b=some (.cells (cells φ (o :: k) (X23 X (o :: k))) (φ (o :: k)).ver 0 false ty):=by
  by_cases hz:n=0
  ·exact ⟨none,fun hh=>absurd hz hh⟩
  ·obtain ⟨ty,q⟩:=hgetO hz
   exact ⟨ty,fun _=>q⟩
 obtain ⟨ty,hgt⟩:=hty
 obtain ⟨L',ty',m1,k1,k2,k3,k4,k5⟩:=Xhk (e:=e) (bytes:=bytes) (L:=φ (o :: k)) (n:=n) (size:=sz) (c:=cells φ (o :: k) (X23 X (o :: k))) (new:=cs.map Cl.raw) hgt (fun hz=>h.r2 _ (by rw [hoX hz]; simp)) (by rw [X18]; exact hold) h2 (by rw [List.length_map]; exact hn) hraw w2 hb
 have hbk:(φ k).b < m.next:=h.hi k (by rw [hk]; simp)
 have hbkL:(φ k).b ≠ L'.b:=by
  rcases k5 with ⟨e1,e2,_⟩ | ⟨e1,_⟩
  ·rw [e1]
   intro e3
   exact X30 o k (h.inj k (o :: k) (by rw [hk]; simp) (by rw [hoX e2]; simp) e3).symm
  ·rw [e1]; omega
 have hm1k:m1.get (φ k).b=some (.cells (cells φ k l) (φ k).ver 0 false ty0):=by rw [k4 _ hbk hbkL]; exact hm0
 have hv1:(slV L' (n + 1) sz).cells=#[slV L' (n + 1) sz]:=by unfold slV; rw [if_neg (by omega)]; rfl
 have hset:(cells φ k l).take o ++ [slV L' (n + 1) sz] ++ (cells φ k l).drop (o + 1)=(cells φ k l).set o (slV L' (n + 1) sz):=by
  rw [List.set_eq_take_append_cons_drop,if_pos (by rw [X18]; exact hol)]; simp
 obtain ⟨m2,s1,s2⟩:=X1s (o:=o) (n:=1) (v:=slV L' (n + 1) sz) (c':=(cells φ k l).set o (slV L' (n + 1) sz)) hm1k (by rw [hv1]; rfl) (Nat.zero_le _) (by rw [X18]; omega) (by rw [hv1]; simp [X6k]) (by rw [hv1]; exact hset)
 have hg2:∀ b,b ≠ (φ k).b→m2.get b=m1.get b:=fun b hb'=>by rw [s2.get,Mem.get_put,if_neg (fun e=>hb' e.symm)]
 have hg2k:m2.get (φ k).b=some (.cells ((cells φ k l).set o (slV L' (n + 1) sz)) (φ k).ver 0 false ty0):=by rw [s2.get,Mem.get_put,if_pos rfl]
 have hnx1:m.next ≤ m1.next:=by rcases k5 with ⟨_,_,e,_⟩ | ⟨_,e,_⟩ <;> omega
 have hlw1:m1.low ≤ m.low:=by rcases k5 with ⟨_,_,_,e⟩ | ⟨_,_,e⟩ <;> omega
 have hnx2:m2.next=m1.next:=by rw [s2.next,Mem.next_put]
 have hlw2:m2.low=min m1.low (φ k).b:=by rw [s2.low,Mem.low_put]
 have hLb:L'.b < m2.next:=by
  rw [hnx2]
  rcases k5 with ⟨e1,e2,e3,_⟩ | ⟨e1,e2,_⟩
  ·rw [e1,e3]; exact h.hi _ (by rw [hoX e2]; simp)
  ·omega
 have hLo:∀ a,X a ≠ none→a ≠ o :: k→(φ a).b ≠ L'.b:=fun a ha hne=>by
  rcases k5 with ⟨e1,e2,_⟩ | ⟨e1,_⟩
  ·rw [e1]; exact fun e=>hne (h.inj a (o :: k) ha (by rw [hoX e2]; simp) e)
  ·rw [e1]; have:=h.hi a ha; omega
 have hφk:(φ.set (o :: k) L') k=φ k:=Phi.set_ne _ _ (fun e=>X30 o k e.symm)
 have hcl:∀ a l2,a ≠ k→cells (φ.set (o :: k) L') a l2=cells φ a l2:=fun a l2 hne=>X8n fun i n' sz' _ _=>Phi.set_ne _ _ (fun e=>hne (by injection e))
 have hclk:cells (φ.set (o :: k) L') k (l.set o (.s (n + 1) sz))=(cells φ k l).set o (slV L' (n + 1) sz):=by
  apply List.ext_getElem?
  intro i
  rw [Xv,List.getElem?_set,List.getElem?_set,Xv,X18]
  by_cases e:o=i
  ·subst e
   rw [if_pos rfl,if_pos rfl,if_pos hol,if_pos hol]
   show some (slV ((φ.set (o :: k) L') (o :: k)) (n + 1) sz)=_
   rw [Phi.set_eq]
  ·rw [if_neg e,if_neg e]
   cases hc:l[i]? with
   | none=>rfl
   | some c =>
    cases c with
    | v x=>rfl
    | s n' sz' =>
     show some (slV ((φ.set (o :: k) L') (i :: k)) n' sz')=some (slV (φ (i :: k)) n' sz')
     rw [Phi.set_ne _ _ (fun e2=>e (by injection e2 with e3; exact e3.symm))]
 let X':NX:=(X.set (o :: k) (some (.c (X23 X (o :: k) ++ cs)))).set k (some (.c (l.set o (.s (n + 1) sz))))
 have X'k:X' k=some (.c (l.set o (.s (n + 1) sz))):=NX.set_eq _ _ _
 have X'o:X' (o :: k)=some (.c (X23 X (o :: k) ++ cs)):=by
  show (NX.set _ _ _) _=_
  rw [NX.set_ne _ _ (X30 o k),NX.set_eq]
 have X'n:∀ a,a ≠ k→a ≠ o :: k→X' a=X a:=fun a h1 h2=>by
  show (NX.set _ _ _) _=_
  rw [NX.set_ne _ _ h1,NX.set_ne _ _ h2]
 have X'd:∀ a,X' a ≠ none→a ≠ o :: k→X a ≠ none:=fun a ha hne=>by
  by_cases e:a=k
  ·subst e; rw [hk]; simp
  ·rwa [X'n a e hne] at ha
 have hφb:∀ a,a ≠ o :: k→(φ.set (o :: k) L') a=φ a:=fun a ha=>Phi.set_ne _ _ ha
 refine ⟨slV L' (n + 1) sz,m1,m2,φ.set (o :: k) L',k1,s1,?_,?_,fun a ha=>hφb a ha,fun a _ ha=>hφb a ha,by omega,fun a ha hne=>k4 _ (h.hi a ha) (hLo a ha hne)⟩
 ·show NR _ _ _ X'
  exact {
   inj:=fun a b ha hb' e=>by
    by_cases e1:a=o :: k
    ·by_cases e2:b=o :: k
     ·rw [e1,e2]
     ·rw [e1,Phi.set_eq,hφb b e2] at e
      exact absurd e.symm (hLo b (X'd b hb' e2) e2)
    ·by_cases e2:b=o :: k
     ·rw [e2,Phi.set_eq,hφb a e1] at e
      exact absurd e (hLo a (X'd a ha e1) e1)
     ·rw [hφb a e1,hφb b e2] at e
      exact h.inj a b (X'd a ha e1) (X'd b hb' e2) e
   hi:=fun a ha=>by
    by_cases e1:a=o :: k
    ·rw [e1,Phi.set_eq]; exact hLb
    ·rw [hφb a e1]
     have:=h.hi a (X'd a ha e1)
     omega
   r2:=fun a ha=>by
    by_cases e1:a=o :: k
    ·rw [e1,Phi.set_eq]; exact k3
    ·rw [hφb a e1]; exact h.r2 a (X'd a ha e1)
   at':=fun a ob ha=>by
    by_cases e1:a=k
    ·subst e1
     rw [X'k] at ha
     cases ha
     refine ⟨ty0,?_⟩
     rw [hφk,hclk]
     exact hg2k
    ·by_cases e2:a=o :: k
     ·rw [e2,X'o] at ha
      cases ha
      subst e2
      refine ⟨ty',?_⟩
      rw [Phi.set_eq,hcl _ _ (X30 o k),Xqp hnew,hg2 _ (fun e=>hbkL e.symm)]
      exact k2
     ·rw [X'n a e1 e2] at ha
      have ha':X a ≠ none:=by rw [ha]; simp
      have hbn:(φ a).b ≠ (φ k).b:=fun e=>e1 (h.inj a k ha' (by rw [hk]; simp) e)
      have hgg:m2.get (φ a).b=m.get (φ a).b:=by rw [hg2 _ hbn,k4 _ (h.hi a ha') (hLo a ha' e2)]
      have:=h.at' a ob ha
      cases ob with
      | c l2 =>
       obtain ⟨ty3,q3⟩:=this
       refine ⟨ty3,?_⟩
       rw [hφb a e2,hgg,hcl _ _ e1]
       exact q3
      | m es cl =>
       show m2.get ((φ.set (o :: k) L') a).b=_
       rw [hφb a e2,hgg]
       exact this
   ok:=fun a l2 ha=>by
    by_cases e1:a=k
    ·subst e1
     rw [X'k] at ha
     cases ha
     have:=h.ok _ _ hk
     rw [List.all_eq_true] at this ⊢
     intro c hc
     rcases List.mem_or_eq_of_mem_set hc with q | q
     ·exact this c q
     ·rw [q]; rfl
    ·by_cases e2:a=o :: k
     ·rw [e2,X'o] at ha
      cases ha
      rw [List.all_append,Bool.and_eq_true]
      refine ⟨?_,by rw [List.all_eq_true]; exact hcs⟩
      by_cases hz:n=0
      ·have:X23 X (o :: k)=[]:=by unfold X23; rw [hX1 hz]
       rw [this]; rfl
      ·exact h.ok _ _ (hoX hz)
     ·rw [X'n a e1 e2] at ha
      exact h.ok a l2 ha
   ow:=fun a l2 i n' sz' ha hi=>by
    have grow:∀ (p:Key) (n'' sz'':Nat),p ≠ k→p ≠ o :: k→(if n''=0 then X p=none else ∃ l',X p=some (.c l')∧l'.length=n'' * sz'')→(if n''=0 then X' p=none else ∃ l',X' p=some (.c l')∧l'.length=n'' * sz''):=fun p n'' sz'' p1 p2 hh=>by rw [X'n p p1 p2]; exact hh
    by_cases e1:a=k
    ·subst e1
     rw [X'k] at ha
     cases ha
     rw [List.getElem?_set] at hi
     by_cases e2:o=i
     ·rw [if_pos e2,if_pos hol] at hi
      cases hi
      subst e2
      refine ⟨Nat.le_max_right _ _,w2,?_⟩
      rw [if_neg (by omega)]
      exact ⟨_,X'o,by rw [List.length_append,hold,hn]; exact (Nat.succ_mul n sz).symm⟩
     ·rw [if_neg e2] at hi
      obtain ⟨q1,q2,q3⟩:=h.ow _ _ _ _ _ hk hi
      exact ⟨Nat.le_trans q1 (Nat.le_max_left _ _),q2,grow _ _ _ (X30 i _) (fun e=>e2 (by injection e with e3; exact e3.symm)) q3⟩
    ·by_cases e2:a=o :: k
     ·subst e2
      rw [X'o] at ha
      cases ha
      by_cases hi2:i < (X23 X (o :: k)).length
      ·rw [List.getElem?_append_left hi2] at hi
       have hz:n ≠ 0:=fun hz=>by rw [hold,hz] at hi2; simp at hi2
       obtain ⟨q1,q2,q3⟩:=h.ow _ _ _ _ _ (hoX hz) hi
       exact ⟨Nat.le_trans q1 (Nat.le_max_left _ _),q2,grow _ _ _ (Xkv i o k) (X30 i _) q3⟩
      ·rw [List.getElem?_append_right (by omega)] at hi
       have hcn:=List.all_eq_true.mp hnew _ (List.mem_of_getElem? hi)
       simp only [Cl.new,Bool.and_eq_true] at hcn
       have hn0:n'=0:=Nat.eq_of_beq_eq_true hcn.1
       have hs0:0 < sz':=by simpa using hcn.2
       refine ⟨by omega,hs0,?_⟩
       rw [if_pos hn0,X'n _ (Xkv i o k) (X30 i _)]
       cases hxx:X (i :: o :: k) with
       | none=>rfl
       | some ob =>
        obtain ⟨l5,n5,sz5,z1,z2,z3⟩:=h.par i o k (by rw [hxx]; simp)
        have:X23 X (o :: k)=l5:=by unfold X23; rw [z1]
        rw [this] at hi2
        rw [List.getElem?_eq_none (by omega)] at z2
        cases z2
     ·rw [X'n a e1 e2] at ha
      obtain ⟨q1,q2,q3⟩:=h.ow _ _ _ _ _ ha hi
      have:i :: a ≠ o :: k:=fun e=>by injection e with e3 e4; exact e1 e4
      by_cases e3:i :: a=k
      ·refine ⟨Nat.le_trans q1 (Nat.le_max_left _ _),q2,?_⟩
       rw [e3,X'k]
       rw [e3,hk] at q3
       by_cases hz:n'=0
       ·rw [if_pos hz] at q3; cases q3
       ·rw [if_neg hz] at q3 ⊢
        obtain ⟨l',q4,q5⟩:=q3
        cases q4
        exact ⟨_,rfl,by rw [List.length_set]; exact q5⟩
      ·exact ⟨Nat.le_trans q1 (Nat.le_max_left _ _),q2,grow _ _ _ e3 this q3⟩
   par:=fun i j a ha=>by
    by_cases e1:i :: j :: a=o :: k
    ·injection e1 with e2 e3
     subst e2
     rw [e3]
     exact ⟨_,n + 1,sz,X'k,by rw [List.getElem?_set,if_pos rfl,if_pos hol],by omega⟩
    ·obtain ⟨l5,n5,sz5,z1,z2,z3⟩:=h.par i j a (X'd _ ha e1)
     by_cases e2:j :: a=k
     ·rw [e2,hk] at z1
      cases z1
      have:o ≠ i:=fun e=>e1 (by rw [e,e2])
      exact ⟨_,n5,sz5,by rw [e2]; exact X'k,by rw [List.getElem?_set,if_neg this]; exact z2,z3⟩
     ·by_cases e3:j :: a=o :: k
      ·have:X23 X (o :: k)=l5:=by unfold X23; rw [← e3,z1]
       refine ⟨_,n5,sz5,by rw [e3]; exact X'o,?_,z3⟩
       rw [this,List.getElem?_append_left (List.getElem?_eq_some_iff.mp z2).1]
       exact z2
      ·exact ⟨l5,n5,sz5,by rw [X'n _ e2 e3]; exact z1,z2,z3⟩ }
 ·show Wk _ _ _ _ _ X'
  exact {
   next:=by omega
   low:=by omega
   low2:=fun x y1 y2 y3=>by
    have z1:=y3 k (by rw [hk]; simp)
    rcases k5 with ⟨e1,e2,_,e3⟩ | ⟨_,_,e3⟩
    ·have z2:=y3 (o :: k) (by rw [hoX e2]; simp)
     omega
    ·omega
   get:=fun b hb' hne=>by
    have hbn:b ≠ (φ k).b:=fun e=>hne k (by rw [hk]; simp) e.symm
    rw [hg2 b hbn]
    refine k4 b hb' ?_
    rcases k5 with ⟨e1,e2,_⟩ | ⟨e1,_⟩
    ·rw [e1]; exact fun e=>hne (o :: k) (by rw [hoX e2]; simp) e.symm
    ·omega
   lo:=fun b hb'=>by
    by_cases e:b=(φ k).b
    ·exact .inl (by omega)
    ·rw [hg2 b e]
     by_cases e2:b=L'.b
     ·rcases k5 with ⟨e1,_,_,e3⟩ | ⟨e1,_⟩
      ·exact .inl (by omega)
      ·omega
     ·exact .inr (k4 b hb' e2)
   nw:=fun a ha=>by
    by_cases e1:a=o :: k
    ·rw [e1,Phi.set_eq]
     rcases k5 with ⟨e2,e3,_⟩ | ⟨e2,_⟩
     ·exact .inr ⟨o :: k,by rw [hoX e3]; simp,e2.symm⟩
     ·exact .inl (by omega)
    ·rw [hφb a e1]
     exact .inr ⟨a,X'd a ha e1,rfl⟩
   kp:=.inl ⟨k,by rw [hk]; simp,by omega⟩ }
end Go.Ab

set_option maxRecDepth 100000
namespace Go.Ab
open Go
noncomputable def isInt (o:Option Value):Bool:=match o with | some (.int .i64 _)=>true | _=>false
noncomputable def intOf (o:Option Value):Int:=match o with | some (.int .i64 z)=>z | _=>0
noncomputable def Xhx (f0 g0:FuncId):Over:=fun f args m=>match args with
 | [.slice s n t,.func (.func g) a c]=>if f=f0∧g=g0∧a.toList=[]∧c.toList=[] then
   match n with
   | 0=>some (.tuple ⟨[]⟩,m)
   | n + 1=>match s with
    | none=>none
    | some ⟨b,o,es⟩=>if es=some 15∧n < 4611686018427387903 then
      match m.get b with
      | some (.cells cs ver fro ro ty) =>
       if ro=false∧fro ≤ o∧t / 2=ver∧o + (n + 1) * 15 ≤ cs.length∧cs.all one=true∧(∀ i,i < n + 1→isInt cs[o + i * 15]?=true) then some (.tuple ⟨[]⟩,m.put b (.cells [] (ver + 1) fro false none)) else none
      | _=>none
     else none
  else none
 | _=>none
end Go.Ab

namespace Go.Ab
open Go

abbrev Str:=List UInt8
def sv (l:Str):Value:=.string ⟨⟨l⟩⟩
theorem X1a (l:Str):Value.string ⟨List.toArray l⟩=sv l:=rfl
abbrev I (z:Int):Value:=.int .i64 z
theorem Qw (c g:Bool) (k:IntKind) (a b:Int):bin .lss c g .int (.int k a) (.int k b)=some (.bool (decide (a < b))):=by rw [X1u]; simp [binO]
theorem Qhj (c g:Bool) (k:IntKind) (a b:Int):bin .leq c g .int (.int k a) (.int k b)=some (.bool (decide (a ≤ b))):=by rw [X1u]; simp [binO]
theorem Qby (c g:Bool) (k:IntKind) (a b:Int):bin .gtr c g .int (.int k a) (.int k b)=some (.bool (decide (b < a))):=by rw [X1u]; simp [binO]
theorem Qhk (c g:Bool) (k:IntKind) (a b:Int):bin .geq c g .int (.int k a) (.int k b)=some (.bool (decide (b ≤ a))):=by rw [X1u]; simp [binO]
theorem Q3y (c g:Bool) (k:IntKind) (a b:Int):bin .eql c g .int (.int k a) (.int k b)=some (.bool (decide (a=b))):=by
 rw [X1u]; by_cases h:a=b <;> simp [binO,h]
theorem Q4z (c g:Bool) (k:IntKind) (a b:Int):bin .neq c g .int (.int k a) (.int k b)=some (.bool (decide (a ≠ b))):=by
 rw [X1u]; by_cases h:a=b <;> simp [binO,h]
theorem Q3p (c g:Bool) (k:IntKind) (a b:Int):bin .add c g .int (.int k a) (.int k b)=some (.int k (k.wrap (a + b))):=by rw [X1u]; simp [binO]
theorem Qf0 (c g:Bool) (k:IntKind) (a b:Int):bin .sub c g .int (.int k a) (.int k b)=some (.int k (k.wrap (a - b))):=by rw [X1u]; simp [binO]
theorem Qqd (c g:Bool) (k:IntKind) (a b:Int):bin .mul c g .int (.int k a) (.int k b)=some (.int k (k.wrap (a * b))):=by rw [X1u]; simp [binO]
theorem Qqc (c g:Bool) (k:IntKind) (a b:Int) (h:b ≠ 0):bin .rem c g .int (.int k a) (.int k b)=some (.int k (a.tmod b)):=by rw [X1u]; simp [binO,h]
theorem Qo (c g:Bool) (a b:Str):bin .eql c g .str (sv a) (sv b)=some (.bool (decide (a=b))):=by
 rw [X1u]; show some (Value.bool (a == b))=_; congr 2; by_cases h:a=b <;> simp [h]
theorem Qkc (c g:Bool) (a b:Str):bin .neq c g .str (sv a) (sv b)=some (.bool (decide (a ≠ b))):=by
 rw [X1u]; show some (Value.bool (!(a == b)))=_; congr 2; by_cases h:a=b <;> simp [h]
theorem Qi3 (c g:Bool) (a b:Str) (h:a.length + b.length < 4611686018427387904):bin .add c g .str (sv a) (sv b)=some (sv (a ++ b)):=by
 rw [X1u]
 show (if a.length + b.length < 2 ^ 62 then some (Value.string ⟨(a ++ b).toArray⟩) else none)=_
 rw [if_pos (by simpa using h)]
 rfl
theorem X3r (l:Str) (m:Mem):lenK 0 (sv l) m=some (.int .i64 l.length):=by rw [Xks]; rfl
theorem X6c (l:Str) (k:IntKind) (i:Nat) (h:i < l.length):Xh (sv l) (.int k (i:Int))=some (.int .u8 ((l[i]).toNat:Int)):=by
 rw [Xcf]
 show (if (0:Int) ≤ (i:Int) then (match l[(i:Int).toNat]? with | some b=>some (Value.int .u8 b.toNat) | none=>none) else none)=_
 rw [if_pos (by omega),Int.toNat_natCast,List.getElem?_eq_getElem h]
theorem Xt {α:Type} (p:Prop) [Decidable p] (a b:Option α):brb (.bool (decide p)) a b=if p then a else b:=by
 by_cases h:p
 ·rw [if_pos h,decide_eq_true h]; rfl
 ·rw [if_neg h,decide_eq_false h]; rfl
theorem Xp2 {α:Type} (c:Bool) (a b:Option α):brb (.bool c) a b=if c=true then a else b:=by cases c <;> rfl
theorem ex0 (x:Value) (l:List Value):Xd (.tuple ⟨x :: l⟩) 0=some x:=by rw [X5t]; rfl
theorem ex1 (x y:Value) (l:List Value):Xd (.tuple ⟨x :: y :: l⟩) 1=some y:=by rw [X5t]; rfl
theorem ex2 (x y z:Value) (l:List Value):Xd (.tuple ⟨x :: y :: z :: l⟩) 2=some z:=by rw [X5t]; rfl

theorem c_int (k k':IntKind) (a:Int) (m:Mem):conv (.int k') (.int k a) m=some (.int k' (k'.wrap a),m):=rfl
noncomputable def outOf (m:Mem) (x:Option Rs):Option Rs:=match x with | some (v,m1)=>some (gc m v m1) | none=>none
theorem X1l {m m1:Mem} {v:Value} {x:Option Rs} (hx:x=some (v,m1)) (hF:Fr [] (withLow m m.next) m1) (hv:refs m.next 8 v=true):outOf m x=some (v,m):=by
 subst hx
 unfold outOf
 simp only
 rw [Xhc]; unfold gcO
 have h:m.next ≤ m1.low:=hF.low2 m.next (Nat.le_refl _) (Nat.le_refl _) (by simp)
 rw [Nat.ble_eq.mpr h,hv]
 rfl
end Go.Ab

namespace Go.Ab.Sh
open Go Go.Ab
noncomputable def Qn6:Over:=Xgg Q1e ixF
noncomputable def Qn7:Over:=Xgv Q7h cntF
noncomputable def Qnw:Over:=Xmo Q1r
noncomputable def Qlf:Over:=Xml Q35 Qc
noncomputable def Qnk:Over:=orElse (ovPu Q7 Qc 16 16) (ovPu Q7 Qc 8 8)
noncomputable def Qnx:Over:=Xmc Q34
noncomputable def Ql4:Over:=Xme Q1d .u8 fun s c=>some (Xdn s c)
noncomputable def Qj1:Over:=Xhx Q2i Qap
noncomputable def oL:Tr Over:=(.node none (.node none (.node none (.node none .nil (.node none (.node (some Qnx) .nil .nil) (.node none .nil (.node (some Qnk) .nil .nil)))) (.node (some Qj1) .nil .nil)) (.node none (.node none (.node none .nil (.node none (.node (some Qn6) .nil .nil) .nil)) .nil) .nil)) (.node none (.node (some Qlq) (.node none (.node none (.node none .nil (.node (some Qlf) .nil .nil)) .nil) .nil) (.node none .nil (.node none (.node none (.node (some Qn7) .nil .nil) (.node (some Ql4) .nil .nil)) .nil))) (.node none .nil (.node none .nil (.node none .nil (.node none (.node (some Qnw) .nil .nil) .nil))))))
noncomputable def TA (n:Nat):Tab:=shT fns (ovTr oL) 18446744073709551616 n
theorem Xu {f:Nat} {e:Entry Go.Proofs.Tryz.prog} (h0:oL.get (f + 1)=none) (h1:fns.get (f + 1)=some e) (h2:Nat.beq e.f f=true) (d:Nat) (args:List Value) (m:Mem):TA (d + 1) f args m=outOf m (e.h ⟨TA d,18446744073709551616⟩ args (withLow m m.next)):=by
 unfold TA
 rw [Xhq,Xjx,h0]
 simp only [h1,h2]
 rfl
theorem Xes {f:Nat} {o:Over} {r:Rs} (h0:oL.get (f + 1)=some o) {args:List Value} {m:Mem} (h:o f args m=some r) (d:Nat):TA d f args m=some r:=by
 have h1:ovTr oL f args m=some r:=by rw [Xjx,h0]; exact h
 unfold TA
 cases d with
 | zero=>rw [Xt5]; exact h1
 | succ d=>rw [Xhq,h1]
end Go.Ab.Sh

set_option maxRecDepth 100000
namespace Go.Ab
open Go
theorem NR.withLow {cap:Nat} {m:Mem} {φ:Phi} {X:NX} (h:NR cap m φ X) (l:Nat):NR cap (withLow m l) φ X:=h.same (Nat.le_refl _) fun _ _=>rfl
theorem NR.call {cap cap1:Nat} {m m1:Mem} {φ φ1:Phi} {X X1:NX} {v:Value} {x:Option Rs} (h:NR cap m φ X) (hx:x=some (v,m1)) (h1:NR cap1 m1 φ1 X1) (hw:Wk (Go.Ab.withLow m m.next) φ X m1 φ1 X1) :
  ∃ m2,outOf m x=some (v,m2)∧NR cap1 m2 φ1 X1∧Wk m φ X m2 φ1 X1:=by
 subst hx
 have e:∀ v' m2,gc m v m1=(v',m2)→outOf m (some (v,m1))=some (v',m2):=fun v' m2 h=>by simp only [outOf,h]
 cases hc:Nat.ble m.next m1.low && refs m.next 8 v
 ·refine ⟨Go.Ab.withLow m1 (min m.low m1.low),e _ _ ?_,h1.withLow _,?_⟩
  ·rw [Xhc]; unfold gcO; rw [hc]; rfl
  ·exact {
    next:=hw.next
    low:=Nat.min_le_left _ _
    low2:=fun y a b c=>by
     have:=hw.low2 y b b c
     show y ≤ min m.low m1.low
     omega
    get:=hw.get
    lo:=fun b hb=>by
     rcases hw.lo b hb with q | q
     ·exact .inl (Nat.le_trans (Nat.min_le_right _ _) q)
     ·exact .inr q
    nw:=hw.nw
    kp:=by
     rcases hw.kp with ⟨k,a,b⟩ | q
     ·exact .inl ⟨k,a,Nat.le_trans (Nat.min_le_right _ _) b⟩
     ·exact .inr q }
 ·refine ⟨m,e _ _ ?_,?_,?_⟩
  ·rw [Xhc]; unfold gcO; rw [hc]; rfl
  all_goals
   simp only [Bool.and_eq_true] at hc
   have hlow:m.next ≤ m1.low:=Nat.le_of_ble_eq_true hc.1
   have hg:∀ b,b < m.next→m1.get b=m.get b:=fun b hb=>by
    rcases hw.lo b hb with q | q
    ·omega
    ·exact q
   have hk:(∀ k,X1 k ≠ none→φ1 k=φ k)∧∀ k,X1 k ≠ none→X k ≠ none:=by
    rcases hw.kp with ⟨k,a,b⟩ | q
    ·have:=h.hi k a; omega
    ·exact q
   have hb:∀ k,X1 k ≠ none→(φ1 k).b < m.next:=fun k hk1=>by rw [hk.1 k hk1]; exact h.hi k (hk.2 k hk1)
  ·exact { h1 with
    hi:=hb
    at':=fun k o hko=>by
     have:=h1.at' k o hko
     have hbk:=hb k (by rw [hko]; simp)
     cases o with
     | c l=>obtain ⟨ty,q⟩:=this; exact ⟨ty,by rw [← hg _ hbk]; exact q⟩
     | m es cl=>show m.get _=_; rw [← hg _ hbk]; exact this }
  ·exact ⟨Nat.le_refl _,Nat.le_refl _,fun _ h _ _=>h,fun _ _ _=>rfl,fun _ _=>.inr rfl,fun k hk1=>.inr ⟨k,hk.2 k hk1,by rw [hk.1 k hk1]⟩,.inr hk⟩
theorem X2x (L:Lc) (n sz:Nat) (m:Mem):lenK 1 (slV L n sz) m=some (I n):=by
 unfold slV
 split
 ·rename_i h; subst h; exact Xb9 _ _ _ _
 ·exact Xb9 _ _ _ _
theorem X3c (L:Lc) (hr:L.r < 2) (n sz:Nat) (i:Nat) (k:IntKind) (h:i < n):Xb sz (slV L n sz) (.int k (i:Int))=some (pt L.b (i * sz) L.ver):=by
 unfold slV
 rw [if_neg (by omega),X1v]
 show (match Nat.blt i n && X1m (some sz) sz with | true=>_ | false=>_)=_
 rw [Nat.blt_eq.mpr h,X1h]
 simp only [decide_true,Bool.and_self]
 show some (Value.pointer (some ⟨L.b,0 + i * sz,some ((2 * L.ver + L.r) / 2)⟩))=_
 rw [Nat.zero_add,show (2 * L.ver + L.r) / 2=L.ver by omega]
noncomputable def ents:List Str→Nat→List (Value × Value × Nat)
 | [],_=>[]
 | s :: l,i=>(sv s,.bool true,i) :: ents l (i + 1)
theorem Xlt:∀ (l:List Str) (s:Str) (i:Nat),ents (l ++ [s]) i=ents l i ++ [(sv s,.bool true,i + l.length)]
 | [],_,_=>rfl
 | a :: l,s,i=>by
  show _ :: ents (l ++ [s]) (i + 1)=_
  rw [Xlt l s (i + 1)]
  show _=(_ :: ents l (i + 1)) ++ _
  rw [List.cons_append,List.length_cons,show i + 1 + l.length=i + (l.length + 1) by omega]
theorem Xmn (a b:Str):aEq .str (sv a) (sv b)=some (decide (a=b)):=by
 show some (a == b)=_
 by_cases h:a=b <;> simp [h]
theorem Xkb:∀ (l:List Str) (s:Str) (i j:Nat),s ∉ l→X4j .str (sv s) (ents l i) j=some none
 | [],_,_,_,_=>rfl
 | a :: l,s,i,j,h=>by
  have h1:s ≠ a:=fun e=>h (by rw [e]; simp)
  show (match aEq .str (sv s) (sv a) with | some true=>_ | some false=>_ | none=>_)=_
  rw [Xmn,decide_eq_false h1]
  exact Xkb l s (i + 1) (j + 1) (fun e=>h (List.mem_cons_of_mem _ e))
theorem Xg6:∀ (l:List Str) (s:Str) (i j:Nat),s ∈ l→∃ q,X4j .str (sv s) (ents l i) j=some (some (j + q))∧(ents l i)[q]?=some (sv s,.bool true,i + q)
 | [],_,_,_,h=>by cases h
 | a :: l,s,i,j,h=>by
  by_cases e:s=a
  ·subst e
   exact ⟨0,by simp only [ents,X4j,Xmn,decide_eq_true rfl]; rfl,rfl⟩
  ·have hm:s ∈ l:=by
    rcases List.mem_cons.mp h with q | q
    ·exact absurd q e
    ·exact q
   obtain ⟨q,q1,q2⟩:=Xg6 l s (i + 1) (j + 1) hm
   refine ⟨q + 1,?_,?_⟩
   ·simp only [ents,X4j,Xmn,decide_eq_false e]
    rw [q1]; congr 2; omega
   ·show (ents l (i + 1))[q]?=_
    rw [q2]; congr 3; omega
abbrev mapV (b:Nat):Value:=.map (some b)
theorem Xrb (s:Str):veq (sv s) (sv s)=true:=by simp [veq,veq1,sv]
theorem Xrn (s:Str):aEq .str (sv s) (sv s)=some true:=by rw [Xmn,decide_eq_true rfl]
noncomputable def setO (l:List Str):NO:=.m (ents l 0) l.length
noncomputable def insS (l:List Str) (s:Str):List Str:=if s ∈ l then l else l ++ [s]
theorem NR.look {cap:Nat} {m:Mem} {φ:Phi} {X:NX} (h:NR cap m φ X) {k:Key} {l:List Str} (hk:X k=some (setO l)) (s:Str):X5h .str (.bool false) false (mapV (φ k).b) (sv s) m=some (.bool (decide (s ∈ l))):=by
 have hm:m.get (φ k).b=some (.map (ents l 0) l.length):=h.at' k _ hk
 unfold X5h
 simp only [Xrb,Xrn,Bool.and_self,if_true,hm,X2u]
 by_cases e:s ∈ l
 ·obtain ⟨q,q1,q2⟩:=Xg6 l s 0 0 e
  rw [q1]
  simp only [Nat.zero_add,q2,decide_eq_true e]
  rfl
 ·rw [Xkb l s 0 0 e,decide_eq_false e]
  rfl
theorem NR.insert {cap:Nat} {m:Mem} {φ:Phi} {X:NX} (h:NR cap m φ X) {k:Key} {l:List Str} (hk:X k=some (setO l)) (s:Str) :
  ∃ m',X2t .str (mapV (φ k).b) (sv s) (.bool true) m=some m'∧NR cap m' φ (X.set k (some (setO (insS l s))))∧Wk m φ X m' φ (X.set k (some (setO (insS l s)))):=by
 have hm:m.get (φ k).b=some (.map (ents l 0) l.length):=h.at' k _ hk
 have hup:X2t .str (mapV (φ k).b) (sv s) (.bool true) m=some (m.put (φ k).b (.map (ents (insS l s) 0) (insS l s).length)):=by
  unfold X2t
  simp only [Xrb,Xrn,Bool.and_self,if_true,hm,X2u]
  unfold insS
  by_cases e:s ∈ l
  ·obtain ⟨q,q1,q2⟩:=Xg6 l s 0 0 e
   rw [q1,if_pos e]
   simp only [Nat.zero_add,q2,Xrb,if_true]
   rw [Nat.zero_add] at q2
   have:(ents l 0).set q (sv s,.bool true,q)=ents l 0:=by
    apply List.ext_getElem?
    intro i
    rw [List.getElem?_set]
    by_cases e2:q=i
    ·subst e2
     rw [if_pos rfl,q2,if_pos (List.getElem?_eq_some_iff.mp q2).1]
    ·rw [if_neg e2]
   rw [this]
  ·rw [Xkb l s 0 0 e,if_neg e]
   rw [Xlt]
   simp
 refine ⟨_,hup,?_,?_⟩
 ·have hXs:∀ k',X.set k (some (setO (insS l s))) k' ≠ none→X k' ≠ none:=fun k' hk'=>by
   by_cases e:k'=k
   ·subst e; rw [hk]; simp
   ·rwa [NX.set_ne _ _ e] at hk'
  have hc:∀ a l2,X.set k (some (setO (insS l s))) a=some (.c l2)→X a=some (.c l2):=fun a l2 ha=>by
   by_cases e:a=k
   ·rw [e,NX.set_eq] at ha
    cases ha
   ·rwa [NX.set_ne _ _ e] at ha
  have hc2:∀ a l2,X a=some (.c l2)→X.set k (some (setO (insS l s))) a=some (.c l2):=fun a l2 ha=>by
   by_cases e:a=k
   ·rw [e,hk] at ha
    cases ha
   ·rwa [NX.set_ne _ _ e]
  exact {
   inj:=fun a b ha hb e=>h.inj a b (hXs a ha) (hXs b hb) e
   hi:=fun a ha=>by rw [Mem.next_put]; exact h.hi a (hXs a ha)
   r2:=fun a ha=>h.r2 a (hXs a ha)
   at':=fun a ob ha=>by
    by_cases e:a=k
    ·subst e
     rw [NX.set_eq] at ha
     cases ha
     show (m.put _ _).get _=_
     rw [Mem.get_put,if_pos rfl]
    ·rw [NX.set_ne _ _ e] at ha
     have hb:(φ k).b ≠ (φ a).b:=fun e2=>e (h.inj a k (by rw [ha]; simp) (by rw [hk]; simp) e2.symm)
     have:=h.at' a ob ha
     cases ob with
     | c l2=>obtain ⟨ty2,q2⟩:=this; exact ⟨ty2,by rw [Mem.get_put,if_neg hb]; exact q2⟩
     | m es cl=>show (m.put _ _).get _=_; rw [Mem.get_put,if_neg hb]; exact this
   ok:=fun a l2 ha=>h.ok a l2 (hc a l2 ha)
   ow:=fun a l2 i n' sz ha hi=>by
    obtain ⟨w3,w4,w5⟩:=h.ow a l2 i n' sz (hc a l2 ha) hi
    refine ⟨w3,w4,?_⟩
    by_cases hz:n'=0
    ·rw [if_pos hz] at w5 ⊢
     have:(i :: a) ≠ k:=fun e=>by rw [e,hk] at w5; cases w5
     rw [NX.set_ne _ _ this]; exact w5
    ·rw [if_neg hz] at w5 ⊢
     obtain ⟨l4,w6,w7⟩:=w5
     exact ⟨l4,hc2 _ _ w6,w7⟩
   par:=fun i j a ha=>by
    obtain ⟨l3,n',sz,w1,w2,w3⟩:=h.par i j a (hXs _ ha)
    exact ⟨l3,n',sz,hc2 _ _ w1,w2,w3⟩ }
 ·exact {
   next:=by rw [Mem.next_put]; exact Nat.le_refl _
   low:=by rw [Mem.low_put]; exact Nat.min_le_left _ _
   low2:=fun x y1 y2 y3=>by
    rw [Mem.low_put]
    have:=y3 k (by rw [hk]; simp)
    omega
   get:=fun b hb hne=>by rw [Mem.get_put,if_neg (hne k (by rw [hk]; simp))]
   lo:=fun b hb=>by
    rw [Mem.low_put,Mem.get_put]
    by_cases e:(φ k).b=b
    ·exact .inl (by rw [e]; exact Nat.min_le_right _ _)
    ·exact .inr (by rw [if_neg e])
   nw:=fun a ha=>by
    refine .inr ⟨a,?_,rfl⟩
    by_cases e:a=k
    ·subst e; rw [hk]; simp
    ·rwa [NX.set_ne _ _ e] at ha
   kp:=.inl ⟨k,by rw [hk]; simp,by rw [Mem.low_put]; exact Nat.min_le_right _ _⟩ }
end Go.Ab
namespace Go.Ab
open Go
theorem NX.set_set (X:NX) (k:Key) (a b:Option NO):(X.set k a).set k b=X.set k b:=by
 funext q
 unfold NX.set
 by_cases h:q=k <;> simp [h]
theorem NR.put' {cap:Nat} {m:Mem} {φ:Phi} {X:NX} (h:NR cap m φ X) {k:Key} {l:List Cl} (o n:Nat) (x:Value) (l':List Cl) (hk:X k=some (.c l)) (hn:x.cells.size=n) (h1:x.cells.toList.all one=true) (ho:o + n ≤ l.length)
  (hp:∀ i,i < n→∃ y,l[o + i]?=some (.v y)) (hl:l.take o ++ x.cells.toList.map .v ++ l.drop (o + n)=l') :
  ∃ m',X8 n (pt (φ k).b o (φ k).ver) x m=some m'∧NR cap m' φ (X.set k (some (.c l')))∧Wk m φ X m' φ (X.set k (some (.c l'))):=by
 obtain ⟨m',a1,a2,a3,_,_⟩:=h.put (o:=o) (n:=n) (x:=x) hk hn h1 ho (fun i h1 h2=>by
  obtain ⟨y,hy⟩:=hp (i - o) (by omega)
  rw [show o + (i - o)=i by omega] at hy
  exact ⟨y,hy⟩)
 rw [hl] at a2 a3
 exact ⟨m',a1,a2,a3⟩
end Go.Ab

set_option maxRecDepth 100000
namespace Go.Ab.Sh
open Go Go.Ab
theorem X16 (s:Gt→Value→Mem→Option Rs) (G:Gt) (a0:Value) (m:Mem):arg1 s G [a0] m=s G a0 m:=rfl
theorem Xr (s:Gt→Value→Value→Mem→Option Rs) (G:Gt) (a0 a1:Value) (m:Mem):arg2 s G [a0,a1] m=s G a0 a1 m:=rfl
theorem Xba (s:Gt→Value→Value→Value→Mem→Option Rs) (G:Gt) (a0 a1 a2:Value) (m:Mem):arg3 s G [a0,a1,a2] m=s G a0 a1 a2 m:=rfl
theorem Xkp (s:Gt→Value→Value→Value→Value→Mem→Option Rs) (G:Gt) (a0 a1 a2 a3:Value) (m:Mem):arg4 s G [a0,a1,a2,a3] m=s G a0 a1 a2 a3 m:=rfl
theorem X8i:Qdc.h=arg1 (fun G a0 m=>Q4i G a0 m):=by kernel_rfl
theorem X8q (d:Nat) (a0:Value) (m:Mem):TA (d + 1) Qt [a0] m=outOf m (Q4i ⟨TA d,18446744073709551616⟩ a0 (withLow m m.next)):=by
 rw [Xu (e:=Qdc) (by kernel_rfl) (by kernel_rfl) (by kernel_rfl),X8i,X16]
theorem Xal:Qe3.h=arg2 (fun G a0 a1 m=>Q3s G a0 a1 m):=by kernel_rfl
theorem X9p (d:Nat) (a0 a1:Value) (m:Mem):TA (d + 1) Q3 [a0,a1] m=outOf m (Q3s ⟨TA d,18446744073709551616⟩ a0 a1 (withLow m m.next)):=by
 rw [Xu (e:=Qe3) (by kernel_rfl) (by kernel_rfl) (by kernel_rfl),Xal,Xr]
theorem X82:Qc2.h=arg1 (fun G a0 m=>Q2x G a0 m):=by kernel_rfl
theorem X81 (d:Nat) (a0:Value) (m:Mem):TA (d + 1) Q2v [a0] m=outOf m (Q2x ⟨TA d,18446744073709551616⟩ a0 (withLow m m.next)):=by
 rw [Xu (e:=Qc2) (by kernel_rfl) (by kernel_rfl) (by kernel_rfl),X82,X16]
theorem X9h:Qdd.h=arg1 (fun G a0 m=>Q4k G a0 m):=by kernel_rfl
theorem X8w (d:Nat) (a0:Value) (m:Mem):TA (d + 1) Q6t [a0] m=outOf m (Q4k ⟨TA d,18446744073709551616⟩ a0 (withLow m m.next)):=by
 rw [Xu (e:=Qdd) (by kernel_rfl) (by kernel_rfl) (by kernel_rfl),X9h,X16]
theorem X7u:Qc3.h=arg1 (fun G a0 m=>Q41 G a0 m):=by kernel_rfl
theorem X7z (d:Nat) (a0:Value) (m:Mem):TA (d + 1) Q87 [a0] m=outOf m (Q41 ⟨TA d,18446744073709551616⟩ a0 (withLow m m.next)):=by
 rw [Xu (e:=Qc3) (by kernel_rfl) (by kernel_rfl) (by kernel_rfl),X7u,X16]
theorem X8e:Qdb.h=arg3 (fun G a0 a1 a2 m=>Q39 G a1 a0 a2 m):=by kernel_rfl
theorem X8c (d:Nat) (a0 a1 a2:Value) (m:Mem):TA (d + 1) Qs [a0,a1,a2] m=outOf m (Q39 ⟨TA d,18446744073709551616⟩ a1 a0 a2 (withLow m m.next)):=by
 rw [Xu (e:=Qdb) (by kernel_rfl) (by kernel_rfl) (by kernel_rfl),X8e,Xba]
theorem Xa1:Qe7.h=arg1 (fun G a0 m=>Q5l G a0 m):=by kernel_rfl
theorem X9s (d:Nat) (a0:Value) (m:Mem):TA (d + 1) Q79 [a0] m=outOf m (Q5l ⟨TA d,18446744073709551616⟩ a0 (withLow m m.next)):=by
 rw [Xu (e:=Qe7) (by kernel_rfl) (by kernel_rfl) (by kernel_rfl),Xa1,X16]
theorem Xc3:Qeg.h=arg2 (fun G a0 a1 m=>Q6f G a0 a1 m):=by kernel_rfl
theorem Xav (d:Nat) (a0 a1:Value) (m:Mem):TA (d + 1) Qe [a0,a1] m=outOf m (Q6f ⟨TA d,18446744073709551616⟩ a0 a1 (withLow m m.next)):=by
 rw [Xu (e:=Qeg) (by kernel_rfl) (by kernel_rfl) (by kernel_rfl),Xc3,Xr]
theorem X8o:Qdg.h=arg1 (fun G a0 m=>Q38 G a0 m):=by kernel_rfl
theorem X8s (d:Nat) (a0:Value) (m:Mem):TA (d + 1) Q8p [a0] m=outOf m (Q38 ⟨TA d,18446744073709551616⟩ a0 (withLow m m.next)):=by
 rw [Xu (e:=Qdg) (by kernel_rfl) (by kernel_rfl) (by kernel_rfl),X8o,X16]
theorem X99:Qdm.h=arg2 (fun G a0 a1 m=>Q4j G a0 a1 m):=by kernel_rfl
theorem X8f (d:Nat) (a0 a1:Value) (m:Mem):TA (d + 1) Q3a [a0,a1] m=outOf m (Q4j ⟨TA d,18446744073709551616⟩ a0 a1 (withLow m m.next)):=by
 rw [Xu (e:=Qdm) (by kernel_rfl) (by kernel_rfl) (by kernel_rfl),X99,Xr]
theorem X8x:Qdi.h=arg1 (fun G a0 m=>Q4d G a0 m):=by kernel_rfl
theorem X8h (d:Nat) (a0:Value) (m:Mem):TA (d + 1) Q18 [a0] m=outOf m (Q4d ⟨TA d,18446744073709551616⟩ a0 (withLow m m.next)):=by
 rw [Xu (e:=Qdi) (by kernel_rfl) (by kernel_rfl) (by kernel_rfl),X8x,X16]
theorem X8r:Qda.h=arg1 (fun G a0 m=>Q4g G a0 m):=by kernel_rfl
theorem X9g (d:Nat) (a0:Value) (m:Mem):TA (d + 1) Qb [a0] m=outOf m (Q4g ⟨TA d,18446744073709551616⟩ a0 (withLow m m.next)):=by
 rw [Xu (e:=Qda) (by kernel_rfl) (by kernel_rfl) (by kernel_rfl),X8r,X16]
theorem Xa7:Qe4.h=arg3 (fun G a0 a1 a2 m=>Q5p G a1 a2 a0 m):=by kernel_rfl
theorem Xa6 (d:Nat) (a0 a1 a2:Value) (m:Mem):TA (d + 1) Q5o [a0,a1,a2] m=outOf m (Q5p ⟨TA d,18446744073709551616⟩ a1 a2 a0 (withLow m m.next)):=by
 rw [Xu (e:=Qe4) (by kernel_rfl) (by kernel_rfl) (by kernel_rfl),Xa7,Xba]
theorem X6n:Qao.h=arg3 (fun G a0 a1 a2 m=>Q3o G a0 a2 a1 m):=by kernel_rfl
theorem X6u (d:Nat) (a0 a1 a2:Value) (m:Mem):TA (d + 1) Q0 [a0,a1,a2] m=outOf m (Q3o ⟨TA d,18446744073709551616⟩ a0 a2 a1 (withLow m m.next)):=by
 rw [Xu (e:=Qao) (by kernel_rfl) (by kernel_rfl) (by kernel_rfl),X6n,Xba]
theorem X9o:Qe2.h=arg2 (fun G a0 a1 m=>Q5h G a1 a0 m):=by kernel_rfl
theorem Xan (d:Nat) (a0 a1:Value) (m:Mem):TA (d + 1) Qr [a0,a1] m=outOf m (Q5h ⟨TA d,18446744073709551616⟩ a1 a0 (withLow m m.next)):=by
 rw [Xu (e:=Qe2) (by kernel_rfl) (by kernel_rfl) (by kernel_rfl),X9o,Xr]
theorem X80:Qc4.h=arg2 (fun G a0 a1 m=>Q40 G a1 a0 m):=by kernel_rfl
theorem X7x (d:Nat) (a0 a1:Value) (m:Mem):TA (d + 1) Q68 [a0,a1] m=outOf m (Q40 ⟨TA d,18446744073709551616⟩ a1 a0 (withLow m m.next)):=by
 rw [Xu (e:=Qc4) (by kernel_rfl) (by kernel_rfl) (by kernel_rfl),X80,Xr]
theorem X7a:Qak.h=arg4 (fun G a0 a1 a2 a3 m=>Q3m G a2 a0 a1 a3 m):=by kernel_rfl
theorem X6o (d:Nat) (a0 a1 a2 a3:Value) (m:Mem):TA (d + 1) Q3n [a0,a1,a2,a3] m=outOf m (Q3m ⟨TA d,18446744073709551616⟩ a2 a0 a1 a3 (withLow m m.next)):=by
 rw [Xu (e:=Qak) (by kernel_rfl) (by kernel_rfl) (by kernel_rfl),X7a,Xkp]
theorem Xaa:Qdw.h=arg1 (fun G a0 m=>Q5g G a0 m):=by kernel_rfl
theorem Xah (d:Nat) (a0:Value) (m:Mem):TA (d + 1) Q5f [a0] m=outOf m (Q5g ⟨TA d,18446744073709551616⟩ a0 (withLow m m.next)):=by
 rw [Xu (e:=Qdw) (by kernel_rfl) (by kernel_rfl) (by kernel_rfl),Xaa,X16]
theorem X9f:Qdn.h=arg2 (fun G a0 a1 m=>Q4f G a0 a1 m):=by kernel_rfl
theorem X8a (d:Nat) (a0 a1:Value) (m:Mem):TA (d + 1) Q6p [a0,a1] m=outOf m (Q4f ⟨TA d,18446744073709551616⟩ a0 a1 (withLow m m.next)):=by
 rw [Xu (e:=Qdn) (by kernel_rfl) (by kernel_rfl) (by kernel_rfl),X9f,Xr]
theorem X8m:Qdj.h=arg1 (fun G a0 m=>Q4e G a0 m):=by kernel_rfl
theorem X96 (d:Nat) (a0:Value) (m:Mem):TA (d + 1) Qd [a0] m=outOf m (Q4e ⟨TA d,18446744073709551616⟩ a0 (withLow m m.next)):=by
 rw [Xu (e:=Qdj) (by kernel_rfl) (by kernel_rfl) (by kernel_rfl),X8m,X16]
theorem X9v:Qe6.h=arg2 (fun G a0 a1 m=>Q5b G a0 a1 m):=by kernel_rfl
theorem Xar (d:Nat) (a0 a1:Value) (m:Mem):TA (d + 1) Q5a [a0,a1] m=outOf m (Q5b ⟨TA d,18446744073709551616⟩ a0 a1 (withLow m m.next)):=by
 rw [Xu (e:=Qe6) (by kernel_rfl) (by kernel_rfl) (by kernel_rfl),X9v,Xr]
theorem Xa0:Qdv.h=arg2 (fun G a0 a1 m=>Q58 G a0 a1 m):=by kernel_rfl
theorem X9x (d:Nat) (a0 a1:Value) (m:Mem):TA (d + 1) Q74 [a0,a1] m=outOf m (Q58 ⟨TA d,18446744073709551616⟩ a0 a1 (withLow m m.next)):=by
 rw [Xu (e:=Qdv) (by kernel_rfl) (by kernel_rfl) (by kernel_rfl),Xa0,Xr]
theorem X6v:Qal.h=arg4 (fun G a0 a1 a2 a3 m=>Q3g G a1 a0 a3 a2 m):=by kernel_rfl
theorem X73 (d:Nat) (a0 a1 a2 a3:Value) (m:Mem):TA (d + 1) Q7b [a0,a1,a2,a3] m=outOf m (Q3g ⟨TA d,18446744073709551616⟩ a1 a0 a3 a2 (withLow m m.next)):=by
 rw [Xu (e:=Qal) (by kernel_rfl) (by kernel_rfl) (by kernel_rfl),X6v,Xkp]
theorem X5o:Q8x.h=arg2 (fun G a0 a1 m=>Q2t G a0 a1 m):=by kernel_rfl
theorem X5k (d:Nat) (a0 a1:Value) (m:Mem):TA (d + 1) Q1m [a0,a1] m=outOf m (Q2t ⟨TA d,18446744073709551616⟩ a0 a1 (withLow m m.next)):=by
 rw [Xu (e:=Q8x) (by kernel_rfl) (by kernel_rfl) (by kernel_rfl),X5o,Xr]
theorem X7v:Qc5.h=arg2 (fun G a0 a1 m=>Q42 G a0 a1 m):=by kernel_rfl
theorem X7w (d:Nat) (a0 a1:Value) (m:Mem):TA (d + 1) Q63 [a0,a1] m=outOf m (Q42 ⟨TA d,18446744073709551616⟩ a0 a1 (withLow m m.next)):=by
 rw [Xu (e:=Qc5) (by kernel_rfl) (by kernel_rfl) (by kernel_rfl),X7v,Xr]
theorem X6w:Qam.h=arg2 (fun G a0 a1 m=>Q3l G a0 a1 m):=by kernel_rfl
theorem X75 (d:Nat) (a0 a1:Value) (m:Mem):TA (d + 1) Q6 [a0,a1] m=outOf m (Q3l ⟨TA d,18446744073709551616⟩ a0 a1 (withLow m m.next)):=by
 rw [Xu (e:=Qam) (by kernel_rfl) (by kernel_rfl) (by kernel_rfl),X6w,Xr]
theorem Xbg:Qee.h=arg2 (fun G a0 a1 m=>Q6e G a0 a1 m):=by kernel_rfl
theorem Xb0 (d:Nat) (a0 a1:Value) (m:Mem):TA (d + 1) Qae [a0,a1] m=outOf m (Q6e ⟨TA d,18446744073709551616⟩ a0 a1 (withLow m m.next)):=by
 rw [Xu (e:=Qee) (by kernel_rfl) (by kernel_rfl) (by kernel_rfl),Xbg,Xr]
theorem X8d:Qdk.h=arg2 (fun G a0 a1 m=>Q4l G a0 a1 m):=by kernel_rfl
theorem X8z (d:Nat) (a0 a1:Value) (m:Mem):TA (d + 1) Q28 [a0,a1] m=outOf m (Q4l ⟨TA d,18446744073709551616⟩ a0 a1 (withLow m m.next)):=by
 rw [Xu (e:=Qdk) (by kernel_rfl) (by kernel_rfl) (by kernel_rfl),X8d,Xr]
theorem X91:Qdf.h=arg2 (fun G a0 a1 m=>Q4n G a0 a1 m):=by kernel_rfl
theorem X90 (d:Nat) (a0 a1:Value) (m:Mem):TA (d + 1) Q29 [a0,a1] m=outOf m (Q4n ⟨TA d,18446744073709551616⟩ a0 a1 (withLow m m.next)):=by
 rw [Xu (e:=Qdf) (by kernel_rfl) (by kernel_rfl) (by kernel_rfl),X91,Xr]
theorem X63:Q8w.h=arg3 (fun G a0 a1 a2 m=>Q2q G a1 a2 a0 m):=by kernel_rfl
theorem X5j (d:Nat) (a0 a1 a2:Value) (m:Mem):TA (d + 1) Q6j [a0,a1,a2] m=outOf m (Q2q ⟨TA d,18446744073709551616⟩ a1 a2 a0 (withLow m m.next)):=by
 rw [Xu (e:=Q8w) (by kernel_rfl) (by kernel_rfl) (by kernel_rfl),X63,Xba]
theorem X4q:Q81.h=arg2 (fun G a0 a1 m=>Q26 G a0 a1 m):=by kernel_rfl
theorem X4v (d:Nat) (a0 a1:Value) (m:Mem):TA (d + 1) Q1a [a0,a1] m=outOf m (Q26 ⟨TA d,18446744073709551616⟩ a0 a1 (withLow m m.next)):=by
 rw [Xu (e:=Q81) (by kernel_rfl) (by kernel_rfl) (by kernel_rfl),X4q,Xr]
theorem X8j:Qde.h=arg3 (fun G a0 a1 a2 m=>Q4h G a0 a2 a1 m):=by kernel_rfl
theorem X92 (d:Nat) (a0 a1 a2:Value) (m:Mem):TA (d + 1) Q1u [a0,a1,a2] m=outOf m (Q4h ⟨TA d,18446744073709551616⟩ a0 a2 a1 (withLow m m.next)):=by
 rw [Xu (e:=Qde) (by kernel_rfl) (by kernel_rfl) (by kernel_rfl),X8j,Xba]
theorem X9i:Qdo.h=arg2 (fun G a0 a1 m=>Q4p G a0 a1 m):=by kernel_rfl
theorem X8t (d:Nat) (a0 a1:Value) (m:Mem):TA (d + 1) Q6s [a0,a1] m=outOf m (Q4p ⟨TA d,18446744073709551616⟩ a0 a1 (withLow m m.next)):=by
 rw [Xu (e:=Qdo) (by kernel_rfl) (by kernel_rfl) (by kernel_rfl),X9i,Xr]
theorem X70:Qaj.h=arg2 (fun G a0 a1 m=>Q3h G a0 a1 m):=by kernel_rfl
theorem X6y (d:Nat) (a0 a1:Value) (m:Mem):TA (d + 1) Q7c [a0,a1] m=outOf m (Q3h ⟨TA d,18446744073709551616⟩ a0 a1 (withLow m m.next)):=by
 rw [Xu (e:=Qaj) (by kernel_rfl) (by kernel_rfl) (by kernel_rfl),X70,Xr]
theorem X94:Qd9.h=arg2 (fun G a0 a1 m=>Q4o G a0 a1 m):=by kernel_rfl
theorem X89 (d:Nat) (a0 a1:Value) (m:Mem):TA (d + 1) Q6r [a0,a1] m=outOf m (Q4o ⟨TA d,18446744073709551616⟩ a0 a1 (withLow m m.next)):=by
 rw [Xu (e:=Qd9) (by kernel_rfl) (by kernel_rfl) (by kernel_rfl),X94,Xr]
theorem Xam:Qdy.h=arg3 (fun G a0 a1 a2 m=>Q59 G a1 a2 m):=by kernel_rfl
theorem Xao (d:Nat) (a0 a1 a2:Value) (m:Mem):TA (d + 1) Q9e [a0,a1,a2] m=outOf m (Q59 ⟨TA d,18446744073709551616⟩ a1 a2 (withLow m m.next)):=by
 rw [Xu (e:=Qdy) (by kernel_rfl) (by kernel_rfl) (by kernel_rfl),Xam,Xba]
theorem X79:Qan.h=arg2 (fun G a0 a1 m=>Q3k G a1 a0 m):=by kernel_rfl
theorem X6m (d:Nat) (a0 a1:Value) (m:Mem):TA (d + 1) Q2h [a0,a1] m=outOf m (Q3k ⟨TA d,18446744073709551616⟩ a1 a0 (withLow m m.next)):=by
 rw [Xu (e:=Qan) (by kernel_rfl) (by kernel_rfl) (by kernel_rfl),X79,Xr]
theorem Xa3:Qdz.h=arg2 (fun G a0 a1 m=>Q5c G a0 a1 m):=by kernel_rfl
theorem Xaj (d:Nat) (a0 a1:Value) (m:Mem):TA (d + 1) Q75 [a0,a1] m=outOf m (Q5c ⟨TA d,18446744073709551616⟩ a0 a1 (withLow m m.next)):=by
 rw [Xu (e:=Qdz) (by kernel_rfl) (by kernel_rfl) (by kernel_rfl),Xa3,Xr]
theorem X3z:Q6v.h=arg2 (fun G a0 a1 m=>Q1q G a0 a1 m):=by kernel_rfl
theorem X3u (d:Nat) (a0 a1:Value) (m:Mem):TA (d + 1) Q2f [a0,a1] m=outOf m (Q1q ⟨TA d,18446744073709551616⟩ a0 a1 (withLow m m.next)):=by
 rw [Xu (e:=Q6v) (by kernel_rfl) (by kernel_rfl) (by kernel_rfl),X3z,Xr]
theorem Xjy:Qij.h=arg1 (fun G a0 m=>Qd0 G a0 m):=by kernel_rfl
theorem Xkm (d:Nat) (a0:Value) (m:Mem):TA (d + 1) Qgl [a0] m=outOf m (Qd0 ⟨TA d,18446744073709551616⟩ a0 (withLow m m.next)):=by
 rw [Xu (e:=Qij) (by kernel_rfl) (by kernel_rfl) (by kernel_rfl),Xjy,X16]
theorem Xja:Qhu.h=arg1 (fun G a0 m=>Qb8 G a0 m):=by kernel_rfl
theorem Xjl (d:Nat) (a0:Value) (m:Mem):TA (d + 1) Qe8 [a0] m=outOf m (Qb8 ⟨TA d,18446744073709551616⟩ a0 (withLow m m.next)):=by
 rw [Xu (e:=Qhu) (by kernel_rfl) (by kernel_rfl) (by kernel_rfl),Xja,X16]
theorem Xie:Qhw.h=arg1 (fun G a0 m=>Qb9 G a0 m):=by kernel_rfl
theorem Xix (d:Nat) (a0:Value) (m:Mem):TA (d + 1) Qe9 [a0] m=outOf m (Qb9 ⟨TA d,18446744073709551616⟩ a0 (withLow m m.next)):=by
 rw [Xu (e:=Qhw) (by kernel_rfl) (by kernel_rfl) (by kernel_rfl),Xie,X16]
theorem Xae:Qdx.h=arg1 (fun G a0 m=>Q5j G a0 m):=by kernel_rfl
theorem Xaf (d:Nat) (a0:Value) (m:Mem):TA (d + 1) Q9g [a0] m=outOf m (Q5j ⟨TA d,18446744073709551616⟩ a0 (withLow m m.next)):=by
 rw [Xu (e:=Qdx) (by kernel_rfl) (by kernel_rfl) (by kernel_rfl),Xae,X16]
theorem Xbw:Qeh.h=arg1 (fun G a0 m=>Q6h G a0 m):=by kernel_rfl
theorem Xbq (d:Nat) (a0:Value) (m:Mem):TA (d + 1) Q7u [a0] m=outOf m (Q6h ⟨TA d,18446744073709551616⟩ a0 (withLow m m.next)):=by
 rw [Xu (e:=Qeh) (by kernel_rfl) (by kernel_rfl) (by kernel_rfl),Xbw,X16]
theorem Xjo:Qik.h=arg1 (fun G a0 m=>Qd1 G a0 m):=by kernel_rfl
theorem Xk3 (d:Nat) (a0:Value) (m:Mem):TA (d + 1) Q5s [a0] m=outOf m (Qd1 ⟨TA d,18446744073709551616⟩ a0 (withLow m m.next)):=by
 rw [Xu (e:=Qik) (by kernel_rfl) (by kernel_rfl) (by kernel_rfl),Xjo,X16]
theorem Xh5:Qh3.h=arg1 (fun G a0 m=>Q9b G a0 m):=by kernel_rfl
theorem Xh3 (d:Nat) (a0:Value) (m:Mem):TA (d + 1) Qcw [a0] m=outOf m (Q9b ⟨TA d,18446744073709551616⟩ a0 (withLow m m.next)):=by
 rw [Xu (e:=Qh3) (by kernel_rfl) (by kernel_rfl) (by kernel_rfl),Xh5,X16]
theorem Xhi:Qh1.h=arg2 (fun G a0 a1 m=>Q9a G a0 a1 m):=by kernel_rfl
theorem Xg3 (d:Nat) (a0 a1:Value) (m:Mem):TA (d + 1) Q6i [a0,a1] m=outOf m (Q9a ⟨TA d,18446744073709551616⟩ a0 a1 (withLow m m.next)):=by
 rw [Xu (e:=Qh1) (by kernel_rfl) (by kernel_rfl) (by kernel_rfl),Xhi,Xr]
theorem Xjb:Qhs.h=arg1 (fun G a0 m=>Q8n G a0 m):=by kernel_rfl
theorem Xjf (d:Nat) (a0:Value) (m:Mem):TA (d + 1) Q65 [a0] m=outOf m (Q8n ⟨TA d,18446744073709551616⟩ a0 (withLow m m.next)):=by
 rw [Xu (e:=Qhs) (by kernel_rfl) (by kernel_rfl) (by kernel_rfl),Xjb,X16]
theorem Xkw:Qil.h=arg1 (fun G a0 m=>Qcz G a0 m):=by kernel_rfl
theorem Xkz (d:Nat) (a0:Value) (m:Mem):TA (d + 1) Qgk [a0] m=outOf m (Qcz ⟨TA d,18446744073709551616⟩ a0 (withLow m m.next)):=by
 rw [Xu (e:=Qil) (by kernel_rfl) (by kernel_rfl) (by kernel_rfl),Xkw,X16]
theorem X4f:Q7l.h=arg2 (fun G a0 a1 m=>Q1z G a0 a1 m):=by kernel_rfl
theorem X4d (d:Nat) (a0 a1:Value) (m:Mem):TA (d + 1) Q57 [a0,a1] m=outOf m (Q1z ⟨TA d,18446744073709551616⟩ a0 a1 (withLow m m.next)):=by
 rw [Xu (e:=Q7l) (by kernel_rfl) (by kernel_rfl) (by kernel_rfl),X4f,Xr]
theorem Xku:Qii.h=arg1 (fun G a0 m=>Q8a G a0 m):=by kernel_rfl
theorem Xef (d:Nat) (a0:Value) (m:Mem):TA (d + 1) Q9j [a0] m=outOf m (Q8a ⟨TA d,18446744073709551616⟩ a0 (withLow m m.next)):=by
 rw [Xu (e:=Qii) (by kernel_rfl) (by kernel_rfl) (by kernel_rfl),Xku,X16]
theorem Xoa:Qje.h=arg1 (fun G a0 m=>Qeb G a0 m):=by kernel_rfl
theorem Xnu (d:Nat) (a0:Value) (m:Mem):TA (d + 1) Qhl [a0] m=outOf m (Qeb ⟨TA d,18446744073709551616⟩ a0 (withLow m m.next)):=by
 rw [Xu (e:=Qje) (by kernel_rfl) (by kernel_rfl) (by kernel_rfl),Xoa,X16]
theorem Xid:Qht.h=arg2 (fun G a0 a1 m=>Qba G a0 a1 m):=by kernel_rfl
theorem Xj7 (d:Nat) (a0 a1:Value) (m:Mem):TA (d + 1) Qaw [a0,a1] m=outOf m (Qba ⟨TA d,18446744073709551616⟩ a0 a1 (withLow m m.next)):=by
 rw [Xu (e:=Qht) (by kernel_rfl) (by kernel_rfl) (by kernel_rfl),Xid,Xr]
theorem Xjv:Qim.h=arg1 (fun G a0 m=>Q9i G a0 m):=by kernel_rfl
theorem Xki (d:Nat) (a0:Value) (m:Mem):TA (d + 1) Qcy [a0] m=outOf m (Q9i ⟨TA d,18446744073709551616⟩ a0 (withLow m m.next)):=by
 rw [Xu (e:=Qim) (by kernel_rfl) (by kernel_rfl) (by kernel_rfl),Xjv,X16]
theorem Xgy:Qh2.h=arg1 (fun G a0 m=>Q99 G a0 m):=by kernel_rfl
theorem Xgn (d:Nat) (a0:Value) (m:Mem):TA (d + 1) Qf5 [a0] m=outOf m (Q99 ⟨TA d,18446744073709551616⟩ a0 (withLow m m.next)):=by
 rw [Xu (e:=Qh2) (by kernel_rfl) (by kernel_rfl) (by kernel_rfl),Xgy,X16]
theorem Xi1:Qhv.h=arg1 (fun G a0 m=>Qb2 G a0 m):=by kernel_rfl
theorem Xjk (d:Nat) (a0:Value) (m:Mem):TA (d + 1) Qfl [a0] m=outOf m (Qb2 ⟨TA d,18446744073709551616⟩ a0 (withLow m m.next)):=by
 rw [Xu (e:=Qhv) (by kernel_rfl) (by kernel_rfl) (by kernel_rfl),Xi1,X16]
theorem X4g:Q7m.h=arg1 (fun G a0 m=>Q1y G a0 m):=by kernel_rfl
theorem X4e (d:Nat) (a0:Value) (m:Mem):TA (d + 1) Q52 [a0] m=outOf m (Q1y ⟨TA d,18446744073709551616⟩ a0 (withLow m m.next)):=by
 rw [Xu (e:=Q7m) (by kernel_rfl) (by kernel_rfl) (by kernel_rfl),X4g,X16]
theorem Xbm:Qef.h=arg1 (fun G a0 m=>Q6g G a0 m):=by kernel_rfl
theorem Xbj (d:Nat) (a0:Value) (m:Mem):TA (d + 1) Qaf [a0] m=outOf m (Q6g ⟨TA d,18446744073709551616⟩ a0 (withLow m m.next)):=by
 rw [Xu (e:=Qef) (by kernel_rfl) (by kernel_rfl) (by kernel_rfl),Xbm,X16]
theorem X1e:Q19.h=arg2 (fun G a0 a1 m=>Qa G a0 a1 m):=by kernel_rfl
theorem X1f (d:Nat) (a0 a1:Value) (m:Mem):TA (d + 1) Qj [a0,a1] m=outOf m (Qa ⟨TA d,18446744073709551616⟩ a0 a1 (withLow m m.next)):=by
 rw [Xu (e:=Q19) (by kernel_rfl) (by kernel_rfl) (by kernel_rfl),X1e,Xr]
theorem X2f:Q2y.h=arg2 (fun G a0 a1 m=>Qv G a0 a1 m):=by kernel_rfl
theorem X2d (d:Nat) (a0 a1:Value) (m:Mem):TA (d + 1) Q16 [a0,a1] m=outOf m (Qv ⟨TA d,18446744073709551616⟩ a0 a1 (withLow m m.next)):=by
 rw [Xu (e:=Q2y) (by kernel_rfl) (by kernel_rfl) (by kernel_rfl),X2f,Xr]
theorem X22:Q27.h=arg2 (fun G a0 a1 m=>Qn G a0 a1 m):=by kernel_rfl
theorem X25 (d:Nat) (a0 a1:Value) (m:Mem):TA (d + 1) Q11 [a0,a1] m=outOf m (Qn ⟨TA d,18446744073709551616⟩ a0 a1 (withLow m m.next)):=by
 rw [Xu (e:=Q27) (by kernel_rfl) (by kernel_rfl) (by kernel_rfl),X22,Xr]
theorem X1q:Q1o.h=arg2 (fun G a0 a1 m=>Qi G a0 a1 m):=by kernel_rfl
theorem X1r (d:Nat) (a0 a1:Value) (m:Mem):TA (d + 1) Qm [a0,a1] m=outOf m (Qi ⟨TA d,18446744073709551616⟩ a0 a1 (withLow m m.next)):=by
 rw [Xu (e:=Q1o) (by kernel_rfl) (by kernel_rfl) (by kernel_rfl),X1q,Xr]
theorem X38:Q5r.h=arg2 (fun G a0 a1 m=>Q1g G a0 a1 m):=by kernel_rfl
theorem X34 (d:Nat) (a0 a1:Value) (m:Mem):TA (d + 1) Q31 [a0,a1] m=outOf m (Q1g ⟨TA d,18446744073709551616⟩ a0 a1 (withLow m m.next)):=by
 rw [Xu (e:=Q5r) (by kernel_rfl) (by kernel_rfl) (by kernel_rfl),X38,Xr]
theorem Xh8:Qh0.h=arg2 (fun G a0 a1 m=>Q9c G a0 a1 m):=by kernel_rfl
theorem Xg2 (d:Nat) (a0 a1:Value) (m:Mem):TA (d + 1) Q3w [a0,a1] m=outOf m (Q9c ⟨TA d,18446744073709551616⟩ a0 a1 (withLow m m.next)):=by
 rw [Xu (e:=Qh0) (by kernel_rfl) (by kernel_rfl) (by kernel_rfl),Xh8,Xr]
theorem Xct:Qfd.h=arg2 (fun G a0 a1 m=>Q7k G a0 a1 m):=by kernel_rfl
theorem Xe2 (d:Nat) (a0 a1:Value) (m:Mem):TA (d + 1) Qdu [a0,a1] m=outOf m (Q7k ⟨TA d,18446744073709551616⟩ a0 a1 (withLow m m.next)):=by
 rw [Xu (e:=Qfd) (by kernel_rfl) (by kernel_rfl) (by kernel_rfl),Xct,Xr]
theorem X8u:Qdh.h=arg2 (fun G a0 a1 m=>Q4c G a0 a1 m):=by kernel_rfl
theorem X8g (d:Nat) (a0 a1:Value) (m:Mem):TA (d + 1) Q6o [a0,a1] m=outOf m (Q4c ⟨TA d,18446744073709551616⟩ a0 a1 (withLow m m.next)):=by
 rw [Xu (e:=Qdh) (by kernel_rfl) (by kernel_rfl) (by kernel_rfl),X8u,Xr]
theorem X9b:Qdl.h=arg2 (fun G a0 a1 m=>Q2b G a1 a0 m):=by kernel_rfl
theorem X47 (d:Nat) (a0 a1:Value) (m:Mem):TA (d + 1) Q2a [a0,a1] m=outOf m (Q2b ⟨TA d,18446744073709551616⟩ a1 a0 (withLow m m.next)):=by
 rw [Xu (e:=Qdl) (by kernel_rfl) (by kernel_rfl) (by kernel_rfl),X9b,Xr]
theorem Xei:Qfc.h=arg2 (fun G a0 a1 m=>Q6c G a0 a1 m):=by kernel_rfl
theorem Xcv (d:Nat) (a0 a1:Value) (m:Mem):TA (d + 1) Q5y [a0,a1] m=outOf m (Q6c ⟨TA d,18446744073709551616⟩ a0 a1 (withLow m m.next)):=by
 rw [Xu (e:=Qfc) (by kernel_rfl) (by kernel_rfl) (by kernel_rfl),Xei,Xr]
theorem Xeq:Qg2.h=arg2 (fun G a0 a1 m=>Q8c G a0 a1 m):=by kernel_rfl
theorem Xem (d:Nat) (a0 a1:Value) (m:Mem):TA (d + 1) Qb0 [a0,a1] m=outOf m (Q8c ⟨TA d,18446744073709551616⟩ a0 a1 (withLow m m.next)):=by
 rw [Xu (e:=Qg2) (by kernel_rfl) (by kernel_rfl) (by kernel_rfl),Xeq,Xr]
theorem X9q:Qe0.h=arg2 (fun G a0 a1 m=>Q5d G a0 a1 m):=by kernel_rfl
theorem X9u (d:Nat) (a0 a1:Value) (m:Mem):TA (d + 1) Q3r [a0,a1] m=outOf m (Q5d ⟨TA d,18446744073709551616⟩ a0 a1 (withLow m m.next)):=by
 rw [Xu (e:=Qe0) (by kernel_rfl) (by kernel_rfl) (by kernel_rfl),X9q,Xr]
theorem X9m:Qe1.h=arg4 (fun G a0 a1 a2 a3 m=>Q3v G a3 a1 a0 a2 m):=by kernel_rfl
theorem Xag (d:Nat) (a0 a1 a2 a3:Value) (m:Mem):TA (d + 1) Q9h [a0,a1,a2,a3] m=outOf m (Q3v ⟨TA d,18446744073709551616⟩ a3 a1 a0 a2 (withLow m m.next)):=by
 rw [Xu (e:=Qe1) (by kernel_rfl) (by kernel_rfl) (by kernel_rfl),X9m,Xkp]
theorem X6g:Q9l.h=arg1 (fun G a0 m=>Q33 G a0 m):=by kernel_rfl
theorem X6f (d:Nat) (a0:Value) (m:Mem):TA (d + 1) Q4u [a0] m=outOf m (Q33 ⟨TA d,18446744073709551616⟩ a0 (withLow m m.next)):=by
 rw [Xu (e:=Q9l) (by kernel_rfl) (by kernel_rfl) (by kernel_rfl),X6g,X16]
theorem X5l:Q8v.h=arg2 (fun G a0 a1 m=>Q2r G a0 a1 m):=by kernel_rfl
theorem X69 (d:Nat) (a0 a1:Value) (m:Mem):TA (d + 1) Q44 [a0,a1] m=outOf m (Q2r ⟨TA d,18446744073709551616⟩ a0 a1 (withLow m m.next)):=by
 rw [Xu (e:=Q8v) (by kernel_rfl) (by kernel_rfl) (by kernel_rfl),X5l,Xr]
theorem X6i:Q9k.h=arg2 (fun G a0 a1 m=>Q32 G a0 a1 m):=by kernel_rfl
theorem X6h (d:Nat) (a0 a1:Value) (m:Mem):TA (d + 1) Q4q [a0,a1] m=outOf m (Q32 ⟨TA d,18446744073709551616⟩ a0 a1 (withLow m m.next)):=by
 rw [Xu (e:=Q9k) (by kernel_rfl) (by kernel_rfl) (by kernel_rfl),X6i,Xr]
theorem X4y:Q8h.h=arg2 (fun G a0 a1 m=>Q2g G a0 a1 m):=by kernel_rfl
theorem X53 (d:Nat) (a0 a1:Value) (m:Mem):TA (d + 1) Q62 [a0,a1] m=outOf m (Q2g ⟨TA d,18446744073709551616⟩ a0 a1 (withLow m m.next)):=by
 rw [Xu (e:=Q8h) (by kernel_rfl) (by kernel_rfl) (by kernel_rfl),X4y,Xr]
theorem X5c:Q8i.h=arg1 (fun G a0 m=>Q2c G a0 m):=by kernel_rfl
theorem X58 (d:Nat) (a0:Value) (m:Mem):TA (d + 1) Q60 [a0] m=outOf m (Q2c ⟨TA d,18446744073709551616⟩ a0 (withLow m m.next)):=by
 rw [Xu (e:=Q8i) (by kernel_rfl) (by kernel_rfl) (by kernel_rfl),X5c,X16]
theorem X4w:Q8g.h=arg2 (fun G a0 a1 m=>Q1t G a0 a1 m):=by kernel_rfl
theorem X5d (d:Nat) (a0 a1:Value) (m:Mem):TA (d + 1) Q3u [a0,a1] m=outOf m (Q1t ⟨TA d,18446744073709551616⟩ a0 a1 (withLow m m.next)):=by
 rw [Xu (e:=Q8g) (by kernel_rfl) (by kernel_rfl) (by kernel_rfl),X4w,Xr]
theorem X9r:Qe5.h=arg1 (fun G a0 m=>Q3t G a0 m):=by kernel_rfl
theorem X9t (d:Nat) (a0:Value) (m:Mem):TA (d + 1) Q77 [a0] m=outOf m (Q3t ⟨TA d,18446744073709551616⟩ a0 (withLow m m.next)):=by
 rw [Xu (e:=Qe5) (by kernel_rfl) (by kernel_rfl) (by kernel_rfl),X9r,X16]
end Go.Ab.Sh

namespace Go.Ab
open Go Go.Lib

def isD (c:UInt8):Bool:=Nat.ble 48 c.toNat && Nat.ble c.toNat 57
theorem Xk2 (c:UInt8):isD c=true ↔ 48 ≤ c.toNat∧c.toNat ≤ 57:=by unfold isD; simp [Nat.ble_eq]
def val:Nat→Str→Nat
 | acc,[]=>acc
 | acc,c :: l=>val (acc * 10 + (c.toNat - 48)) l
theorem val_append (l:Str) (c:UInt8):∀ acc,val acc (l ++ [c])=val acc l * 10 + (c.toNat - 48):=by
 induction l with
 | nil=>intro acc; rfl
 | cons a l ih=>intro acc; exact ih _
theorem Xsq (d:Nat) (h:d < 10):(UInt8.ofNat (48 + d)).toNat=48 + d:=by
 rw [UInt8.toNat_ofNat']; omega
theorem Xdg {n:Nat} (h:n < 10):decDigits n=[UInt8.ofNat (48 + n)]:=by rw [decDigits,dif_pos h]
theorem Xk1 {n:Nat} (h:¬ n < 10):decDigits n=decDigits (n / 10) ++ [UInt8.ofNat (48 + n % 10)]:=by rw [decDigits,dif_neg h]
theorem Xyp (n:Nat):decDigits n ≠ []:=by
 intro h
 have:=decDigits_length n
 rw [h] at this
 have:=nDigits_pos n
 simp at *
 omega
theorem Xld (n:Nat):val 0 (decDigits n)=n:=by
 induction n using Nat.strongRecOn with
 | _ n ih =>
  by_cases h:n < 10
  ·rw [Xdg h]
   show 0 * 10 + ((UInt8.ofNat (48 + n)).toNat - 48)=n
   rw [Xsq n h]; omega
  ·rw [Xk1 h,val_append,ih (n / 10) (by omega),Xsq _ (Nat.mod_lt _ (by omega))]
   omega
theorem Xvw (n:Nat):(decDigits n).all isD=true:=by
 induction n using Nat.strongRecOn with
 | _ n ih =>
  by_cases h:n < 10
  ·rw [Xdg h]
   simp only [List.all_cons,List.all_nil,Bool.and_true,Xk2,Xsq n h]; omega
  ·rw [Xk1 h,List.all_append,ih (n / 10) (by omega)]
   simp only [List.all_cons,List.all_nil,Bool.and_true,Bool.true_and,Xk2,Xsq _ (Nat.mod_lt n (by omega:0 < 10))]
   have:=Nat.mod_lt n (by omega:0 < 10)
   omega
def num (most:Nat) (s:Str):Option Nat:=if s=decDigits (val 0 s)∧val 0 s ≤ most then some (val 0 s) else none
theorem num_some {most:Nat} {s:Str} {n:Nat}:num most s=some n ↔ s=decDigits n∧n ≤ most:=by
 unfold num
 constructor
 ·intro h
  split at h
  ·rename_i h1
   cases h
   exact h1
  ·cases h
 ·rintro ⟨rfl,h⟩
  rw [Xld,if_pos ⟨rfl,h⟩]
theorem Xhl (n:Nat):itoa (n:Int)=decDigits n:=by
 unfold itoa
 rw [if_neg (by omega),Int.toNat_natCast]
theorem Xu5 {c:UInt8} (h:isD c=true):48 ≤ c.toNat∧c.toNat ≤ 57:=(Xk2 c).mp h
theorem Xd9:∀ (l:Str) (acc:Nat),l.all isD=true→val acc l < 1844674407370955162→parseUint10 acc l=.ok (val acc l)
 | [],acc,_,_=>rfl
 | c :: l,acc,h,hv=>by
  simp only [List.all_cons,Bool.and_eq_true] at h
  have hc:=Xu5 h.1
  have mono:∀ (l:Str) (a:Nat),a ≤ val a l:=by
   intro l
   induction l with
   | nil=>intro a; exact Nat.le_refl _
   | cons c l ih=>intro a; exact Nat.le_trans (by omega) (ih _)
  have h1:=mono l (acc * 10 + (c.toNat - 48))
  have hv':val (acc * 10 + (c.toNat - 48)) l < 1844674407370955162:=hv
  show (if 48 ≤ c.toNat∧c.toNat ≤ 57 then _ else _)=_
  rw [if_pos hc,if_neg (by omega),if_neg (by omega)]
  exact Xd9 l _ h.2 hv'
theorem Xsg (n:Nat) (h:n < 1000000000000):atoiAll (decDigits n)=.ok (n:Int):=by
 have ha:=Xvw n
 have hp:=Xd9 (decDigits n) 0 ha (by rw [Xld]; omega)
 rw [Xld] at hp
 cases hd:decDigits n with
 | nil=>exact absurd hd (Xyp n)
 | cons c r =>
  rw [hd] at ha hp
  simp only [List.all_cons,Bool.and_eq_true] at ha
  have hc:=Xu5 ha.1
  unfold atoiAll
  simp only
  rw [if_neg (by omega)]
  unfold parseMag
  rw [if_neg (by simp),hp]
  simp only
  rw [if_neg (by omega),if_neg (by omega),if_neg (by omega)]
theorem Xvy (n k:Nat) (hk:1 ≤ k) (h:n < 10 ^ k):(decDigits n).length ≤ k:=by
 induction k generalizing n with
 | zero=>omega
 | succ k ih =>
  by_cases hn:n < 10
  ·rw [Xdg hn]; simp
  ·rw [Xk1 hn,List.length_append]
   have:1 ≤ k:=by
    cases k with
    | zero=>simp at h; omega
    | succ k=>omega
   have:=ih (n / 10) this (by rw [Nat.pow_succ] at h; omega)
   simp only [List.length_cons,List.length_nil]
   omega
end Go.Ab

set_option maxRecDepth 100000
namespace Go.Ab
open Go Go.Lib
theorem X5a {n:Nat} (h:n < 9223372036854775808):Xb3 (n:Int)=true:=Nat.blt_eq.mpr h
theorem Fr.wl {m:Mem} {l:Nat}:Fr [] (withLow m l) (withLow m l):=.refl _ _
end Go.Ab
namespace Go.Ab.Sh
open Go Go.Ab Go.Lib

theorem c_Itoa (n:Int) (h:Xb3 n=true) (d:Nat) (m:Mem):TA d Q1r [I n] m=some (sv (itoa n),m):=by
 refine Xes (o:=Qnw) (by kernel_rfl) ?_ d
 obtain ⟨q1,q2⟩:=Xe8 h
 show (if Q1r=Q1r∧Xb3 n=true then some (Value.string ⟨(Xw7 n).toArray⟩,m) else none)=_
 rw [if_pos ⟨rfl,h⟩,Xmm q1 q2]
 rfl
theorem c_ItoaN (n:Nat) (h:n < 1000000000000) (d:Nat) (m:Mem):TA d Q1r [I n] m=some (sv (decDigits n),m):=by
 rw [c_Itoa n (X5a (by omega)),Xhl]
theorem c_Atoi (s:Str) (hs:s.length ≤ 4194304) (d:Nat) (m:Mem):∃ v e m1,TA d Q35 [sv s] m=some (.tuple ⟨[I v,e]⟩,m1)∧Fr [] m m1 ∧
  ((atoiAll s=.ok v∧e=.nilIface)∨((∀ v,atoiAll s ≠ .ok v)∧∃ p,e=.iface Qc (.pointer (some p)))):=by
 have key:∀ r,Qlf Q35 [sv s] m=some r→TA d Q35 [sv s] m=some r:=fun r h=>Xes (o:=Qlf) (by kernel_rfl) h d
 have e:Qlf Q35 [sv s] m=(match atoiAll s with
   | .ok v=>some (.tuple #[.int .i64 v,.nilIface],m)
   | Lib.NumEnd.syntax=>errV (.int .i64 0) Qc m
   | .range=>errV (.int .i64 (atoiSat s)) Qc m):=by
  show (if Q35=Q35∧s.length ≤ 281474976710656 then _ else none)=_
  rw [if_pos ⟨rfl,by omega⟩]
  rfl
 rw [e] at key
 cases h:atoiAll s with
 | ok v =>
  rw [h] at key
  exact ⟨v,.nilIface,m,key _ rfl,.refl _ _,.inl ⟨rfl,rfl⟩⟩
 | range =>
  rw [h] at key
  exact ⟨_,_,_,key _ rfl,.push _,.inr ⟨by simp,_,rfl⟩⟩
 | _ =>
  rw [h] at key
  exact ⟨0,_,_,key _ rfl,.push _,.inr ⟨by simp,_,rfl⟩⟩
theorem nilI (g:Bool):bin .neq true g .iface .nilIface .nilIface=some (.bool false):=by
 rw [X1u]; cases g <;> rfl
theorem nilE (g:Bool):bin .eql true g .iface .nilIface .nilIface=some (.bool true):=by
 rw [X1u]; cases g <;> rfl
theorem Xvb (T:TypeId) (p:Addr):bin .neq true false .iface (.iface T (.pointer (some p))) .nilIface=some (.bool true):=by rw [X1u]; rfl
theorem Xza (T:TypeId) (p:Addr):bin .eql true false .iface (.iface T (.pointer (some p))) .nilIface=some (.bool false):=by rw [X1u]; rfl

theorem Xsh {s:Str} {v:Int} {most:Nat} (h:atoiAll s=.ok v):(0 ≤ v∧v ≤ most∧itoa v=s) ↔ num most s=some v.toNat∧0 ≤ v:=by
 constructor
 ·rintro ⟨h1,h2,h3⟩
  obtain ⟨n,rfl⟩:=Int.eq_ofNat_of_zero_le h1
  rw [Xhl] at h3
  exact ⟨num_some.mpr ⟨h3.symm,by omega⟩,h1⟩
 ·rintro ⟨h1,h2⟩
  obtain ⟨n,rfl⟩:=Int.eq_ofNat_of_zero_le h2
  obtain ⟨q1,q2⟩:=num_some.mp h1
  rw [Int.toNat_natCast] at q1 q2
  exact ⟨h2,by omega,by rw [Xhl]; exact q1.symm⟩
theorem X3y {s:Str} {n most:Nat} (hm:most < 1000000000000) (h:num most s=some n):atoiAll s=.ok (n:Int):=by
 obtain ⟨rfl,h2⟩:=num_some.mp h
 exact Xsg n (by omega)
theorem c_lexNumber (s:Str) (hs:s.length ≤ 4194304) (most:Nat) (hm:most < 1000000000000) (d:Nat) (m:Mem) :
  TA (d + 1) Qaw [sv s,I most] m=some (match num most s with | some n=>.tuple ⟨[I n,.bool true]⟩ | none=>.tuple ⟨[I 0,.bool false]⟩,m):=by
 rw [Xj7]
 obtain ⟨v,e,m1,k1,k2,k3⟩:=c_Atoi s hs d (withLow m m.next)
 refine X1l (m1:=m1) ?_ k2 (by cases num most s <;> rfl)
 unfold Qba Qga Qgb
 simp only [k1,X6,ex0,ex1,X4]
 rcases k3 with ⟨h1,rfl⟩ | ⟨h1,p,rfl⟩
 ·have ht:=Xsh (most:=most) h1
  simp only [nilI,X4,Xa,Qw,Qby,Xt,Q6x,Xc]
  by_cases c1:v < 0
  ·rw [if_pos c1]
   cases hn:num most s with
   | none=>rfl
   | some n=>have:=X3y hm hn; rw [h1] at this; cases this; omega
  ·rw [if_neg c1]
   by_cases c2:(most:Int) < v
   ·rw [if_pos c2]
    cases hn:num most s with
    | none=>rfl
    | some n =>
     have:=X3y hm hn; rw [h1] at this; cases this
     have:=(num_some.mp hn).2
     omega
   ·rw [if_neg c2]
    obtain ⟨n,rfl⟩:=Int.eq_ofNat_of_zero_le (by omega:0 ≤ v)
    have c2':n ≤ most:=by omega
    rw [c_ItoaN n (by omega)]
    simp only [X6,Qkc,X4,Xt]
    by_cases c3:decDigits n=s
    ·have:num most s=some n:=num_some.mpr ⟨c3.symm,c2'⟩
     rw [this,if_neg (by simpa using c3)]
    ·rw [if_pos c3]
     cases hn:num most s with
     | none=>rfl
     | some k =>
      have:=X3y hm hn; rw [h1] at this; cases this
      exact absurd (num_some.mp hn).1.symm c3
 ·simp only [Xvb,X4,Xc,Q6x]
  cases hn:num most s with
  | none=>rfl
  | some n=>exact absurd (X3y hm hn) (h1 _)
theorem c_addrNumber (s:Str) (hs:s.length ≤ 4194304) (most:Nat) (hm:most < 1000000000000) (d:Nat) (m:Mem) :
  ∃ v:Int,TA (d + 1) Q6i [sv s,I most] m=some (.tuple ⟨[I v,.bool (num most s).isSome]⟩,m)∧∀ n,num most s=some n→v=n:=by
 rw [Xg3]
 obtain ⟨v,e,m1,k1,k2,k3⟩:=c_Atoi s hs d (withLow m m.next)
 refine ⟨v,X1l (m1:=m1) ?_ k2 rfl,?_⟩
 ·unfold Q9a Qfr Qfq
  simp only [k1,X6,ex0,ex1,X4]
  rcases k3 with ⟨h1,rfl⟩ | ⟨h1,p,rfl⟩
  ·simp only [nilE,X4,Xc,Qhj,Qhk,Xt,Q6a]
   by_cases c1:0 ≤ v
   ·rw [if_pos c1]
    by_cases c2:v ≤ (most:Int)
    ·rw [if_pos c2]
     obtain ⟨n,rfl⟩:=Int.eq_ofNat_of_zero_le c1
     rw [c_ItoaN n (by omega)]
     simp only [X6,Qo,X4]
     by_cases c3:decDigits n=s
     ·have:num most s=some n:=num_some.mpr ⟨c3.symm,by omega⟩
      rw [this]; simp [c3]
     ·cases hn:num most s with
      | none=>simp [c3]
      | some k =>
       have:=X3y hm hn; rw [h1] at this; cases this
       exact absurd (num_some.mp hn).1.symm c3
    ·rw [if_neg c2]
     cases hn:num most s with
     | none=>rfl
     | some n =>
      have:=X3y hm hn; rw [h1] at this; cases this
      have:=(num_some.mp hn).2
      omega
   ·rw [if_neg c1]
    cases hn:num most s with
    | none=>rfl
    | some n=>have:=X3y hm hn; rw [h1] at this; cases this; omega
  ·simp only [Xza,X4,Xa,Q6a]
   cases hn:num most s with
   | none=>rfl
   | some n=>exact absurd (X3y hm hn) (h1 _)
 ·intro n hn
  have h2:=X3y hm hn
  rcases k3 with ⟨h1,_⟩ | ⟨h1,_⟩
  ·rw [h1] at h2; cases h2; rfl
  ·exact absurd h2 (h1 _)

end Go.Ab.Sh

set_option maxRecDepth 100000
namespace Go.Ab
open Go Go.Lib

def cut (c:UInt8):Str→Option (Str × Str)
 | []=>none
 | a :: l=>if a=c then some ([],l) else match cut c l with | none=>none | some (x,y)=>some (a :: x,y)
def split (c:UInt8):Str→List Str
 | []=>[[]]
 | a :: l=>if a=c then [] :: split c l else match split c l with | w :: ws=>(a :: w) :: ws | []=>[[a]]
theorem X56 (c a:UInt8) (l:Str):split c (a :: l)=if a=c then [] :: split c l else match split c l with | w :: ws=>(a :: w) :: ws | []=>[[a]]:=rfl
theorem X67 (c:UInt8):∀ l,split c l ≠ []
 | []=>by simp [split]
 | a :: l=>by
  unfold split
  split
  ·simp
  ·split <;> simp
theorem X7o {c:UInt8}:∀ {l:Str},cut c l=none→split c l=[l]
 | [],_=>rfl
 | a :: l,h=>by
  unfold cut at h
  rw [X56]
  split at h
  ·cases h
  ·rename_i hc
   rw [if_neg hc]
   cases hk:cut c l with
   | none=>rw [X7o hk]
   | some p=>rw [hk] at h; cases h
theorem X5b {c:UInt8}:∀ {l x y:Str},cut c l=some (x,y)→split c l=x :: split c y
 | a :: l,x,y,h=>by
  unfold cut at h
  rw [X56]
  split at h
  ·rename_i hc
   cases h
   rw [if_pos hc]
  ·rename_i hc
   rw [if_neg hc]
   cases hk:cut c l with
   | none=>rw [hk] at h; cases h
   | some p =>
    rw [hk] at h
    cases h
    rw [X5b hk]
theorem Xib {c:UInt8}:∀ {l x y:Str},cut c l=some (x,y)→l=x ++ c :: y∧c ∉ x
 | a :: l,x,y,h=>by
  unfold cut at h
  split at h
  ·rename_i hc
   cases h
   subst hc
   exact ⟨rfl,by simp⟩
  ·rename_i hc
   cases hk:cut c l with
   | none=>rw [hk] at h; cases h
   | some p =>
    rw [hk] at h
    cases h
    obtain ⟨q1,q2⟩:=Xib hk
    exact ⟨by rw [q1]; rfl,by simp only [List.mem_cons,not_or]; exact ⟨fun e=>hc e.symm,q2⟩⟩
theorem Xoy {c:UInt8}:∀ {l:Str},cut c l=none→c ∉ l
 | [],_=>by simp
 | a :: l,h=>by
  unfold cut at h
  split at h
  ·cases h
  ·rename_i hc
   cases hk:cut c l with
   | none=>simp only [List.mem_cons,not_or]; exact ⟨fun e=>hc e.symm,Xoy hk⟩
   | some p=>rw [hk] at h; cases h
theorem Xow {c:UInt8}:∀ {x:Str} (y:Str),c ∉ x→cut c (x ++ c :: y)=some (x,y)
 | [],y,_=>by simp [cut]
 | a :: x,y,h=>by
  simp only [List.mem_cons,not_or] at h
  have hne:¬ a=c:=fun e=>h.1 e.symm
  show (if a=c then some ([],x ++ c :: y) else match cut c (x ++ c :: y) with | none=>none | some (x,y)=>some (a :: x,y))=_
  rw [if_neg hne,Xow y h.2]
theorem Xeg {c:UInt8} {l x y:Str} (h:cut c l=some (x,y)):l.count c=y.count c + 1:=by
 obtain ⟨rfl,h2⟩:=Xib h
 rw [List.count_append,List.count_cons_self,List.count_eq_zero_of_not_mem h2]
 omega
theorem count_none {c:UInt8} {l:Str} (h:cut c l=none):l.count c=0:=List.count_eq_zero_of_not_mem (Xoy h)
theorem X9d {c:UInt8} {l x y:Str} (h:cut c l=some (x,y)):l.length=x.length + y.length + 1:=by
 obtain ⟨rfl,_⟩:=Xib h
 simp; omega
theorem X46 (c:UInt8):∀ (n:Nat) (l:Str),l.length ≤ n→(split c l).length=l.count c + 1
 | n,l,hn=>by
  cases h:cut c l with
  | none=>rw [X7o h,count_none h]; rfl
  | some p =>
   obtain ⟨x,y⟩:=p
   rw [X5b h,Xeg h]
   have:=X9d h
   cases n with
   | zero=>omega
   | succ n=>rw [List.length_cons,X46 c n y (by omega)]
theorem index_one (c:UInt8):∀ (l:Str),index l [c]=match cut c l with | none=>-1 | some (x,_)=>(x.length:Int)
 | []=>rfl
 | a :: l=>by
  have ih:=index_one c l
  unfold index cut
  by_cases hc:a=c
  ·subst hc
   simp
  ·have e:([c]:Str).isPrefixOf (a :: l)=false:=by
    simp [List.isPrefixOf]
    exact fun e=>hc e.symm
   rw [e,if_neg hc,ih]
   cases hk:cut c l with
   | none=>rfl
   | some p =>
    obtain ⟨x,y⟩:=p
    simp only [Bool.false_eq_true,if_false]
    have:((x.length:Int) == -1)=false:=by simp
    rw [this]
    simp

def SL (m:Mem) (v:Value) (ws:List Str):Prop:=
 ∃ b o r c fro ro ty,v=.slice (some ⟨b,o,some 1⟩) ws.length r∧b < m.next∧m.get b=some (.cells c (r / 2) fro ro ty)∧o + ws.length ≤ c.length∧∀ i w,ws[i]?=some w→c[o + i]?=some (sv w)
theorem SL.fr {W:List Nat} {m m':Mem} {v:Value} {ws:List Str} (h:SL m v ws) (f:Fr W m m') (hw:∀ b ∈ W,m.next ≤ b):SL m' v ws:=by
 obtain ⟨b,o,r,c,fro,ro,ty,h1,h2,h3,h4,h5⟩:=h
 exact ⟨b,o,r,c,fro,ro,ty,h1,Nat.lt_of_lt_of_le h2 f.next,by rw [f.get b h2 (fun hb=>by have:=hw b hb; omega)]; exact h3,h4,h5⟩
theorem SL.len {m:Mem} {v:Value} {ws:List Str} (h:SL m v ws) (m':Mem):lenK 1 v m'=some (I ws.length):=by
 obtain ⟨b,o,r,c,fro,ro,ty,rfl,_⟩:=h
 exact Xb9 _ _ _ _
theorem SL.at {m:Mem} {v:Value} {ws:List Str} (h:SL m v ws) {i:Nat} {w:Str} (hw:ws[i]?=some w):∃ p,Xb 1 v (.int .i64 (i:Int))=some p∧X7 false 1 p m=some (sv w):=by
 obtain ⟨b,o,r,c,fro,ro,ty,rfl,h2,h3,h4,h5⟩:=h
 have hlt:i < ws.length:=(List.getElem?_eq_some_iff.mp hw).1
 refine ⟨pt b (o + i * 1) (r / 2),?_,?_⟩
 ·rw [X1v]
  have h1:Nat.blt i ws.length=true:=Nat.blt_eq.mpr hlt
  show (match Nat.blt i ws.length && X1m (some 1) 1 with | true=>some (Value.pointer (some ⟨b,o + i * 1,some (r / 2)⟩)) | false=>none)=_
  rw [h1,X1h]
  rfl
 ·rw [Nat.mul_one]
  exact X17 h3 (h5 i w hw)
theorem SL.tail {m:Mem} {v:Value} {w:Str} {ws:List Str} (h:SL m v (w :: ws)):∃ v',X7f 1 v (some (I 1)) none=some v'∧SL m v' ws:=by
 obtain ⟨b,o,r,c,fro,ro,ty,rfl,h2,h3,h4,h5⟩:=h
 refine ⟨.slice (some ⟨b,o + 1 * 1,some 1⟩) ws.length r,?_,b,o + 1 * 1,r,c,fro,ro,ty,rfl,h2,h3,by simp at h4; omega,fun i x hx=>?_⟩
 ·have hb:Nat.ble 1 (w :: ws).length=true:=Nat.ble_eq.mpr (by simp)
  show (match (match Nat.ble 1 (w :: ws).length with | true=>some 1 | false=>none) with
   | some l=>if some 1=some 1 then some (Value.slice (some ⟨b,o + l * 1,some 1⟩) ((w :: ws).length - l) (if (w :: ws).length=(w :: ws).length then r else r / 2 * 2)) else none
   | none=>none)=_
  rw [hb]
  simp
 ·have:=h5 (i + 1) x (by simpa using hx)
  rw [show o + 1 * 1 + i=o + (i + 1) by omega]
  exact this
end Go.Ab

namespace Go.Ab.Sh
open Go Go.Ab Go.Lib
theorem c_Idx (s:Str) (hs:s.length ≤ 4194304) (c:UInt8) (d:Nat) (m:Mem):TA d Q1e [sv s,sv [c]] m=some (I (match cut c s with | none=>-1 | some (x,_)=>(x.length:Int)),m):=by
 refine Xes (o:=Qn6) (by kernel_rfl) ?_ d
 show (if Q1e=Q1e∧s.length < 4294967281 then some (Value.int .i64 (ixF s [c]),m) else none)=_
 rw [if_pos ⟨rfl,by omega⟩,Xup,index_one]
theorem c_Index (s:Str) (hs:s.length ≤ 4194304) (c:UInt8) (d:Nat) (m:Mem):TA (d + 1) Qdu [sv s,sv [c]] m=some (I (match cut c s with | none=>-1 | some (x,_)=>(x.length:Int)),m):=by
 rw [Xe2]
 refine X1l (m1:=withLow m m.next) ?_ (.refl _ _) rfl
 unfold Q7k
 simp only [c_Idx s hs,X6]
theorem c_Count (s:Str) (c:UInt8) (d:Nat) (m:Mem):TA d Q7h [sv s,sv [c]] m=some (I (s.count c:Nat),m):=by
 refine Xes (o:=Qn7) (by kernel_rfl) ?_ d
 show (if Q7h=Q7h then some (Value.int .i64 (cntF s c),m) else none)=_
 rw [if_pos rfl,Xqs]
 rfl
theorem Xg1 (l:Str) (h:Nat) (hh:h ≤ l.length):X11 (sv l) none (some (I h))=some (sv (l.take h)):=by
 rw [X4h]
 show (match bound (some (I h)) l.length l.length with | some h=>(match bound none 0 h with | some k=>some (Value.string ⟨((l.take h).drop k).toArray⟩) | none=>none) | none=>none)=_
 have:bound (some (I h)) l.length l.length=some h:=by
  show (match Nat.ble h l.length with | true=>some h | false=>none)=_
  rw [Nat.ble_eq.mpr hh]
 rw [this]
 rfl
theorem Xa8 (l:Str) (k:Nat) (hk:k ≤ l.length):X11 (sv l) (some (I k)) none=some (sv (l.drop k)):=by
 rw [X4h]
 show (match bound (some (I k)) 0 l.length with | some k=>some (Value.string ⟨((l.take l.length).drop k).toArray⟩) | none=>none)=_
 have:bound (some (I k)) 0 l.length=some k:=by
  show (match Nat.ble k l.length with | true=>some k | false=>none)=_
  rw [Nat.ble_eq.mpr hk]
 rw [this,List.take_length]
 rfl
theorem Xmg {c:UInt8} {l x y:Str} (h:cut c l=some (x,y)):l.take x.length=x∧l.drop (x.length + 1)=y∧x.length + 1 ≤ l.length:=by
 have h3:=X9d h
 obtain ⟨rfl,_⟩:=Xib h
 refine ⟨by simp,?_,by omega⟩
 rw [List.drop_append]
 simp
theorem c_Cut (s:Str) (hs:s.length ≤ 4194304) (c:UInt8) (d:Nat) (m:Mem):TA (d + 2) Q3w [sv s,sv [c]] m =
  some (match cut c s with | none=>.tuple ⟨[sv s,sv [],.bool false]⟩ | some (x,y)=>.tuple ⟨[sv x,sv y,.bool true]⟩,m):=by
 have inner:∀ m,TA (d + 1) Q57 [sv s,sv [c]] m=some (match cut c s with | none=>.tuple ⟨[sv s,sv [],.bool false]⟩ | some (x,y)=>.tuple ⟨[sv x,sv y,.bool true]⟩,m):=by
  intro m
  rw [X4d]
  refine X1l (m1:=withLow m m.next) ?_ (.refl _ _) (by cases cut c s <;> rfl)
  unfold Q1z
  simp only [c_Idx s hs,X6]
  cases h:cut c s with
  | none =>
   simp only [Qhk,X4,Xt]
   rfl
  | some p =>
   obtain ⟨x,y⟩:=p
   obtain ⟨q1,q2,q3⟩:=Xmg h
   have w:IntKind.i64.wrap ((x.length:Int) + (1:Nat))=((x.length + 1:Nat):Int):=by rw [IntWalk.i64_in _ (by omega)]; omega
   have e1:([c]:Str).length=1:=rfl
   simp only [Qhk,X4,Xt,if_pos (Int.natCast_nonneg x.length),X3r,Q3p,e1,w,Xg1 s x.length (by omega),Xa8 s (x.length + 1) q3,q1,q2]
 rw [Xg2]
 refine X1l (m1:=withLow m m.next) ?_ (.refl _ _) (by cases cut c s <;> rfl)
 unfold Q9c
 simp only [inner,X6]
 cases cut c s with
 | none=>simp only [ex0,ex1,ex2,X4]
 | some p=>simp only [ex0,ex1,ex2,X4]
end Go.Ab.Sh

set_option maxRecDepth 100000
namespace Go.Ab.Sh
open Go Go.Ab Go.Lib
theorem Xul (b n r:Nat) (i:Nat) (h:i < n):Xb 1 (.slice (some ⟨b,0,some 1⟩) n r) (.int .i64 (i:Int))=some (pt b i (r / 2)):=by
 rw [X1v]
 have h1:Nat.blt i n=true:=Nat.blt_eq.mpr h
 show (match Nat.blt i n && X1m (some 1) 1 with | true=>some (Value.pointer (some ⟨b,0 + i * 1,some (r / 2)⟩)) | false=>none)=_
 rw [h1,X1h]
 simp
theorem Xwt (b n r k:Nat) (h:k ≤ n):X7f 1 (.slice (some ⟨b,0,some 1⟩) n r) none (some (I k))=some (.slice (some ⟨b,0,some 1⟩) k (if k=n then r else r / 2 * 2)):=by
 have hb:Nat.ble k n=true:=Nat.ble_eq.mpr h
 show (match (match Nat.ble k n with | true=>some k | false=>none) with
  | some h=>(match some 0 with
   | some l=>if some 1=some 1 then some (Value.slice (some ⟨b,0 + l * 1,some 1⟩) (h - l) (if h=n then r else r / 2 * 2)) else none
   | none=>none)
  | none=>none)=_
 rw [hb]
 simp
theorem Xxd (w:Str):(sv w).cells.toList.all one=true:=rfl
theorem Xac (d:Nat) (c:UInt8) (b:Nat) (ty:Option Nat):∀ (k:Nat) (rest:Str) (done:List Str) (cs:List Value) (m:Mem),rest.length ≤ 4194304→rest.count c < k →
  m.get b=some (.cells cs 0 0 false ty)→cs.length=done.length + rest.count c + 1→cs.length ≤ 4194305→(∀ (j:Nat) (w:Str),done[j]?=some w→cs[j]?=some (sv w)) →
  ∃ m1 cs',Q6d ⟨TA (d + 1),18446744073709551616⟩ k (I done.length) (I (cs.length - 1:Nat)) (sv rest) (sv [c]) (.slice (some ⟨b,0,some 1⟩) cs.length 1) (I 0) m =
   some (.slice (some ⟨b,0,some 1⟩) cs.length 1,m1)∧Fr [b] m m1∧m1.get b=some (.cells cs' 0 0 false ty)∧cs'.length=cs.length∧∀ (j:Nat) (w:Str),(done ++ split c rest)[j]?=some w→cs'[j]?=some (sv w)
 | 0,_,_,_,_,_,hk,_,_,_,_=>by omega
 | k + 1,rest,done,cs,m,hr,hk,hb,hl,hd,hc=>by
  have hcount:=List.count_le_length (a:=c) (l:=rest)
  unfold Q6d
  -- a cell written
  have put:∀ (x:Str),∃ m',X8 1 (pt b done.length 0) (sv x) m=some m'∧Fr [b] m m'∧m'.get b=some (.cells (cs.take done.length ++ [sv x] ++ cs.drop (done.length + 1)) 0 0 false ty):=by
   intro x
   obtain ⟨m',k1,k2⟩:=X1s (o:=done.length) (n:=1) (v:=sv x) hb rfl (Nat.zero_le _) (by omega) (Xxd x) rfl
   refine ⟨m',k1,((Fr.refl _ _).put _ (.inl (by simp))).meq k2,?_⟩
   rw [k2.get,Mem.get_put,if_pos rfl]
   rfl
  have cell:∀ (x:Str) (j:Nat) (w:Str),(done ++ [x])[j]?=some w→(cs.take done.length ++ [sv x] ++ cs.drop (done.length + 1))[j]?=some (sv w):=by
   intro x j w hw
   have h1:(cs.take done.length).length=done.length:=by rw [List.length_take]; omega
   by_cases hj:j < done.length
   ·rw [List.getElem?_append_left hj] at hw
    rw [List.append_assoc,List.getElem?_append_left (by omega),List.getElem?_take_of_lt hj]
    exact hc j w hw
   ·have hj2:j=done.length:=by
     have:=(List.getElem?_eq_some_iff.mp hw).1
     simp at this
     omega
    subst hj2
    simp only [List.getElem?_append_right (Nat.le_refl _),Nat.sub_self,List.getElem?_cons_zero,Option.some.injEq] at hw
    subst hw
    rw [List.append_assoc,List.getElem?_append_right (by omega),h1,Nat.sub_self]
    rfl
  have newlen:∀ (x:Str),(cs.take done.length ++ [sv x] ++ cs.drop (done.length + 1)).length=cs.length:=by
   intro x
   simp only [List.length_append,List.length_take,List.length_cons,List.length_nil,List.length_drop]
   omega
  have w1:IntKind.i64.wrap ((done.length:Int) + 1)=((done.length + 1:Nat):Int):=by rw [IntWalk.i64_in _ (by omega)]; omega
  simp only [Qw,X4,Xt]
  by_cases h0:rest.count c=0
  ·-- the last word
   have hnone:cut c rest=none:=by
    cases h:cut c rest with
    | none=>rfl
    | some p=>obtain ⟨x,y⟩:=p; have:=Xeg h; omega
   have hn:¬ ((done.length:Int) < ((cs.length - 1:Nat):Int)):=by omega
   rw [if_neg hn]
   obtain ⟨m',k1,k2,k3⟩:=put rest
   refine ⟨m',_,?_,k2,k3,newlen rest,?_⟩
   ·unfold Q88
    simp only [Xul b cs.length 1 done.length (by omega),X4,show (1:Nat) / 2=0 from rfl,k1,Xp,Q3p,w1,Xwt b cs.length 1 (done.length + 1) (by omega),X4]
    rw [if_pos (by omega),show done.length + 1=cs.length by omega]
   ·rw [X7o hnone]
    exact cell rest
  ·have hlt:(done.length:Int) < ((cs.length - 1:Nat):Int):=by omega
   rw [if_pos hlt]
   cases h:cut c rest with
   | none=>exact absurd (count_none h) h0
   | some p =>
    obtain ⟨x,y⟩:=p
    obtain ⟨q1,q2,q3⟩:=Xmg h
    have q4:=Xeg h
    have q5:=X9d h
    obtain ⟨m',k1,k2,k3⟩:=put x
    have w0:IntKind.i64.wrap ((x.length:Int) + 0)=(x.length:Int):=by rw [IntWalk.i64_in _ (by omega)]; omega
    have w2:IntKind.i64.wrap ((x.length:Int) + (1:Nat))=((x.length + 1:Nat):Int):=by rw [IntWalk.i64_in _ (by omega)]; omega
    have e1:([c]:Str).length=1:=rfl
    have hneg:¬ ((x.length:Int) < 0):=by omega
    obtain ⟨m1,cs',r1,r2,r3,r4,r5⟩:=Xac d c b ty k y (done ++ [x]) (cs.take done.length ++ [sv x] ++ cs.drop (done.length + 1)) m' (by omega) (by omega) k3 (by rw [newlen]; simp; omega) (by rw [newlen]; exact hd) (cell x)
    rw [newlen] at r1 r4
    refine ⟨m1,cs',?_,k2.trans r2,r3,r4,?_⟩
    ·rw [← r1]
     simp only [c_Index rest hr,h,X6,Qw,X4,Xt,if_neg hneg,Q3p,w0,Xg1 rest x.length (by omega),q1,Xul b cs.length 1 done.length (by omega),show (1:Nat) / 2=0 from rfl,k1,Xp,X3r,e1,w2,Xa8 rest (x.length + 1) q3,q2,w1]
     simp
    ·rw [X5b h]
     intro j w hw
     exact r5 j w (by simpa using hw)
theorem min_i64 (a b:Int):aMin (.int .i64 a) (.int .i64 b)=some (I (if b < a then b else a)):=rfl
theorem Xat (m:Mem) (o:AObj):(m.push o).get m.next=some o:=by rw [Mem.get_push,if_pos rfl]
theorem Xkn {m m1:Mem} {v:Value} {x:Option Rs} (hx:x=some (v,m1)) (hF:Fr [] (withLow m m.next) m1) (hr:refs m.next 8 v=false) :
  ∃ m2,outOf m x=some (v,m2)∧Fr [] m m2∧m2.next=m1.next∧∀ b,m2.get b=m1.get b:=by
 subst hx
 unfold outOf
 simp only
 rw [Xhc]; unfold gcO
 rw [hr,Bool.and_false]
 have hlow:m.next ≤ m1.low:=hF.low2 m.next (Nat.le_refl _) (Nat.le_refl _) (by simp)
 refine ⟨_,rfl,⟨hF.next,Nat.min_le_left _ _,fun x a b _=>?_,hF.get,fun b hb=>.inr (hF.get b hb (by simp))⟩,rfl,fun b=>rfl⟩
 show x ≤ min m.low m1.low
 omega
theorem SL.same {m m':Mem} {v:Value} {ws:List Str} (h:SL m v ws) (hn:m.next ≤ m'.next) (hg:∀ b,m'.get b=m.get b):SL m' v ws:=by
 obtain ⟨b,o,r,c,fro,ro,ty,h1,h2,h3,h4,h5⟩:=h
 exact ⟨b,o,r,c,fro,ro,ty,h1,Nat.lt_of_lt_of_le h2 hn,by rw [hg]; exact h3,h4,h5⟩
theorem c_Split (s:Str) (hs:s.length ≤ 4194304) (c:UInt8) (d:Nat) (m:Mem):∃ v m1,TA (d + 3) Q5y [sv s,sv [c]] m=some (v,m1)∧Fr [] m m1∧SL m1 v (split c s)∧refs m.next 8 v=false:=by
 have inner:∀ m,∃ v m1,TA (d + 2) Q9h [sv s,sv [c],I 0,I (-1)] m=some (v,m1)∧Fr [] m m1∧SL m1 v (split c s)∧refs m.next 8 v=false:=by
  intro m
  have hcount:=List.count_le_length (a:=c) (l:=s)
  let n:=s.count c + 1
  have hn:n=s.count c + 1:=rfl
  have hp:=Xat (withLow m m.next) (.cells (rep n [sv []]) 0 0 false (some (2 * Q1)))
  have hrl:(rep n [sv []]).length=n:=by
   have:∀ k,(rep k [sv []]).length=k:=by
    intro k
    induction k with
    | zero=>rfl
    | succ k ih=>simp [rep,ih]
   exact this n
  obtain ⟨m1,cs',k1,k2,k3,k4,k5⟩:=Xac d c (withLow m m.next).next (some (2 * Q1)) 18446744073709551616 s [] (rep n [sv []]) ((withLow m m.next).push (.cells (rep n [sv []]) 0 0 false (some (2 * Q1)))) hs (by omega) hp (by rw [hrl]; simp; omega) (by rw [hrl]; omega) (by intro j w h; simp at h)
  rw [hrl] at k1 k4
  have hF:Fr [] (withLow m m.next) m1:=by
   have h1:Fr [(withLow m m.next).next] (withLow m m.next) m1:=((Fr.push (W:=[(withLow m m.next).next]) _)).trans k2
   refine ⟨h1.next,h1.low,fun x a b _=>h1.low2 x a b (by intro w hw; simp at hw; subst hw; exact b),fun b hb _=>h1.get b hb (by simp; omega),h1.lo⟩
  have hx:Q3v ⟨TA (d + 1),18446744073709551616⟩ (I (-1)) (sv [c]) (sv s) (I 0) (withLow m m.next)=some (.slice (some ⟨(withLow m m.next).next,0,some 1⟩) n 1,m1):=by
   have e0:Value.string ⟨#[]⟩=sv []:=rfl
   have e1:¬ ((-1:Int)=0):=by omega
   have e2:¬ ([c]:Str)=[]:=by simp
   have e3:(-1:Int) < 0:=by omega
   have w1:IntKind.i64.wrap (((s.count c:Nat):Int) + 1)=(n:Int):=by rw [IntWalk.i64_in _ (by omega)]; omega
   have w2:IntKind.i64.wrap ((s.length:Int) + 1)=((s.length + 1:Nat):Int):=by rw [IntWalk.i64_in _ (by omega)]; omega
   have w3:(if ((s.length + 1:Nat):Int) < (n:Int) then ((s.length + 1:Nat):Int) else (n:Int))=(n:Int):=by rw [if_neg (by omega)]
   have w4:IntKind.i64.wrap ((n:Int) - 1)=((n - 1:Nat):Int):=by rw [IntWalk.i64_in _ (by omega)]; omega
   have mk:X37 Q1 [sv []] 1 16 (I n) (I n) (withLow m m.next)=some (.slice (some ⟨(withLow m m.next).next,0,some 1⟩) n 1,(withLow m m.next).push (.cells (rep n [sv []]) 0 0 false (some (2 * Q1)))):=by
    have hf:fits n 16=true:=by
     simp only [fits,Bool.and_eq_true,Nat.ble_eq]; omega
    show (if (decide ((0:Int) ≤ (n:Int)) && decide ((n:Int) ≤ (n:Int)) && fits ((n:Int).toNat) 16 && Nat.ble 1 1)=true then _ else none)=_
    rw [Int.toNat_natCast,hf,decide_eq_true (Int.natCast_nonneg n),decide_eq_true (Int.le_refl _)]
    simp
   unfold Q3v Qcn Qco Qcp Q89 Qcq Qcr Qcs Qct
   simp only [e0,Q3y,X4,Xt,if_neg e1,Qo,if_neg e2,Qw,if_pos e3,c_Count,X6,Q3p,w1,X3r,w2,min_i64,w3,mk,Qf0,w4]
   exact k1
  rw [Xag]
  have hr:refs m.next 8 (.slice (some ⟨(withLow m m.next).next,0,some 1⟩) n 1)=false:=by
   show Nat.blt m.next m.next=false
   cases h:Nat.blt m.next m.next with
   | false=>rfl
   | true=>have:=Nat.blt_eq.mp h; omega
  obtain ⟨m2,q1,q2,q3,q4⟩:=Xkn (m:=m) hx hF hr
  refine ⟨_,m2,q1,q2,?_,hr⟩
  refine ⟨(withLow m m.next).next,0,1,cs',0,false,some (2 * Q1),?_,?_,by rw [q4]; exact k3,?_,fun i w hw=>by rw [Nat.zero_add]; exact k5 i w (by simpa using hw)⟩
  ·rw [X46 c s.length s (Nat.le_refl _)]
  ·rw [q3]
   have:=k2.next
   simp [Mem.push] at this
   omega
  ·rw [X46 c s.length s (Nat.le_refl _),k4]
   omega
 rw [Xcv]
 obtain ⟨v,m1,k1,k2,k3,k4⟩:=inner (withLow m m.next)
 have hx:Q6c ⟨TA (d + 2),18446744073709551616⟩ (sv s) (sv [c]) (withLow m m.next)=some (v,m1):=by
  unfold Q6c
  simp only [k1,X6]
 obtain ⟨m2,q1,q2,q3,q4⟩:=Xkn (m:=m) hx k2 k4
 exact ⟨v,m2,q1,q2,SL.same k3 (by omega) q4,k4⟩
end Go.Ab.Sh

set_option maxRecDepth 100000
namespace Go.Ab
open Go Go.Lib
def Xni:Nat→List Str→Option Nat
 | acc,[]=>some acc
 | acc,w :: ws=>match num 255 w with | none=>none | some n=>Xni (acc * 256 + n) ws
def Xen (s:Str):Option Nat:=if (split 46 s).length=4 then Xni 0 (split 46 s) else none
def Xj1 (o:Option Nat):Value:=match o with | some a=>.tuple ⟨[.int .u32 (a:Int),I 0]⟩ | none=>.tuple ⟨[.int .u32 0,I 4]⟩
theorem Xo5 (n:Nat) (o:Option Nat):refs n 8 (Xj1 o)=true:=by cases o <;> rfl
theorem X7c (c:UInt8):∀ (l w:Str),w ∈ split c l→w.length ≤ l.length
 | [],w,h=>by simp [split] at h; subst h; simp
 | a :: l,w,h=>by
  rw [X56] at h
  split at h
  ·rcases List.mem_cons.mp h with e | e
   ·subst e; simp
   ·have:=X7c c l w e; simp; omega
  ·cases hs:split c l with
   | nil=>exact absurd hs (X67 c l)
   | cons x xs =>
    rw [hs] at h
    have ih:=X7c c l
    rw [hs] at ih
    rcases List.mem_cons.mp h with e | e
    ·subst e
     have:=ih x List.mem_cons_self
     simp; omega
    ·have:=ih w (List.mem_cons_of_mem _ e)
     simp; omega
theorem Xyo (c g:Bool) (a n:Nat) (ha:a < 16777216) (hn:n < 256):bin .or c g .int (.int .u32 ((a * 256:Nat):Int)) (.int .u32 (n:Int))=some (.int .u32 ((a * 256 + n:Nat):Int)):=by
 rw [X1u]
 simp only [binO,ne_eq,not_true_eq_false,if_false]
 have e1:(BitVec.ofInt 32 ((a * 256:Nat):Int) ||| BitVec.ofInt 32 (n:Int)).toNat=a * 256 + n:=by
  rw [BitVec.ofInt_natCast,BitVec.ofInt_natCast,BitVec.toNat_or,BitVec.toNat_ofNat,BitVec.toNat_ofNat,Nat.mod_eq_of_lt (by omega),Nat.mod_eq_of_lt (by omega)]
  have h:=Nat.shiftLeft_add_eq_or_of_lt (i:=8) (b:=n) (by omega) a
  rw [Nat.shiftLeft_eq] at h
  exact h.symm
 have e2:(BitVec.ofInt IntKind.u32.bits ((a * 256:Nat):Int) ||| BitVec.ofInt IntKind.u32.bits (n:Int)).toNat=a * 256 + n:=e1
 rw [e2,IntWalk.u32_in _ (by omega)]
theorem Xvv (c g:Bool) (a:Nat) (ha:a < 16777216):bin .shl c g .int (.int .u32 (a:Int)) (.int .u64 8)=some (.int .u32 ((a * 256:Nat):Int)):=by
 rw [X1u]
 show (if (8:Int) < 0 then none else some (Value.int .u32 (IntKind.u32.wrap ((a:Int) * 2 ^ (min (8:Int).toNat 32)))))=_
 have e:((a:Int) * 2 ^ (min (8:Int).toNat 32))=((a * 256:Nat):Int):=by
  have:(2:Int) ^ (min (8:Int).toNat 32)=256:=rfl
  rw [this]; omega
 rw [if_neg (by omega),e,IntWalk.u32_in _ (by omega)]
end Go.Ab
namespace Go.Ab.Sh
open Go Go.Ab Go.Lib
theorem Xxq {k:Nat} (h:k ≤ 3):(256:Nat) ^ k ≤ 16777216:=by
 have:(256:Nat) ^ k ≤ 256 ^ 3:=Nat.pow_le_pow_right (by omega) h
 omega
theorem X84 (d:Nat) (v:Value) (m:Mem) (ws:List Str) (h4:ws.length=4) (hw:∀ w ∈ ws,w.length ≤ 4194304) (hS:SL m v ws):∀ (rest pre:List Str) (acc k:Nat),ws=pre ++ rest→rest.length < k→acc < 256 ^ pre.length →
  Q8e ⟨TA (d + 1),18446744073709551616⟩ k (I pre.length) v (.int .u32 (acc:Int)) m=some (Xj1 (Xni acc rest),m)
 | [],pre,acc,k,he,hk,ha=>by
  obtain ⟨k,rfl⟩:∃ j,k=j + 1:=⟨k - 1,by simp at hk; omega⟩
  have hl:pre.length=4:=by rw [← h4,he]; simp
  unfold Q8e Qgc
  simp only [Qw,X4,Xt,hl]
  rfl
 | w :: rest,pre,acc,k,he,hk,ha=>by
  obtain ⟨k,rfl⟩:∃ j,k=j + 1:=⟨k - 1,by simp at hk; omega⟩
  have hl:pre.length + (rest.length + 1)=4:=by rw [← h4,he]; simp
  have hlt:(pre.length:Int) < 4:=by omega
  obtain ⟨p,k1,k2⟩:=hS.at (i:=pre.length) (w:=w) (by rw [he]; simp)
  obtain ⟨z,n1,n2⟩:=c_addrNumber w (hw w (by rw [he]; simp)) 255 (by omega) d m
  have w1:IntKind.i64.wrap ((pre.length:Int) + 1)=((pre ++ [w]).length:Int):=by rw [IntWalk.i64_in _ (by omega)]; simp
  have hp:=Xxq (k:=pre.length) (by omega)
  unfold Q8e
  simp only [Qw,X4,Xt,if_pos hlt,k1,k2]
  have n1:TA (d + 1) Q6i [sv w,.int .i64 255] m=_:=n1
  simp only [n1,X6,ex0,ex1,X4,Xck,Xp2]
  unfold Xni
  cases hn:num 255 w with
  | none=>rfl
  | some n =>
   have:=n2 n hn
   subst this
   have hn2:=(num_some.mp hn).2
   have w2:IntKind.u32.wrap (n:Int)=(n:Int):=by rw [IntWalk.u32_in _ (by omega)]
   simp only [Option.isSome_some,Bool.not_true,Bool.false_eq_true,if_false,Xvv _ _ acc (by omega),X4,c_int,w2,X6,Xyo _ _ acc n (by omega) (by omega),Q3p,w1]
   exact X84 d v m ws h4 hw hS rest (pre ++ [w]) (acc * 256 + n) k (by rw [he]; simp) (by simp at hk; omega) (by simp [Nat.pow_succ]; omega)
theorem c_addrParse (s:Str) (hs:s.length ≤ 4194304) (d:Nat) (m:Mem):TA (d + 4) Qe9 [sv s] m=some (Xj1 (Xen s),m):=by
 rw [Xix]
 obtain ⟨v,m1,k1,k2,k3,_⟩:=c_Split s hs 46 d (withLow m m.next)
 refine X1l (m1:=m1) ?_ k2 (Xo5 _ _)
 unfold Qb9 Qgd Qge Qgf Qgg Qgh
 have k1:TA (d + 3) Q5y [sv s,.string ⟨#[46]⟩] (withLow m m.next)=some (v,m1):=k1
 simp only [k1,X6,k3.len,X4,Q4z,Xt]
 unfold Xen
 by_cases h4:(split 46 s).length=4
 ·rw [if_neg (by omega),if_pos h4]
  exact X84 (d + 2) v m1 (split 46 s) h4 (fun w hw=>by have:=X7c 46 s w hw; omega) k3 (split 46 s) [] 0 18446744073709551616 rfl (by omega) (by simp)
 ·rw [if_pos (by omega),if_neg h4]
  rfl
end Go.Ab.Sh

set_option maxRecDepth 100000
namespace Go.Ab
open Go Go.Lib
def SA (B:Nat) (m:Mem) (v:Value) (ws:List Str):Prop:=
 (ws=[]∧v=.slice none 0 0)∨(ws ≠ []∧∃ b ver ty,v=.slice (some ⟨b,0,some 1⟩) ws.length (2 * ver)∧B ≤ b∧b < m.next∧m.get b=some (.cells (ws.map sv) ver 0 false ty))
theorem SA.sl {B:Nat} {m:Mem} {v:Value} {ws:List Str} (h:SA B m v ws) (hne:ws ≠ []):SL m v ws∧refs B 8 v=false:=by
 rcases h with ⟨h1,_⟩ | ⟨_,b,ver,ty,rfl,h2,h3,h4⟩
 ·exact absurd h1 hne
 ·refine ⟨⟨b,0,2 * ver,ws.map sv,0,false,ty,rfl,h3,?_,by simp,fun i w hw=>by rw [Nat.zero_add,List.getElem?_map,hw]; rfl⟩,?_⟩
  ·rw [show 2 * ver / 2=ver by omega]; exact h4
  ·show Nat.blt b B=false
   cases hb:Nat.blt b B with
   | false=>rfl
   | true=>have:=Nat.blt_eq.mp hb; omega
theorem SA.len {B:Nat} {m:Mem} {v:Value} {ws:List Str} (h:SA B m v ws) (m':Mem):lenK 1 v m'=some (I ws.length):=by
 rcases h with ⟨rfl,rfl⟩ | ⟨_,b,ver,ty,rfl,_⟩
 ·exact Xb9 _ _ _ _
 ·exact Xb9 _ _ _ _
theorem SA.app {B e:Nat} {m:Mem} {v:Value} {ws:List Str} (h:SA B m v ws) (hB:B ≤ m.next) (hl:ws.length ≤ 4194304) (w:Str) :
  ∃ m2 v' m',X9 e [sv []] 1 1 [(0,sv w)] m=some (.slice (some ⟨m.next,0,some 1⟩) 1 1,m2)∧apS e 1 16 v (.slice (some ⟨m.next,0,some 1⟩) 1 1) m2=some (v',m')∧Fb B m m'∧SA B m' v' (ws ++ [w]):=by
 have hb:X9 e [sv []] 1 1 [(0,sv w)] m=some (.slice (some ⟨m.next,0,some 1⟩) 1 1,m.push (.cells [sv w] 0 0 false (some (2 * e)))):=Eq.trans rfl rfl
 have hg:(m.push (.cells [sv w] 0 0 false (some (2 * e)))).get m.next=some (.cells [sv w] 0 0 false (some (2 * e))):=by rw [Mem.get_push,if_pos rfl]
 have hF:Fb B m (m.push (.cells [sv w] 0 0 false (some (2 * e)))):=(Fb.push _ hB)
 rcases h with ⟨rfl,rfl⟩ | ⟨hne,b,ver,ty,rfl,h2,h3,h4⟩
 ·have ha:=Xrz (e:=e) (bytes:=16) hg rfl rfl (Nat.le_refl 1) rfl
  refine ⟨_,_,_,hb,ha,hF.trans (Fb.push _ (by show B ≤ m.next + 1; omega)),.inr ⟨by simp,(m.push (.cells [sv w] 0 0 false (some (2 * e)))).next,0,some (2 * e),rfl,by show B ≤ m.next + 1; omega,by show m.next + 1 < m.next + 1 + 1; omega,?_⟩⟩
  rw [Mem.get_push,if_pos rfl]
  rfl
 ·have hfit:fits (ws.length + 1) 16=true:=by
   simp only [fits,Bool.and_eq_true,Nat.ble_eq]; omega
  have hb2:(m.push (.cells [sv w] 0 0 false (some (2 * e)))).get b=some (.cells (ws.map sv) ver 0 false ty):=by rw [Mem.get_push,if_neg (by omega)]; exact h4
  obtain ⟨m',k1,k2⟩:=Xug (e:=e) (bytes:=16) (len:=ws.length) (size:=1) hb2 hg rfl rfl (Nat.le_refl 1) (Nat.zero_le _) (by simp) hfit
  refine ⟨_,_,m',hb,k1,(hF.trans ((Fb.refl B _).put _ h2)).meq k2,.inr ⟨by simp,b,ver + 1,tyOf ty (2 * e),by simp,h2,?_,?_⟩⟩
  ·rw [k2.next,Mem.next_put]
   show b < m.next + 1
   omega
  ·rw [k2.get,Mem.get_put,if_pos rfl]
   congr 2
   simp only [Nat.mul_one,List.map_append,List.map_cons,List.map_nil]
   rw [List.take_of_length_le (by simp)]
def spl (c:UInt8):Str→Str→List Str
 | cur,[]=>[cur]
 | cur,a :: r=>if a=c then cur :: spl c [] r else spl c (cur ++ [a]) r
theorem Xqy (c:UInt8):∀ (r cur:Str),spl c cur r=match split c r with | w :: ws=>(cur ++ w) :: ws | []=>[]
 | [],cur=>by simp [spl,split]
 | a :: r,cur=>by
  rw [X56]
  unfold spl
  by_cases h:a=c
  ·rw [if_pos h,if_pos h,Xqy c r]
   cases hs:split c r with
   | nil=>exact absurd hs (X67 c r)
   | cons x xs=>simp
  ·rw [if_neg h,if_neg h,Xqy c r]
   cases hs:split c r with
   | nil=>exact absurd hs (X67 c r)
   | cons x xs=>simp
theorem Xx2 (c:UInt8) (s:Str):spl c [] s=split c s:=by
 rw [Xqy]
 cases hs:split c s with
 | nil=>exact absurd hs (X67 c s)
 | cons x xs=>rfl
theorem Xpe (l:Str) (a b:Nat) (h1:a ≤ b) (h2:b ≤ l.length):X11 (sv l) (some (I a)) (some (I b))=some (sv ((l.take b).drop a)):=by
 rw [X4h]
 show (match bound (some (I b)) l.length l.length with | some h=>(match bound (some (I a)) 0 h with | some k=>some (Value.string ⟨((l.take h).drop k).toArray⟩) | none=>none) | none=>none)=_
 have e1:bound (some (I b)) l.length l.length=some b:=by
  show (match Nat.ble b l.length with | true=>some b | false=>none)=_
  rw [Nat.ble_eq.mpr h2]
 have e2:bound (some (I a)) 0 b=some a:=by
  show (match Nat.ble a b with | true=>some a | false=>none)=_
  rw [Nat.ble_eq.mpr h1]
 rw [e1]
 simp only [e2]
 rfl
theorem Xrw (pre cur rest:Str):(((pre ++ cur ++ rest).take (pre.length + cur.length)).drop pre.length)=cur:=by
 rw [List.take_append_of_le_length (by simp),List.take_of_length_le (by simp),List.drop_left]
end Go.Ab
namespace Go.Ab.Sh
open Go Go.Ab Go.Lib
theorem Xxh {m m1:Mem} {v:Value} {x:Option Rs} (hx:x=some (v,m1)) (hF:Fb m.next (withLow m m.next) m1) (hr:refs m.next 8 v=false) :
  ∃ m2,outOf m x=some (v,m2)∧Fr [] m m2∧m2.next=m1.next∧∀ b,m2.get b=m1.get b:=Xkn hx (Fb.toFr hF) hr
end Go.Ab.Sh

set_option maxRecDepth 100000
namespace Go.Ab
open Go Go.Lib
abbrev X2a (a:Nat):Str:=decDigits (a / 16777216) ++ [46] ++ decDigits (a / 65536 % 256) ++ [46] ++ decDigits (a / 256 % 256) ++ [46] ++ decDigits (a % 256)
theorem X6b (n:Nat) (h:n < 18446744073709551616):(decDigits n).length ≤ 20:=Xvy n 20 (by omega) (by omega)
theorem X12 {α:Type} (ty:Nat) (cs:List Value) (m:Mem) (k:Value→Mem→Option α):bp (some (aNew ty cs m)) k=k (pt m.next 0 0) (m.push (.cells cs 0 0 false (some (2 * ty + 1)))):=Eq.trans rfl rfl
theorem X1x {m m1:Mem} {v:Value} {x:Option Rs} (hx:x=some (v,m1)) (hF:Fb m.next (withLow m m.next) m1) (hv:refs m.next 8 v=true):outOf m x=some (v,m):=X1l hx (Fb.toFr hF) hv
theorem Xgs {m:Mem} {b n:Nat} {cs tail:List Value} {ty:Option Nat} (h:m.get b=some (.cells cs 0 0 false ty)) (hn:cs.length=n) {vs:List Value} (hv:vs.length=n) (h1:vs.all one=true) {B:Nat} (hB:B ≤ b) :
  ∃ m',bp (unt (X8 n (pt b 0 0) (.agg ⟨vs⟩) m)) (fun _ m=>ob (ob (X7 true n (pt b 0 0) m) fun v=>ob (some tail) fun l=>some (v :: l)) fun l=>some (X1g l,m))=some (X1g (.agg ⟨vs⟩ :: tail),m')∧Fb B m m'∧m'.next=m.next:=by
 obtain ⟨m',k1,k2⟩:=X1s (o:=0) (c':=vs) (v:=.agg ⟨vs⟩) (n:=n) h hv (Nat.zero_le _) (by omega) h1 (by
  show [] ++ vs ++ cs.drop (0 + n)=vs
  rw [List.drop_eq_nil_of_le (by omega)]; simp)
 have hg:m'.get b=some (.cells vs 0 0 false ty):=by rw [k2.get,Mem.get_put,if_pos rfl]
 have hl:X7 true n (pt b 0 0) m'=some (.agg ⟨vs⟩):=Xx hg (by omega) (by simp [← hv])
 refine ⟨m',?_,(((Fb.refl B _).put _ hB).meq k2),by rw [k2.next,Mem.next_put]⟩
 rw [k1,Xp]
 simp only [hl,Xt0]
end Go.Ab
namespace Go.Ab.Sh
open Go Go.Ab Go.Lib
end Go.Ab.Sh

set_option maxRecDepth 100000
namespace Go.Ab
open Go Go.Lib
theorem X4x (k:IntKind) (z:Int) (m:Mem):again (pur (some (.int k z)) m) (.int k z)=true:=by
 show vsame 8 (.int k z) (.int k z)=true
 simp [vsame]
theorem Xir (l:Str) (m:Mem):again (pur (some (sv l)) m) (sv l)=true:=by
 show vsame 8 (sv l) (sv l)=true
 simp [vsame,sv]
abbrev pfx (a b:Int):Value:=.agg ⟨[.int .u32 a,I b]⟩
theorem X3h {m:Mem} {cs:List Value} {ty:Option Nat} {o:Nat} {v:Value} (h:cs[o]?=some v):X7 false 1 (pt m.next o 0) (m.push (.cells cs 0 0 false ty))=some v:=X17 (by rw [Mem.get_push,if_pos rfl]) h
def chk (a:Nat) (b:Int):Nat:=if b < 0∨32 < b then 1 else if a % 2 ^ (32 - b.toNat)=0 then 0 else 10
theorem Xjq (c g:Bool) (a k:Nat) (ha:a < 4294967296) (hk:k ≤ 32):bin .and c g .int (.int .u32 (a:Int)) (.int .u32 ((2 ^ k - 1:Nat):Int))=some (.int .u32 ((a % 2 ^ k:Nat):Int)):=by
 have hp:2 ^ k ≤ 2 ^ 32:=Nat.pow_le_pow_right (by omega) hk
 have hm:=Nat.mod_le a (2 ^ k)
 rw [X1u]
 simp only [binO,ne_eq,not_true_eq_false,if_false]
 have e2:(BitVec.ofInt IntKind.u32.bits (a:Int) &&& BitVec.ofInt IntKind.u32.bits ((2 ^ k - 1:Nat):Int)).toNat=a % 2 ^ k:=by
  show (BitVec.ofInt 32 (a:Int) &&& BitVec.ofInt 32 ((2 ^ k - 1:Nat):Int)).toNat=a % 2 ^ k
  rw [BitVec.ofInt_natCast,BitVec.ofInt_natCast,BitVec.toNat_and,BitVec.toNat_ofNat,BitVec.toNat_ofNat,Nat.mod_eq_of_lt (by omega),Nat.mod_eq_of_lt (by omega)]
  exact Nat.and_two_pow_sub_one_eq_mod a k
 rw [e2]
 generalize a % 2 ^ k=r at hm
 rw [IntWalk.u32_in _ (by omega)]
end Go.Ab
namespace Go.Ab.Sh
open Go Go.Ab Go.Lib
theorem c_behind (n:Nat) (hn:n ≤ 32) (d:Nat) (m:Mem):TA (d + 1) Qcw [I n] m=some (.int .u32 ((2 ^ (32 - n) - 1:Nat):Int),m):=by
 rw [Xh3]
 refine X1x (m1:=withLow m m.next) ?_ (.refl _ _) rfl
 have hp:2 ^ (32 - n) ≤ 2 ^ 32:=Nat.pow_le_pow_right (by omega) (by omega)
 have hp1:1 ≤ 2 ^ (32 - n):=Nat.one_le_two_pow
 have w1:IntKind.i64.wrap (32 - (n:Int))=((32 - n:Nat):Int):=by rw [IntWalk.i64_in _ (by omega)]; omega
 have hs:bin .shl true true .int (.int .u64 1) (.int .i64 ((32 - n:Nat):Int))=some (.int .u64 ((2 ^ (32 - n):Nat):Int)):=by
  rw [X1u]
  show (if ((32 - n:Nat):Int) < 0 then none else some (Value.int .u64 (IntKind.u64.wrap (1 * 2 ^ (min ((32 - n:Nat):Int).toNat 64)))))=_
  rw [if_neg (by omega),Int.toNat_natCast,Nat.min_eq_left (by omega),Int.one_mul]
  have e:((2:Int) ^ (32 - n))=((2 ^ (32 - n):Nat):Int):=by rw [Int.natCast_pow]; rfl
  rw [e]
  generalize 2 ^ (32 - n)=q at hp hp1
  rw [IntWalk.u64_in _ (by omega)]
 unfold Q9b
 simp only [Qf0,w1,X4,hs,c_int,X6]
 generalize 2 ^ (32 - n)=q at hp hp1
 rw [IntWalk.u64_in _ (by omega),IntWalk.u32_in _ (by omega)]
 congr 4
 omega
theorem c_addrCheck (a:Nat) (ha:a < 4294967296) (b:Int) (d:Nat) (m:Mem):TA (d + 2) Qe8 [pfx a b] m=some (I (chk a b),m):=by
 rw [Xjl]
 refine X1x (m1:=(withLow m m.next).push (.cells [.int .u32 (a:Int),I b] 0 0 false (some (2 * Qu + 1)))) ?_ (Fb.push _ (Nat.le_refl _)) rfl
 have l0:=X3h (m:=withLow m m.next) (cs:=[.int .u32 (a:Int),I b]) (ty:=some (2 * Qu + 1)) (o:=0 + 0) rfl
 have l1:=X3h (m:=withLow m m.next) (cs:=[.int .u32 (a:Int),I b]) (ty:=some (2 * Qu + 1)) (o:=0 + 1) rfl
 have ec:(Value.cells (pfx a b)).toList=[.int .u32 (a:Int),I b]:=rfl
 unfold Qb8 Qgi Qed
 rw [ec,X12]
 simp only [Xe,X4,l0,l1,Qw,Qby,Xt,Xc]
 unfold chk
 by_cases h1:b < 0
 ·rw [if_pos h1,if_pos (.inl h1)]; rfl
 rw [if_neg h1]
 by_cases h2:32 < b
 ·rw [if_pos h2,if_pos (.inr h2)]; rfl
 rw [if_neg h2,if_neg (by omega)]
 obtain ⟨n,rfl⟩:=Int.eq_ofNat_of_zero_le (by omega:0 ≤ b)
 simp only [c_behind n (by omega),X6,Xjq _ _ a (32 - n) ha (by omega),X4,Q4z,Xt,Int.toNat_natCast,l0,X4x,Bool.and_true,X2c]
 by_cases h3:a % 2 ^ (32 - n)=0
 ·rw [if_neg (by rw [h3]; simp),if_pos h3]; rfl
 ·rw [if_pos (by intro h; exact h3 (by omega)),if_neg h3]; rfl
def Xjn (s:Str):Nat × Nat × Nat:=match cut 47 s with
 | none=>(0,0,4)
 | some (x,y)=>match Xen x,num 32 y with
  | some a,some b=>if a % 2 ^ (32 - b)=0 then (a,b,0) else (0,0,10)
  | _,_=>(0,0,4)
def Xve (x:Nat × Nat × Nat):Value:=.tuple ⟨[pfx x.1 x.2.1,I x.2.2]⟩
theorem Xmv:∀ (ws:List Str) (acc n:Nat),Xni acc ws=some n→n < (acc + 1) * 256 ^ ws.length
 | [],acc,n,h=>by cases h; simp
 | w :: ws,acc,n,h=>by
  unfold Xni at h
  cases hn:num 255 w with
  | none=>rw [hn] at h; cases h
  | some k =>
   rw [hn] at h
   have h1:=Xmv ws _ n h
   have h2:=(num_some.mp hn).2
   rw [List.length_cons,Nat.pow_succ,Nat.mul_comm (256 ^ ws.length) 256,← Nat.mul_assoc]
   exact Nat.lt_of_lt_of_le h1 (Nat.mul_le_mul_right _ (by omega))
theorem Xmt {s:Str} {n:Nat} (h:Xen s=some n):n < 4294967296:=by
 unfold Xen at h
 split at h
 ·rename_i h4
  have:=Xmv _ _ _ h
  rw [h4] at this
  simpa using this
 ·cases h
theorem aB2 (a b:Int):Xi Ql [(0,1),(1,1)] [(0,.int .u32 a),(1,I b)]=some (pfx a b):=Eq.trans rfl rfl
theorem aB0:Xi Ql [(0,1),(1,1)] []=some (pfx 0 0):=Eq.trans rfl rfl
theorem Xp5 (a b:Int):(pfx a b).cells.toList=[.int .u32 a,I b]:=rfl
theorem c_addrPrefix (s:Str) (hs:s.length ≤ 4194304) (d:Nat) (m:Mem):TA (d + 5) Q9g [sv s] m=some (Xve (Xjn s),m):=by
 rw [Xaf]
 -- the result's variable
 let m0:=(withLow m m.next).push (.cells Ql 0 0 false (some (2 * Qu + 1)))
 have hm0:m0=(withLow m m.next).push (.cells Ql 0 0 false (some (2 * Qu + 1))):=rfl
 have g0:m0.get m.next=some (.cells [.int .u32 0,I 0] 0 0 false (some (2 * Qu + 1))):=Xat (withLow m m.next) _
 have F0:Fb m.next (withLow m m.next) m0:=Fb.push _ (Nat.le_refl _)
 have n0:m0.next=m.next + 1:=rfl
 have body:∃ m1,Q85 ⟨TA (d + 4),18446744073709551616⟩ (sv s) (pt m.next 0 0) m0=some (Xve (Xjn s),m1)∧Fb m.next m0 m1:=by
  have e0:Value.string ⟨#[47]⟩=sv [47]:=rfl
  obtain ⟨mE,r1,r2,_⟩:=Xgs (n:=2) (tail:=[I 4]) g0 rfl (vs:=[.int .u32 0,I 0]) rfl rfl (Nat.le_refl m.next)
  unfold Q85 Qch Qcg Qcf Q69
  have hcut:TA (d + 4) Q3w [sv s,sv [47]] m0=_:=c_Cut s hs 47 (d + 2) m0
  simp only [e0,hcut,X6]
  unfold Xjn
  cases hc:cut 47 s with
  | none =>
   refine ⟨mE,?_,r2⟩
   obtain ⟨z,n1,_⟩:=c_addrNumber [] (by simp) 32 (by omega) (d + 3) m0
   have n1:TA (d + 4) Q6i [sv [],.int .i64 32] m0=_:=n1
   simp only [ex0,ex1,ex2,X4,c_addrParse s hs d m0,X6,Xck,Bool.not_false,Xc,aB0]
   cases Xen s with
   | none=>simp only [Xj1,ex0,ex1,X4,n1,X6]; exact r1
   | some a=>simp only [Xj1,ex0,ex1,X4,n1,X6]; exact r1
  | some p =>
   obtain ⟨x,y⟩:=p
   have hl:=X9d hc
   obtain ⟨z,n1,n2⟩:=c_addrNumber y (by omega) 32 (by omega) (d + 3) m0
   have n1:TA (d + 4) Q6i [sv y,.int .i64 32] m0=_:=n1
   simp only [ex0,ex1,ex2,X4,c_addrParse x (by omega) d m0,X6,Xck,Bool.not_true,Xa]
   cases ha:Xen x with
   | none =>
    refine ⟨mE,?_,r2⟩
    simp only [Xj1,ex0,ex1,X4,n1,X6,Xck,Q4z,Xp2,aB0]
    cases hn:num 32 y with
    | none=>simp only [Option.isSome_none,Bool.not_false,if_true]; exact r1
    | some b=>simp only [Option.isSome_some,Bool.not_true,Bool.false_eq_true,if_false]; exact r1
   | some a =>
    have ha2:=Xmt ha
    simp only [Xj1,ex0,ex1,X4,n1,X6,Xck,Q4z,Xp2,aB0]
    cases hn:num 32 y with
    | none =>
     refine ⟨mE,?_,r2⟩
     simp only [Option.isSome_none,Bool.not_false,if_true]; exact r1
    | some b =>
     have:=n2 b hn
     subst this
     have hb:=(num_some.mp hn).2
     -- the prefix itself
     obtain ⟨m2,q1,q2,q3,q4⟩:=X2g [] m0 (some (2 * Qu + 1)) Ql (v:=pfx a b) (n:=2) rfl rfl rfl
     have g2:m2.get m.next=some (.cells [.int .u32 0,I 0] 0 0 false (some (2 * Qu + 1))):=by rw [q2.get m.next (by omega) (by simp)]; exact g0
     have F2:Fb m.next m0 m2:=Fr.toFb q2 (by omega)
     have lp:X7 true 2 (pt m0.next 0 0) m2=some (pfx a b):=Xx q4 (by show 0 + 2 ≤ 2; omega) rfl
     have aB:=aB2 a b
     simp only [Option.isSome_some,Bool.not_true,Bool.false_eq_true,if_false,ne_eq,not_true_eq_false,decide_false,aB,X4,X12,q1,Xp,lp,c_addrCheck a ha2 b (d + 2) m2,X6]
     unfold chk
     rw [if_neg (by omega),Int.toNat_natCast]
     by_cases h3:a % 2 ^ (32 - b)=0
     ·rw [if_pos h3,if_pos h3]
      obtain ⟨m3,r3,r4,_⟩:=Xgs (n:=2) (tail:=[I 0]) g2 rfl (vs:=[.int .u32 (a:Int),I b]) rfl rfl (Nat.le_refl m.next)
      refine ⟨m3,?_,F2.trans r4⟩
      simp only [Q4z,X4,Xt]
      rw [if_neg (by simp)]
      simp only [lp,X4]
      exact r3
     ·rw [if_neg h3,if_neg h3]
      obtain ⟨m3,r3,r4,_⟩:=Xgs (n:=2) (tail:=[I 10]) g2 rfl (vs:=[.int .u32 0,I 0]) rfl rfl (Nat.le_refl m.next)
      refine ⟨m3,?_,F2.trans r4⟩
      simp only [Q4z,X4,Xt]
      rw [if_pos (by simp)]
      exact r3
 obtain ⟨m1,k1,k2⟩:=body
 refine X1x (m1:=m1) ?_ (F0.trans k2) rfl
 unfold Q5j
 rw [X12]
 exact k1
end Go.Ab.Sh

set_option maxRecDepth 100000
namespace Go.Ab
open Go Go.Lib
end Go.Ab
namespace Go.Ab.Sh
open Go Go.Ab Go.Lib
theorem Xm2 (z:Int) (h:Xb3 z=true):(itoa z).length ≤ 21:=by
 obtain ⟨h1,h2⟩:=Xe8 h
 unfold itoa
 split
 ·have:=X6b z.natAbs (by omega); simp; omega
 ·have:=X6b z.toNat (by omega); omega
theorem Xa5 (a:Nat) (ha:a < 4294967296):(X2a a).length ≤ 83:=by
 have l1:=X6b (a / 16777216) (by omega)
 have l2:=X6b (a / 65536 % 256) (by omega)
 have l3:=X6b (a / 256 % 256) (by omega)
 have l4:=X6b (a % 256) (by omega)
 simp only [List.length_append,List.length_cons,List.length_nil]
 omega
def Xet (a:Nat) (b:Int):Str:=X2a a ++ [47] ++ itoa b
end Go.Ab.Sh

set_option maxRecDepth 100000
namespace Go.Ab
open Go Go.Lib
def X2i (sep:Str) (ws:List Str):Str:=sep.intercalate ws
theorem Xhw:∀ (ws:List Str),strsOf (ws.map sv)=some (ws.map fun w=>⟨⟨w⟩⟩)
 | []=>rfl
 | w :: ws=>by
  show (match strsOf (ws.map sv) with | some l=>some (_ :: l) | none=>none)=_
  rw [Xhw ws]; rfl
theorem Xt2 {m:Mem} {b o r:Nat} {c:List Value} {fro:Nat} {ro:Bool} {ty:Option Nat} {ws:List Str} (h3:m.get b=some (.cells c (r / 2) fro ro ty)) (h4:o + ws.length ≤ c.length) (h5:∀ (i:Nat) (w:Str),ws[i]?=some w→c[o + i]?=some (sv w)) :
  getCells m ⟨b,o,some (r / 2)⟩ ws.length=some (ws.map sv):=by
 have:(c.drop o).take ws.length=ws.map sv:=by
  apply List.ext_getElem?
  intro i
  rw [List.getElem?_take,List.getElem?_drop,List.getElem?_map]
  by_cases hi:i < ws.length
  ·rw [if_pos hi]
   have hw:ws[i]?=some ws[i]:=List.getElem?_eq_getElem hi
   rw [h5 i ws[i] hw,hw]; rfl
  ·rw [if_neg hi,List.getElem?_eq_none (by omega)]; rfl
 simp [Xw,X10,h3,h4,this]
theorem Xv6 (c g:Bool) (a k:Nat) (ha:a < 4294967296) (hk:k ≤ 32):bin .shr c g .int (.int .u32 (a:Int)) (I k)=some (.int .u32 ((a / 2 ^ k:Nat):Int)):=by
 rw [X1u]
 show (if ((k:Nat):Int) < 0 then none else some (Value.int .u32 ((a:Int).fdiv (2 ^ (min ((k:Nat):Int).toNat 32)))))=_
 rw [if_neg (by omega),Int.toNat_natCast,Nat.min_eq_left hk]
 have e:((2:Int) ^ k)=((2 ^ k:Nat):Int):=by rw [Int.natCast_pow]; rfl
 rw [e,Int.fdiv_eq_ediv_of_nonneg _ (Int.natCast_nonneg _),← Int.natCast_ediv]
end Go.Ab
namespace Go.Ab.Sh
open Go Go.Ab Go.Lib
theorem c_Join (v:Value) (ws:List Str) (sep:Str) (m:Mem) (h:SL m v ws) (hn:ws.length ≤ 140737488355328) (hl:(X2i sep ws).length ≤ 140737488355328) (d:Nat):TA d Q34 [v,sv sep] m=some (sv (X2i sep ws),m):=by
 refine Xes (o:=Qnx) (by kernel_rfl) ?_ d
 obtain ⟨b,o,r,c,fro,ro,ty,rfl,h2,h3,h4,h5⟩:=h
 show (if Q34=Q34 then (match getCells m ⟨b,o,some (r / 2)⟩ ws.length with
   | some cs=>(match strsOf cs with
    | some l=>(match Nat.ble ws.length 140737488355328 && Nat.ble (Xfx l ⟨⟨sep⟩⟩).length 140737488355328 with
     | true=>some (Value.string ⟨(Xfx l ⟨⟨sep⟩⟩).toArray⟩,m)
     | false=>none)
    | none=>none)
   | none=>none) else none)=_
 rw [if_pos rfl,Xt2 h3 h4 h5]
 simp only [Xhw]
 have e:Xfx (ws.map fun w=>(⟨⟨w⟩⟩:ByteArray)) ⟨⟨sep⟩⟩=X2i sep ws:=by
  unfold Xfx X2i Lib.join
  rw [List.map_map]
  congr 1
  have:((fun x:ByteArray=>x.data.toList) ∘ fun w:Str=>(⟨⟨w⟩⟩:ByteArray))=id:=rfl
  rw [this,List.map_id]
 rw [e,Nat.ble_eq.mpr hn,Nat.ble_eq.mpr hl]
 rfl
theorem Xwu (b:Nat) (i:Nat) (h:i < 4):X1w 4 1 (pt b 0 0) (I i)=some (pt b i 0):=by
 show (if (0:Int) ≤ (i:Int) && (i:Int) < (4:Nat) then some (Value.pointer (some ⟨b,0 + (i:Int).toNat * 1,some 0⟩)) else none)=_
 have h1:(decide ((0:Int) ≤ (i:Int)) && decide ((i:Int) < (4:Nat)))=true:=by simp; omega
 rw [if_pos h1]
 simp
def part (a i:Nat):Nat:=a / 2 ^ (24 - 8 * i) % 256
theorem Xcs (a i:Nat):part a i < 256:=Nat.mod_lt _ (by omega)
theorem Xai (d:Nat) (a:Nat) (ha:a < 4294967296) (b:Nat) (ty:Option Nat):∀ (k i:Nat) (cs:List Value) (m:Mem) (j:Nat),i + k=4→k < j→cs.length=4→m.get b=some (.cells cs 0 0 false ty)→b < m.next→(∀ t,t < i→cs[t]?=some (sv (decDigits (part a t)))) →
  ∃ m1,Q9d ⟨TA d,18446744073709551616⟩ j (I i) (.int .u32 (a:Int)) (pt b 0 0) m=some (sv (X2a a),m1)∧Fr [b] m m1
 | 0,i,cs,m,j,hi,hj,hl,hb,hbn,hc=>by
  obtain ⟨j,rfl⟩:∃ q,j=q + 1:=⟨j - 1,by omega⟩
  have h4:i=4:=by omega
  subst h4
  refine ⟨m,?_,.refl _ _⟩
  have hsl:SL m (.slice (some ⟨b,0 + 0 * 1,some 1⟩) 4 1) [decDigits (part a 0),decDigits (part a 1),decDigits (part a 2),decDigits (part a 3)]:=by
   refine ⟨b,0,1,cs,0,false,ty,rfl,hbn,hb,by simp; omega,fun t w hw=>?_⟩
   rw [Nat.zero_add]
   match t,hw with
   | 0,hw=>cases hw; exact hc 0 (by omega)
   | 1,hw=>cases hw; exact hc 1 (by omega)
   | 2,hw=>cases hw; exact hc 2 (by omega)
   | 3,hw=>cases hw; exact hc 3 (by omega)
  have hs:X3j 4 1 (pt b 0 0) none none m=some (.slice (some ⟨b,0 + 0 * 1,some 1⟩) 4 1):=by
   have hg:getCells m ⟨b,0,some 0⟩ (4 * 1)=some ((cs.drop 0).take (4 * 1)):=by
    simp [Xw,X10,hb,hl]
   show (match getCells m ⟨b,0,some 0⟩ (4 * 1) with
    | none=>none
    | some _=>match bound none 4 4 with
     | some h=>match bound none 0 h with
      | some l=>if Nat.ble 1 1 then some (Value.slice (some ⟨b,0 + l * 1,some 1⟩) (h - l) (if h=4 then 2 * 0 + 1 else 2 * 0)) else none
      | none=>none
     | none=>none)=_
   rw [hg]
   rfl
  have l0:=X6b (part a 0) (by have:=Xcs a 0; omega)
  have l1:=X6b (part a 1) (by have:=Xcs a 1; omega)
  have l2:=X6b (part a 2) (by have:=Xcs a 2; omega)
  have l3:=X6b (part a 3) (by have:=Xcs a 3; omega)
  have hj2:X2i [46] [decDigits (part a 0),decDigits (part a 1),decDigits (part a 2),decDigits (part a 3)]=X2a a:=by
   have p0:part a 0=a / 16777216:=by show a / 2 ^ 24 % 256=_; rw [show (2:Nat) ^ 24=16777216 from rfl]; omega
   have p1:part a 1=a / 65536 % 256:=rfl
   have p2:part a 2=a / 256 % 256:=rfl
   have p3:part a 3=a % 256:=by show a / 2 ^ 0 % 256=_; rw [Nat.pow_zero,Nat.div_one]
   rw [p0,p1,p2,p3]
   simp [X2i,List.intercalate,List.intersperse]
  have hlen:=Xa5 a ha
  have cj:=c_Join _ _ [46] m hsl (by simp) (by rw [hj2]; omega) d
  have e0:Value.string ⟨#[46]⟩=sv [46]:=rfl
  unfold Q9d Qha
  simp only [Qw,X4,Xt]
  rw [if_neg (by omega)]
  simp only [hs,X4,e0,cj,X6,hj2]
 | k + 1,i,cs,m,j,hi,hj,hl,hb,hbn,hc=>by
  obtain ⟨j,rfl⟩:∃ q,j=q + 1:=⟨j - 1,by omega⟩
  have w1:IntKind.i64.wrap (8 * (i:Int))=((8 * i:Nat):Int):=by rw [IntWalk.i64_in _ (by omega)]; omega
  have w2:IntKind.i64.wrap (24 - ((8 * i:Nat):Int))=((24 - 8 * i:Nat):Int):=by rw [IntWalk.i64_in _ (by omega)]; omega
  have w3:IntKind.i64.wrap ((i:Int) + 1)=((i + 1:Nat):Int):=by rw [IntWalk.i64_in _ (by omega)]; omega
  have hp:=Xcs a i
  have w4:IntKind.i64.wrap ((part a i:Nat):Int)=((part a i:Nat):Int):=by rw [IntWalk.i64_in _ (by omega)]
  have hdiv:a / 2 ^ (24 - 8 * i) < 4294967296:=Nat.lt_of_le_of_lt (Nat.div_le_self _ _) ha
  have had:=Xjq true true (a / 2 ^ (24 - 8 * i)) 8 hdiv (by omega)
  have had:bin .and true true .int (.int .u32 ((a / 2 ^ (24 - 8 * i):Nat):Int)) (.int .u32 255)=some (.int .u32 ((part a i:Nat):Int)):=had
  obtain ⟨m',k1,k2⟩:=X1s (o:=i) (n:=1) (v:=sv (decDigits (part a i))) hb rfl (Nat.zero_le _) (by omega) rfl rfl
  have hb':m'.get b=some (.cells (cs.take i ++ [sv (decDigits (part a i))] ++ cs.drop (i + 1)) 0 0 false ty):=by
   rw [k2.get,Mem.get_put,if_pos rfl]; rfl
  have hn':m'.next=m.next:=by rw [k2.next,Mem.next_put]
  obtain ⟨m1,q1,q2⟩:=Xai d a ha b ty k (i + 1) (cs.take i ++ [sv (decDigits (part a i))] ++ cs.drop (i + 1)) m' j (by omega) (by omega) (by simp; omega) hb' (by omega) (by
   intro t ht
   have h1:(cs.take i).length=i:=by rw [List.length_take]; omega
   by_cases hti:t < i
   ·rw [List.append_assoc,List.getElem?_append_left (by omega),List.getElem?_take_of_lt hti]
    exact hc t hti
   ·have:t=i:=by omega
    subst this
    rw [List.append_assoc,List.getElem?_append_right (by omega),h1,Nat.sub_self]
    rfl)
  refine ⟨m1,?_,(((Fr.refl _ _).put _ (.inl (by simp))).meq k2).trans q2⟩
  unfold Q9d
  simp only [Qw,X4,Xt]
  rw [if_pos (by omega)]
  simp only [Qqd,w1,X4,Qf0,w2,Xv6 _ _ a (24 - 8 * i) ha (by omega),had,c_int,w4,X6,c_ItoaN (part a i) (by omega),Xwu b i (by omega),k1,Xp,Q3p,w3]
  exact q1
theorem c_addrText (a:Nat) (ha:a < 4294967296) (d:Nat) (m:Mem):TA (d + 1) Q5s [.int .u32 (a:Int)] m=some (sv (X2a a),m):=by
 rw [Xk3]
 obtain ⟨m1,k1,k2⟩:=Xai d a ha m.next (some (2 * Qin + 1)) 4 0 Qio ((withLow m m.next).push (.cells Qio 0 0 false (some (2 * Qin + 1)))) 18446744073709551616 (by omega) (by omega) rfl (Xat (withLow m m.next) _) (by show m.next < m.next + 1; omega) (by intro t ht; omega)
 have hF:Fr [] (withLow m m.next) m1:=by
  have h1:Fr [m.next] (withLow m m.next) m1:=((Fr.push (W:=[m.next]) _)).trans k2
  refine ⟨h1.next,h1.low,fun x a b _=>h1.low2 x a b (by intro w hw; simp at hw; subst hw; exact b),fun b hb _=>h1.get b hb (by simp; intro e; subst e; exact absurd hb (Nat.lt_irrefl _)),h1.lo⟩
 refine X1l (m1:=m1) ?_ hF rfl
 unfold Qd1 Qhb Qhc Qhd
 rw [X12]
 exact k1
theorem c_addrPrefixText (a:Nat) (ha:a < 4294967296) (b:Int) (hb:Xb3 b=true) (d:Nat) (m:Mem):TA (d + 2) Q7u [pfx a b] m=some (sv (Xet a b),m):=by
 rw [Xbq]
 refine X1x (m1:=(withLow m m.next).push (.cells [.int .u32 (a:Int),I b] 0 0 false (some (2 * Qu + 1)))) ?_ (Fb.push _ (Nat.le_refl _)) rfl
 have l0:=X3h (m:=withLow m m.next) (cs:=[.int .u32 (a:Int),I b]) (ty:=some (2 * Qu + 1)) (o:=0 + 0) rfl
 have l1:=X3h (m:=withLow m m.next) (cs:=[.int .u32 (a:Int),I b]) (ty:=some (2 * Qu + 1)) (o:=0 + 1) rfl
 have e0:Value.string ⟨#[47]⟩=sv [47]:=rfl
 have h1:=Xa5 a ha
 have h2:=Xm2 b hb
 unfold Q6h
 rw [Xp5,X12]
 have c1:∀ m,TA (d + 1) Q5s [.int .u32 (a:Int)] m=some (sv (X2a a),m):=c_addrText a ha d
 have c2:∀ m,TA (d + 1) Q1r [I b] m=some (sv (itoa b),m):=fun m=>c_Itoa b hb (d + 1) m
 generalize haT:X2a a=T at *
 simp only [Xe,X4,l0,l1,c1,X6,X4x,Bool.and_true,X2c,e0,Qi3 _ _ T [47] (by simp; omega),c2,Qi3 _ _ (T ++ [47]) (itoa b) (by simp; omega)]
 unfold Xet
 rw [haT]
end Go.Ab.Sh

set_option maxRecDepth 100000
namespace Go.Ab
open Go Go.Lib
structure HB (a b p m n:Nat):Prop where
 a:a < 4294967296
 b:b < 4294967296
 p:p ≤ 255
 m:m ≤ 65535
 n:n ≤ 65535
end Go.Ab
namespace Go.Ab.Sh
open Go Go.Ab Go.Lib
end Go.Ab.Sh

set_option maxRecDepth 100000
namespace Go.Ab
open Go Go.Lib
theorem Xuw:∀ (l:Str) (M acc u:Nat),parseUintM M acc l=.ok u→acc ≤ M→u ≤ M
 | [],M,acc,u,h,ha=>by cases h; exact ha
 | c :: r,M,acc,u,h,ha=>by
  unfold parseUintM at h
  split at h
  ·split at h
   ·cases h
   ·split at h
    ·cases h
    ·exact Xuw r M _ u h (by omega)
  ·cases h
theorem Xxv {B:Nat} {l:Str} {u:Nat} (h:parseUintB B l=.ok u):u ≤ 2 ^ B - 1:=by
 unfold parseUintB at h
 split at h
 ·cases h
 ·exact Xuw l _ 0 u h (Nat.zero_le _)
end Go.Ab
namespace Go.Ab.Sh
open Go Go.Ab Go.Lib
theorem c_Pu (B:Nat) (hB:B=16∨B=8) (s:Str) (hs:s.length ≤ 4194304) (d:Nat) (m:Mem):∃ u e m1,TA d Q7 [sv s,I 10,I B] m=some (.tuple ⟨[.int .u64 u,e]⟩,m1)∧Fr [] m m1 ∧
  ((∃ n:Nat,parseUintB B s=.ok n∧u=n∧e=.nilIface)∨((∀ n,parseUintB B s ≠ .ok n)∧∃ p,e=.iface Qc (.pointer (some p)))):=by
 have key:∀ r,Qnk Q7 [sv s,I 10,I B] m=some r→TA d Q7 [sv s,I 10,I B] m=some r:=fun r h=>Xes (o:=Qnk) (by kernel_rfl) h d
 have e:Qnk Q7 [sv s,I 10,I B] m=(match parseUintB B s with
   | .ok u=>some (.tuple #[.int .u64 u,.nilIface],m)
   | Lib.NumEnd.syntax=>errV (.int .u64 0) Qc m
   | .range=>errV (.int .u64 (2 ^ B - 1:Nat)) Qc m):=by
  have f16:∀ (z:Int) (Z:Nat),ovPu Q7 Qc z Z Q7 [sv s,I 10,I B] m=if (B:Int)=z then (match parseUintB Z s with
   | .ok u=>some (.tuple #[.int .u64 u,.nilIface],m)
   | Lib.NumEnd.syntax=>errV (.int .u64 0) Qc m
   | .range=>errV (.int .u64 (2 ^ Z - 1:Nat)) Qc m) else none:=by
   intro z Z
   show (if Q7=Q7∧s.length ≤ 281474976710656∧(10:Int)=10∧(B:Int)=z then _ else none)=_
   by_cases hz:(B:Int)=z
   ·rw [if_pos ⟨rfl,by omega,rfl,hz⟩,if_pos hz]; rfl
   ·rw [if_neg (by intro h; exact hz h.2.2.2),if_neg hz]
  show (match ovPu Q7 Qc 16 16 Q7 [sv s,I 10,I B] m with | some r=>some r | none=>ovPu Q7 Qc 8 8 Q7 [sv s,I 10,I B] m)=_
  rw [f16,f16]
  rcases hB with rfl | rfl
  ·rw [if_pos (by rfl)]
   cases parseUintB 16 s <;> rfl
  ·rw [if_neg (by omega),if_pos (by rfl)]
 rw [e] at key
 cases h:parseUintB B s with
 | ok v =>
  rw [h] at key
  exact ⟨v,.nilIface,m,key _ rfl,.refl _ _,.inl ⟨v,rfl,rfl,rfl⟩⟩
 | range =>
  rw [h] at key
  exact ⟨_,_,_,key _ rfl,.push _,.inr ⟨by simp,_,rfl⟩⟩
 | _ =>
  rw [h] at key
  exact ⟨0,_,_,key _ rfl,.push _,.inr ⟨by simp,_,rfl⟩⟩
end Go.Ab.Sh

set_option maxRecDepth 100000
namespace Go.Ab
open Go Go.Lib
theorem SL.block {m:Mem} {v:Value} {ws:List Str} (h:SL m v ws):∃ bs,bs < m.next∧(∀ m',m.next ≤ m'.next→m'.get bs=m.get bs→SL m' v ws)∧∀ n,refs n 8 v=Nat.blt bs n:=by
 obtain ⟨b,o,r,c,fro,ro,ty,rfl,h2,h3,h4,h5⟩:=h
 exact ⟨b,h2,fun m' hn hg=>⟨b,o,r,c,fro,ro,ty,rfl,Nat.lt_of_lt_of_le h2 hn,by rw [hg]; exact h3,h4,h5⟩,fun n=>rfl⟩
theorem Xn5 {m:Mem} {b o:Nat} {cs:List Value} {ty:Option Nat} (h:m.get b=some (.cells cs 0 0 false ty)) (v:Value) (hv:v.cells.toList=[v]) (h1:one v=true) (ho:o + 1 ≤ cs.length) {B:Nat} (hB:B ≤ b) :
  ∃ m',X8 1 (pt b o 0) v m=some m'∧Fb B m m'∧m'.next=m.next∧m'.get b=some (.cells (cs.take o ++ [v] ++ cs.drop (o + 1)) 0 0 false ty)∧∀ c,c ≠ b→m'.get c=m.get c:=by
 have hs:v.cells.size=1:=by rw [← Array.length_toList,hv]; rfl
 obtain ⟨m',k1,k2⟩:=X1s (o:=o) (n:=1) (v:=v) h hs (Nat.zero_le _) ho (by rw [hv]; simp [h1]) rfl
 refine ⟨m',k1,((Fb.refl B _).put _ hB).meq k2,by rw [k2.next,Mem.next_put],by rw [k2.get,Mem.get_put,if_pos rfl,hv],fun c hc=>by rw [k2.get,Mem.get_put,if_neg (fun e=>hc e.symm)]⟩
end Go.Ab
namespace Go.Ab.Sh
open Go Go.Ab Go.Lib
def cutO (c:UInt8) (w:Str):Str × Str × Bool:=match cut c w with | none=>(w,[],false) | some (x,y)=>(x,y,true)
theorem c_CutO (s:Str) (hs:s.length ≤ 4194304) (c:UInt8) (d:Nat) (m:Mem):TA (d + 2) Q3w [sv s,sv [c]] m=some (.tuple ⟨[sv (cutO c s).1,sv (cutO c s).2.1,.bool (cutO c s).2.2]⟩,m):=by
 rw [c_Cut s hs]
 unfold cutO
 cases cut c s <;> rfl
theorem Xgf (c:UInt8) (w:Str):(cutO c w).1.length ≤ w.length∧(cutO c w).2.1.length ≤ w.length:=by
 unfold cutO
 cases h:cut c w with
 | none=>simp
 | some p=>have:=X9d h; simp; omega
end Go.Ab.Sh

set_option maxRecDepth 100000
namespace Go.Ab
open Go Go.Lib
theorem Xre {c:UInt8} {x:Str} (y:Str) (h:c ∉ x):split c (x ++ c :: y)=x :: split c y:=X5b (Xow y h)
theorem Xff (c:UInt8):∀ (n:Nat) (s:Str),s.length ≤ n→∀ ws,split c s=ws→s=X2i [c] ws∧∀ w ∈ ws,c ∉ w
 | n,s,hn,ws,h=>by
  cases hc:cut c s with
  | none =>
   rw [X7o hc] at h
   subst h
   refine ⟨by simp [X2i,List.intercalate],fun w hw=>?_⟩
   simp only [List.mem_singleton] at hw
   subst hw
   exact Xoy hc
  | some p =>
   obtain ⟨x,y⟩:=p
   have hl:=X9d hc
   rw [X5b hc] at h
   subst h
   cases n with
   | zero=>omega
   | succ n =>
    obtain ⟨q1,q2⟩:=Xff c n y (by omega) _ rfl
    obtain ⟨e1,e2⟩:=Xib hc
    refine ⟨?_,fun w hw=>?_⟩
    ·rw [e1]
     cases hs:split c y with
     | nil=>exact absurd hs (X67 c y)
     | cons a l =>
      rw [hs] at q1
      rw [q1]
      simp [X2i,List.intercalate,List.intersperse]
    ·rcases List.mem_cons.mp hw with e | e
     ·subst e; exact e2
     ·exact q2 w e
end Go.Ab
