/-
  An evaluator over abstract memories, and that what it answers the machine answers. No conditions.
-/
import Derived.Test.YtdmfclgfkgmbdaaGreatDoorAb3
set_option linter.unusedSimpArgs false
set_option linter.unusedVariables false

namespace Go.Ab
noncomputable section
inductive NewV where
 | ptr | mp
 | sl (size len r:Nat)
def NewV.val:NewV→Nat→Value
 | .ptr,b=>.pointer (some ⟨b,0,some 0⟩)
 | .mp,b=>.map (some b)
 | .sl size len r,b=>.slice (some ⟨b,0,some size⟩) len r
def aOf (P:Program) (f:Operand→Value) (o:Oper):Option (AObj × NewV):=
 match o.op with
 | .alloc t=>match tz P t with | some (_,z)=>some (.cells z.cells.toList 0 0 false (some (2 * t + 1)),.ptr) | none=>none
 | .box t x=>some (.cells (f x).cells.toList 0 0 false (some (2 * t + 1)),.ptr)
 | .buildSlice t len parts=>match P.underlying t with
  | some (.slice e)=>match tz P e with
   | some (i,z)=>if Nat.ble (len * i.size) 16777216 then
     match fill (fun k=>some (k * i.size,i.size)) (rep len z.cells.toList) (parts.toList.map fun (i,x)=>(i,f x)) with
     | some cs=>if i.size=0 then none else some (.cells cs 0 0 false (some (2 * e)),.sl i.size len 1)
     | none=>none
    else none
   | none=>none
  | _=>none
 | .makeMap _ none=>some (.map [] 0,.mp)
 | .makeSlice t l c=>match P.underlying t with
  | some (.slice e)=>match tz P e with
   | some (i,z)=>match f l,f c with
    | .int _ l,.int _ c=>if decide (0 ≤ l) && decide (l ≤ c) && fits c.toNat i.bytes && Nat.ble 1 i.size then some (.cells (rep l.toNat z.cells.toList) 0 0 false (some (2 * e)),.sl i.size l.toNat (if l=c then 1 else 0)) else none
    | _,_=>none
   | none=>none
  | _=>none
 | .range t x=>match P.underlying t with
  | some .string=>match f x with | .string s=>some (.siter s 0,.ptr) | _=>none
  | _=>none
 | .convert s d x=>match Xd2 P s d,f x with
  | .bytes,.string s=>some (.cells (s.data.toList.map fun b=>.int .u8 b.toNat) 0 0 false none,.sl 1 s.size 0)
  | _,_=>none
 | _=>none
def Xh7 (P:Program) (o:Op):Bool:=
 match o with
 | .convert s d _=>match Xd2 P s d with | .bytes=>true | _=>false
 | .range t _=>match P.underlying t with | some .string=>true | _=>false
 | .alloc _ | .box .. | .buildSlice .. | .makeSlice .. | .makeMap ..=>true
 | _=>false
theorem Xm3 {P:Program} {f:Operand→Value} {o:Oper} {ob:AObj} {nv:NewV} (h:aOf P f o=some (ob,nv)) (m:Mem):evOp P f m o=some (nv.val m.next,m.push ob):=by
 obtain ⟨dst,op,ty,pos,after,guard⟩:=o
 unfold aOf at h
 unfold evOp
 cases op <;> simp only [reduceCtorEq] at h ⊢
 case alloc t =>
  cases hz:tz P t with
  | none=>rw [hz] at h; cases h
  | some p=>obtain ⟨i,z⟩:=p; rw [hz] at h; cases h; rfl
 case box t x=>cases h; rfl
 case buildSlice t len parts =>
  split at h
  ·rename_i e he
   rw [he]
   simp only
   split at h
   ·rename_i i z hz
    rw [hz]
    simp only
    split at h
    ·rename_i hb
     rw [if_pos hb]
     split at h
     ·rename_i cs hcs
      split at h
      ·cases h
      ·rename_i h0
       cases h
       simp only [X28,X21]
       rw [hcs]
       simp only [if_neg h0]
       rfl
     ·cases h
    ·cases h
   ·cases h
  ·cases h
 case convert s d x =>
  split at h
  ·rename_i s' hc hx
   cases h
   rw [hc,hx]
   rfl
  ·cases h
 case makeMap t r =>
  cases r with
  | none=>cases h; rfl
  | some _=>cases h
 case makeSlice t l c =>
  split at h
  ·rename_i e he
   rw [he]
   simp only
   split at h
   ·rename_i i z hz
    rw [hz]
    simp only
    split at h
    ·rename_i l' c' hl hc
     split at h
     ·rename_i hcond
      cases h
      rw [hl,hc]
      simp only [X37]
      rw [if_pos hcond]
      rfl
     ·cases h
    ·cases h
   ·cases h
  ·cases h
 case range t x =>
  split at h
  ·rename_i ht
   rw [ht]
   simp only
   split at h
   ·rename_i s hs
    cases h
    rw [hs]
    rfl
   ·cases h
  ·cases h
theorem Xy8 {P:Program} {f:Operand→Value} {m m':Mem} {o:Oper} {v:Value} (hk:Xh7 P o.op=true) (h:evOp P f m o=some (v,m')):∃ ob nv,aOf P f o=some (ob,nv)∧v=nv.val m.next∧m'=m.push ob:=by
 have key:(∃ p,aOf P f o=some p)→∃ ob nv,aOf P f o=some (ob,nv)∧v=nv.val m.next∧m'=m.push ob:=fun ⟨p,hp⟩=>by
  obtain ⟨ob,nv⟩:=p
  have:=Xm3 hp m
  rw [h] at this
  cases this
  exact ⟨ob,nv,hp,rfl,rfl⟩
 refine key ?_
 obtain ⟨dst,op,ty,pos,after,guard⟩:=o
 unfold aOf
 unfold evOp at h
 cases op <;> simp only [Xh7,Bool.false_eq_true] at hk h ⊢
 case alloc t =>
  cases hz:tz P t with
  | none=>rw [hz] at h; cases h
  | some p=>exact ⟨_,rfl⟩
 case box t x=>exact ⟨_,rfl⟩
 case buildSlice t len parts =>
  split at h
  ·rename_i e he
   simp only [he]
   split at h
   ·rename_i i z hz
    simp only [hz]
    split at h
    ·rename_i hb
     rw [if_pos hb]
     simp only [X28,X21] at h
     split at h
     ·rename_i cs hcs
      rw [hcs]
      split at h
      ·cases h
      ·rename_i h0
       simp only [if_neg h0]
       exact ⟨_,rfl⟩
     ·cases h
    ·cases h
   ·cases h
  ·cases h
 case convert s d x =>
  split at hk
  ·rename_i hc
   rw [hc] at h ⊢
   generalize f x=y at h ⊢
   cases y <;> simp only [conv,reduceCtorEq] at h
   exact ⟨_,rfl⟩
  ·cases hk
 case makeMap t r =>
  cases r with
  | none=>exact ⟨_,rfl⟩
  | some _=>cases h
 case makeSlice t l c =>
  split at h
  ·rename_i e he
   simp only [he]
   split at h
   ·rename_i i z hz
    simp only [hz]
    simp only [X37] at h
    split at h
    ·rename_i l' _ c' hl hc
     rw [hl,hc]
     simp only
     split at h
     ·rename_i hcond
      rw [if_pos hcond]
      exact ⟨_,rfl⟩
     ·cases h
    ·cases h
   ·cases h
  ·cases h
 case range t x =>
  split at h
  ·rename_i ht
   simp only [ht]
   simp only [X3i] at h
   split at h
   ·rename_i s hs
    rw [hs]
    exact ⟨_,rfl⟩
   ·cases h
  ·rename_i ht
   rw [ht] at hk
   cases hk
  ·cases h
def Grounded (φ:Pmap) (l:List Value):Prop:=∀ v ∈ l,∃ c,VRel φ v c
theorem Grounded.of_rels {φ:Pmap}:∀ {l c:List Value},VRels φ l c→Grounded φ l
 | _,_,.nil=>fun v hv=>by cases hv
 | _,_,.cons v v' l l' h hl=>fun u hu=>by
  rcases List.mem_cons.1 hu with rfl | hu
  ·exact ⟨v',h⟩
  ·exact Grounded.of_rels hl u hu
theorem Grounded.append {φ:Pmap} {a b:List Value} (ha:Grounded φ a) (hb:Grounded φ b):Grounded φ (a ++ b):=fun v hv=>by
 rcases List.mem_append.1 hv with h | h
 ·exact ha v h
 ·exact hb v h
theorem Grounded.rep {φ:Pmap} {z:List Value} (hz:Grounded φ z):∀ n,Grounded φ (rep n z)
 | 0=>fun v hv=>by cases hv
 | n + 1=>hz.append (Grounded.rep hz n)
theorem Grounded.fill {φ:Pmap} (place:Nat→Option (Nat × Nat)):∀ (l:List (Nat × Value)) (a r:List Value),(∀ p ∈ l,Grounded φ p.2.cells.toList)→Grounded φ a→fill place a l=some r→Grounded φ r
 | [],a,r,_,ha,h=>by simp only [Ab.fill,Option.some.injEq] at h; rw [← h]; exact ha
 | (i,v) :: l,a,r,hl,ha,h=>by
  simp only [Ab.fill] at h
  split at h
  ·split at h
   ·refine Grounded.fill place l _ r (fun p hp=>hl p (List.mem_cons_of_mem _ hp)) ?_ h
    unfold Xey
    exact (Grounded.append (fun u hu=>ha u (List.mem_of_mem_take hu)) (hl _ List.mem_cons_self)).append (fun u hu=>ha u (List.mem_of_mem_drop hu))
   ·cases h
  ·cases h
theorem Xo9 {P:Program} {φ:Pmap} {f cf:Operand→Value} {o:Oper} (hf:∀ x ∈ o.op.operands.toList,VRel φ (f x) (cf x)) {ob:AObj} {nv:NewV} (h:aOf P f o=some (ob,nv)) :
  match ob with | .cells c _ _ _ _=>Grounded φ c | .map es _=>es=[] | .siter _ _=>True | .miter _ _ _ _=>False:=by
 obtain ⟨dst,op,ty,pos,after,guard⟩:=o
 have gz:∀ {i:TypeInfo} {z:Value} {t:TypeId},tz P t=some (i,z)→Grounded φ z.cells.toList:=fun hz=>Grounded.of_rels (X27 (X1b (X65 hz).2.2.1))
 unfold aOf at h
 cases op <;> simp only [reduceCtorEq] at h hf
 case alloc t =>
  split at h
  ·rename_i i z hz
   cases h
   exact gz hz
  ·cases h
 case box t x =>
  cases h
  exact Grounded.of_rels (X27 (hf x (by simp [Op.operands])))
 case buildSlice t len parts =>
  split at h
  ·split at h
   ·rename_i i z hz
    split at h
    ·split at h
     ·rename_i cs hcs
      split at h
      ·cases h
      ·cases h
       refine Grounded.fill _ _ _ _ (fun p hp=>?_) ((gz hz).rep _) hcs
       obtain ⟨q,hq,rfl⟩:=List.mem_map.1 hp
       exact Grounded.of_rels (X27 (hf q.2 (by simp only [Op.operands,List.mem_map]; exact ⟨q,hq,rfl⟩)))
     ·cases h
    ·cases h
   ·cases h
  ·cases h
 case convert s d x =>
  split at h
  ·cases h
   intro v hv
   obtain ⟨b,_,rfl⟩:=List.mem_map.1 hv
   exact ⟨_,.int _ _⟩
  ·cases h
 case makeMap =>
  split at h <;> first | (cases h; done) | skip
  all_goals (rename_i heq; cases heq)
  all_goals (cases h)
  all_goals first | rfl | trivial | skip
 case makeSlice t l c =>
  split at h
  ·split at h
   ·rename_i i z hz
    split at h
    ·split at h
     ·cases h
      exact (gz hz).rep _
     ·cases h
    ·cases h
   ·cases h
  ·cases h
 case range t x =>
  split at h
  ·split at h
   ·cases h
    trivial
   ·cases h
  ·cases h
end
end Go.Ab

namespace Go.Ab
noncomputable section
theorem NewV.val_rel {φ ψ:Pmap} {nv:NewV} {b b':Nat} {cv:Value} (h:VRel φ (nv.val b) cv) (e:ψ b'=φ b):VRel ψ (nv.val b') cv:=by
 cases nv with
 | ptr =>
  cases h with
  | ptr _ _ _ B O pl hb hr hp=>exact .ptr _ _ _ B O pl (by rw [e]; exact hb) hr hp
 | mp =>
  cases h with
  | map _ R pl hb hp=>exact .map _ R pl (by rw [e]; exact hb) hp
 | sl size len r =>
  cases h with
  | slice _ _ _ _ _ B O cap pl hb hes hn hr hp=>exact .slice _ _ _ _ _ B O cap pl (by rw [e]; exact hb) hes hn hr hp
theorem NewV.val_there {φ:Pmap} {nv:NewV} {b:Nat} {cv:Value} (h:VRel φ (nv.val b) cv):∃ pl,φ b=some pl:=by
 cases nv with
 | ptr=>cases h with | ptr _ _ _ B O pl hb hr hp=>exact ⟨pl,hb⟩
 | mp=>cases h with | map _ R pl hb hp=>exact ⟨pl,hb⟩
 | sl size len r=>cases h with | slice _ _ _ _ _ B O cap pl hb hes hn hr hp=>exact ⟨pl,hb⟩
theorem Xnl {P:Program} {B0:Nat} {φ:Pmap} {m:Mem} {w:World} (hR:Rel B0 φ m w) {f cf:Operand→Value} (o:Oper) (hf:∀ x ∈ o.op.operands.toList,VRel φ (f x) (cf x)) {ob:AObj} {nv:NewV}
  (ha:aOf P f o=some (ob,nv)) {b:Nat} (hb:φ b=none) (hg:m.get b=some ob) (hlt:b < m.next) :
  ∃ cv w' pl,Done P cf o w cv w'∧Rel B0 (φ.upd b pl) m w'∧VRel (φ.upd b pl) (nv.val b) cv∧φ.le (φ.upd b pl) ∧
   (∀ (φ0:Pmap) (m0:Mem) (w0:World),Stp φ0 m0 w0 φ m w→m0.next ≤ b→Stp φ0 m0 w0 (φ.upd b pl) m w'):=by
 have hev:=Xm3 ha (withLow m m.next)
 obtain ⟨cv,w',φ',h1,h2,h3,h4⟩:=Xlc (X9k hR m.next) o hf hev
 obtain ⟨pl,hpl⟩:=NewV.val_there h3
 simp only [withLow] at hpl
 have same:∀ x,x < m.next→φ' x=φ x:=fun x hx=>(h4.same x (by simp [withLow]; exact hx) hx).2
 have hget:∀ x,x < m.next→((withLow m m.next).push ob).get x=m.get x:=fun x hx=>by
  rw [Mem.get_push,if_neg (by simp [withLow]; omega)]; rfl
 have hag:∀ x p,φ x=some p→φ' x=some p:=fun x p hx=>by rw [same x (hR.blocks x p hx).1]; exact hx
 have hle:φ.le (φ.upd b pl):=fun x p hx=>⟨p,by
  have:x ≠ b:=fun e=>by rw [e,hb] at hx; cases hx
  rw [Pmap.upd_other pl this]; exact hx,.inl rfl⟩
 have hgr:=Xo9 hf ha
 -- the new block
 have hnew:BRel (φ.upd b pl) w' pl ob:=by
  obtain ⟨_,o',q1,q2⟩:=h2.blocks m.next pl hpl
  rw [Mem.get_push,if_pos (by simp [withLow])] at q1
  cases q1
  cases ob with
  | cells c ver fro ro ty' =>
   obtain ⟨a1,a2,a3,C',ty',lo',hi',a4,a5,a6,a7⟩:=q2
   refine ⟨a1,a2,a3,C',ty',lo',hi',a4,a5,fun i v hi hv=>?_,a7⟩
   obtain ⟨c1,k2,k3⟩:=a6 i v hi hv
   obtain ⟨c0,k0⟩:=hgr v (List.mem_of_getElem? hv)
   exact ⟨c1,k2,(k0.back hag k3).mono hle⟩
  | map es clock =>
   simp only at hgr
   subst hgr
   obtain ⟨a1,a2,es1,a3,a4⟩:=q2
   refine ⟨a1,a2,es1,a3,?_⟩
   generalize es1.toList=L at a4
   cases a4
   exact .nil
  | siter s pos=>exact q2
  | miter _ _ _ _=>exact hgr.elim
 have hold:∀ x p,φ x=some p→∃ o,m.get x=some o∧BRel (φ.upd b pl) w' p o:=fun x p hx=>by
  obtain ⟨q1,o,q2,q3⟩:=hR.blocks x p hx
  obtain ⟨_,o',q4,q5⟩:=h2.blocks x p (hag x p hx)
  rw [hget x q1,q2] at q4
  cases q4
  exact ⟨o,q2,(q3.back hag q5).mono hle⟩
 refine ⟨cv,w',pl,h1,⟨fun x p hx=>?_,fun x x' p p' hx hx' hr heq=>?_,fun x p hx hr=>?_,h2.size,hR.fresh⟩,NewV.val_rel h3 (by rw [Pmap.upd_same]; exact hpl.symm),hle,fun φ0 m0 w0 s hm0=>?_⟩
 ·by_cases hxb:x=b
  ·subst hxb
   rw [Pmap.upd_same] at hx
   cases hx
   exact ⟨hlt,ob,hg,hnew⟩
  ·rw [Pmap.upd_other pl hxb] at hx
   exact ⟨(hR.blocks x p hx).1,hold x p hx⟩
 ·by_cases hxb:x=b
  ·by_cases hxb':x'=b
   ·rw [hxb,hxb']
   ·subst hxb
    rw [Pmap.upd_same] at hx
    rw [Pmap.upd_other pl hxb'] at hx'
    cases hx
    have:=h2.inj m.next x' pl p' hpl (hag _ _ hx') hr heq
    have:=(hR.blocks x' p' hx').1
    omega
  ·by_cases hxb':x'=b
   ·subst hxb'
    rw [Pmap.upd_same] at hx'
    rw [Pmap.upd_other pl hxb] at hx
    cases hx'
    have:=h2.inj x m.next p pl (hag _ _ hx) hpl hr heq
    have:=(hR.blocks x p hx).1
    omega
   ·rw [Pmap.upd_other pl hxb] at hx
    rw [Pmap.upd_other pl hxb'] at hx'
    exact hR.inj x x' p p' hx hx' hr heq
 ·by_cases hxb:x=b
  ·subst hxb
   rw [Pmap.upd_same] at hx
   cases hx
   exact h2.base m.next pl hpl hr
  ·rw [Pmap.upd_other pl hxb] at hx
   exact hR.base x p hx hr
 ·have himg:pl.ro=false→w.heap.size ≤ pl.blk:=fun hr=>by
   rcases h4.img m.next pl hpl hr with ⟨b',pl',g1,g2,g3⟩ | g1
   ·have h5:=(hR.blocks b' pl' g1).1
    have:=h2.inj b' m.next pl' pl (hag _ _ g1) hpl g2 g3
    omega
   ·exact g1
  refine ⟨s.le.trans hle,s.next,s.low,fun x hx1 hx2=>?_,h4.os.trans s.os,h4.tape.trans s.tape,h4.output.trans s.output,Nat.le_trans s.size h4.size,fun B hB hn=>?_,fun x p hx hr=>?_,fun x hx1 hx2=>?_⟩
  ·obtain ⟨q1,q2⟩:=s.same x hx1 hx2
   exact ⟨q1,by rw [Pmap.upd_other pl (by omega)]; exact q2⟩
  ·rw [h4.frame B (Nat.lt_of_lt_of_le hB s.size) ?_,s.frame B hB hn]
   intro b' p' hb' hr' e
   rcases s.img b' p' hb' hr' with ⟨b2,pl2,g1,g2,g3⟩ | g1
   ·exact hn b2 pl2 g1 g2 (g3.trans e)
   ·omega
  ·by_cases hxb:x=b
   ·subst hxb
    rw [Pmap.upd_same] at hx
    cases hx
    exact .inr (Nat.le_trans s.size (himg hr))
   ·rw [Pmap.upd_other pl hxb] at hx
    exact s.img x p hx hr
  ·obtain ⟨q1,q2⟩:=s.un x hx1 hx2
   exact ⟨by rw [Pmap.upd_other pl (by omega)]; exact q1,q2⟩
theorem Xps {B0:Nat} {φ:Pmap} {m:Mem} {w:World} (h:Rel B0 φ m w) (ob:AObj):Rel B0 φ (m.push ob) w∧φ m.next=none∧∀ φ0 m0 w0,Stp φ0 m0 w0 φ m w→Stp φ0 m0 w0 φ (m.push ob) w:=by
 have hget:∀ x,x < m.next→(m.push ob).get x=m.get x:=fun x hx=>by rw [Mem.get_push,if_neg (by omega)]
 refine ⟨⟨fun b pl hb=>?_,h.inj,h.base,h.size,fun b hb=>?_⟩,?_,fun φ0 m0 w0 s=>⟨s.le,by have:=s.next; simp; omega,s.low,fun b h1 h2=>?_,s.os,s.tape,s.output,s.size,s.frame,s.img,fun b h1 h2=>?_⟩⟩
 ·obtain ⟨q1,o,q2,q3⟩:=h.blocks b pl hb
  exact ⟨by simp; omega,o,by rw [hget b q1]; exact q2,q3⟩
 ·simp at hb
  rw [Mem.get_push,if_neg (by omega)]
  exact h.fresh b (by omega)
 ·cases hx:φ m.next with
  | none=>rfl
  | some pl=>have:=(h.blocks _ _ hx).1; omega
 ·have hn:=s.next
  have:=s.same b (by simpa using h1) h2
  exact ⟨by rw [hget b (by omega)]; exact this.1,this.2⟩
 ·have hn:=s.next
  obtain ⟨q1,q2⟩:=s.un b h1 h2
  exact ⟨q1,by rw [hget b (by omega)]; exact q2⟩
end
end Go.Ab

namespace Go.Ab
noncomputable section
def X85 (P:Program) (o:Op):Bool:=
 match o with
 | .move _ | .assign _ | .pick .. | .build .. | .nilCheck _ | .unOp .. | .makeInterface .. | .makeFunc .. | .fieldAddr .. | .field .. | .indexAddr .. | .index .. | .extract ..=>true
 | .binOp _ t _ _ _=>!Xc9 P t
 | .slice t _ _ _ _=>match P.underlying t with | some .string | some (.slice _)=>true | _=>false
 | .convert s d _=>match Xd2 P s d with | .bytes | .str | .toU _ | .fromU _=>false | _=>true
 | .call { callee:=.builtin .max,.. } | .call { callee:=.builtin .min,.. }=>true
 | .call { callee:=.builtin .len,argTypes,.. }=>match (argTypes[0]?).bind P.underlying with | some (.map _ _)=>false | _=>true
 | _=>false
def isRead (P:Program) (o:Op):Bool:=
 match o with
 | .load .. | .lookup .. | .binOp ..=>true
 | .slice ..=>true
 | .convert s d _=>match Xd2 P s d with | .bytes=>false | _=>true
 | .call { callee:=.builtin .len,.. }=>true
 | _=>false
def Cv.plain (c:Cv):Bool:=match c with | .bytes | .str | .toU _ | .fromU _=>false | _=>true
theorem Xdz {c:Cv} (hc:c.plain=true) {x v:Value} {m m1:Mem} (h:conv c x m=some (v,m1)):m1=m∧∀ m',conv c x m'=some (v,m'):=by
 cases c <;> simp only [Cv.plain,Bool.false_eq_true] at hc <;> cases x <;> simp only [conv,reduceCtorEq,Option.some.injEq,Prod.mk.injEq] at h
 all_goals (obtain ⟨rfl,rfl⟩:=h; exact ⟨rfl,fun _=>rfl⟩)
theorem Xr2 {c:Cv} (hc:c ≠ .bytes) {x v:Value} {m m1:Mem} (h:conv c x m=some (v,m1)):m1=m:=by
 cases hp:c.plain
 ·cases c <;> simp only [Cv.plain,reduceCtorEq,ne_eq,not_true_eq_false] at hp hc
  case str =>
   cases x <;> simp only [conv,reduceCtorEq] at h
   rename_i a n r
   cases a with
   | none=>simp only [conv,Option.some.injEq,Prod.mk.injEq] at h; exact h.2.symm
   | some a =>
    simp only [conv] at h
    split at h
    ·split at h
     ·cases h; rfl
     ·cases h
    ·cases h
  case toU =>
   cases x <;> simp only [conv,reduceCtorEq] at h
   rename_i a
   cases a with
   | none=>simp only [conv,Option.some.injEq,Prod.mk.injEq] at h; exact h.2.symm
   | some a =>
    simp only [conv] at h
    split at h
    ·split at h
     ·simp only [Option.some.injEq,Prod.mk.injEq] at h; exact h.2.symm
     ·cases h
    ·cases h
  case fromU =>
   cases x <;> simp only [conv,reduceCtorEq] at h
   rename_i a
   cases a with
   | none=>simp only [conv,Option.some.injEq,Prod.mk.injEq] at h; exact h.2.symm
   | some a =>
    simp only [conv] at h
    split at h
    ·split at h
     ·simp only [Option.some.injEq,Prod.mk.injEq] at h; exact h.2.symm
     ·cases h
    ·cases h
 ·exact (Xdz hp h).1
theorem X1k {x:Option Value} {m m1:Mem} {v:Value} (h:pur x m=some (v,m1)):m1=m∧∀ m',pur x m'=some (v,m'):=by
 obtain ⟨rfl,rfl⟩:=Xo h
 exact ⟨rfl,fun _=>rfl⟩
theorem X44 {x v:Value} {m m1:Mem} (h:some (x,m)=some (v,m1)):m1=m∧∀ m':Mem,some (x,m')=some (v,m'):=by
 cases h; exact ⟨rfl,fun _=>rfl⟩
theorem Xcu {P:Program} {f:Operand→Value} {m m1:Mem} {o:Oper} {v:Value} (hk:X85 P o.op=true) (h:evOp P f m o=some (v,m1)):m1=m∧∀ m',evOp P f m' o=some (v,m'):=by
 obtain ⟨dst,op,ty,pos,after,guard⟩:=o
 unfold evOp at h ⊢
 cases op <;> simp only [X85,Bool.false_eq_true] at hk h ⊢
 case move=>exact X44 h
 case assign=>exact X44 h
 case pick =>
  unfold pk at h ⊢
  split at h <;> first | exact X44 h | cases h
 case build =>
  split at h
  ·split at h
   ·split at h
    ·exact X1k h
    ·cases h
   ·split at h
    ·exact X1k h
    ·cases h
   ·cases h
  ·cases h
 case nilCheck=>exact X1k h
 case binOp b t x y yt =>
  simp only [Bool.not_eq_true'] at hk
  rw [hk] at h ⊢
  exact X1k h
 case unOp=>exact X1k h
 case convert s d x =>
  refine Xdz ?_ h
  unfold Cv.plain
  exact hk
 case makeInterface t x=>split at h <;> first | exact X44 h | cases h
 case makeFunc=>exact X44 h
 case slice t x lo hi mx =>
  split at h
  ·split at h
   ·exact X1k h
   ·cases h
  ·split at h
   ·split at h
    ·exact X1k h
    ·split at h
     ·exact X1k h
     ·cases h
   ·cases h
  ·rename_i h1 h2
   split at hk
   ·rename_i h3; exact absurd h3 h1
   ·rename_i e h3; exact absurd h3 (h2 e)
   ·cases hk
 case fieldAddr =>
  split at h
  ·split at h
   ·split at h
    ·split at h
     ·rename_i hb
      simp only [if_pos hb]
      exact X1k h
     ·cases h
    ·cases h
   ·cases h
  ·cases h
 case field =>
  split at h
  ·split at h
   ·split at h
    ·exact X1k h
    ·cases h
   ·cases h
  ·cases h
 case indexAddr =>
  split at h
  ·split at h
   ·exact X1k h
   ·cases h
  ·split at h
   ·exact X1k h
   ·cases h
  ·cases h
 case index =>
  split at h
  ·split at h
   ·exact X1k h
   ·cases h
  ·exact X1k h
  ·cases h
 case extract=>exact X1k h
 case call c =>
  obtain ⟨callee,args,tys⟩:=c
  cases callee <;> simp only [Bool.false_eq_true,reduceCtorEq] at hk h ⊢
  rename_i b
  cases b <;> simp only [Bool.false_eq_true] at hk h ⊢
  case len =>
   unfold X3g at h ⊢
   cases hargs:args.toList.map f with
   | nil=>rw [hargs] at h; cases h
   | cons x l =>
    rw [hargs] at h
    cases l with
    | cons y l=>cases l <;> cases h
    | nil =>
     cases htys:tys.toList with
     | nil=>rw [htys] at h; cases h
     | cons t l =>
      rw [htys] at h
      cases l with
      | cons y l=>cases h
      | nil =>
       have ht0:tys[0]?=some t:=by
        rw [← Array.getElem?_toList,htys]; rfl
       rw [ht0] at hk
       simp only [Option.bind_some] at hk
       simp only at h ⊢
       split at h
       ·cases x <;> exact X1k h
       ·cases x <;> exact X1k h
       ·rename_i a b hm
        rw [hm] at hk
        cases hk
       ·exact X44 h
       ·split at h
        ·exact X44 h
        ·cases h
       ·cases h
  case max =>
   unfold X3g at h ⊢
   cases hargs:args.toList.map f with
   | nil=>rw [hargs] at h; cases h
   | cons x l =>
    rw [hargs] at h
    cases l with
    | nil=>cases h
    | cons y l =>
     cases l with
     | cons z l=>cases h
     | nil=>exact X1k h
  case min =>
   unfold X3g at h ⊢
   cases hargs:args.toList.map f with
   | nil=>rw [hargs] at h; cases h
   | cons x l =>
    rw [hargs] at h
    cases l with
    | nil=>cases h
    | cons y l =>
     cases l with
     | cons z l =>
      cases l with
      | cons u l=>cases h
      | nil=>exact X1k h
     | nil=>exact X1k h
theorem Xic {P:Program} {f:Operand→Value} {m m1:Mem} {o:Oper} {v:Value} (hk:isRead P o.op=true) (h:evOp P f m o=some (v,m1)):m1=m:=by
 obtain ⟨dst,op,ty,pos,after,guard⟩:=o
 unfold evOp at h
 cases op <;> simp only [isRead,Bool.false_eq_true] at hk h
 case load=>split at h <;> first | exact (Xo h).2 | cases h
 case binOp b t x y yt =>
  cases hp:Xc9 P t
  ·rw [hp] at h; exact (Xo h).2
  ·rw [hp] at h; exact (Xo h).2
 case lookup =>
  split at h
  ·split at h
   ·split at h
    ·exact (Xo h).2
    ·cases h
   ·cases h
  ·cases h
 case convert s d x =>
  refine Xr2 ?_ h
  intro e; rw [e] at hk; cases hk
 case slice t x lo hi mx =>
  split at h
  ·split at h
   ·exact (Xo h).2
   ·cases h
  ·split at h
   ·split at h
    ·exact (Xo h).2
    ·split at h
     ·exact (Xo h).2
     ·cases h
   ·cases h
  ·split at h
   ·split at h
    ·split at h
     ·exact (Xo h).2
     ·cases h
    ·cases h
   ·cases h
 case call c =>
  obtain ⟨callee,args,tys⟩:=c
  cases callee <;> simp only [Bool.false_eq_true,reduceCtorEq] at hk h
  rename_i b
  cases b <;> simp only [Bool.false_eq_true] at hk h
  unfold X3g at h
  cases hargs:args.toList.map f with
  | nil=>rw [hargs] at h; cases h
  | cons x l =>
   rw [hargs] at h
   cases l with
   | cons y l=>cases l <;> cases h
   | nil =>
    cases htys:tys.toList with
    | nil=>rw [htys] at h; cases h
    | cons t l =>
     rw [htys] at h
     cases l with
     | cons y l=>cases h
     | nil =>
      simp only at h
      split at h
      ·exact (Xo h).2
      ·exact (Xo h).2
      ·exact (Xo h).2
      ·cases h; rfl
      ·split at h
       ·cases h; rfl
       ·cases h
      ·cases h
theorem Xe7 {α:Type} {f f':Operand→α} (l:List Operand) (h:∀ x ∈ l,f x=f' x):l.map f=l.map f':=List.map_congr_left h
theorem Xnm {P:Program} {f f':Operand→Value} {m:Mem} {o:Oper} (h:∀ x ∈ o.op.operands.toList,f x=f' x):evOp P f m o=evOp P f' m o:=by
 obtain ⟨dst,op,ty,pos,after,guard⟩:=o
 have pairs:∀ ps:Array (Nat × Operand),(∀ x ∈ ps.toList.map (·.2),f x=f' x)→(ps.toList.map fun (i,x)=>(i,f x))=(ps.toList.map fun (i,x)=>(i,f' x)):=fun ps hp =>
  List.map_congr_left fun p hm=>by
   obtain ⟨i,x⟩:=p
   simp only [hp x (List.mem_map.2 ⟨(i,x),hm,rfl⟩)]
 cases op <;> simp only [Op.operands] at h <;> unfold evOp <;> simp only
 case build t ps=>rw [pairs ps (fun x hx=>h x (by simpa using hx))]
 case buildSlice t n ps=>rw [pairs ps (fun x hx=>h x (by simpa using hx))]
 case makeFunc fn first captured =>
  rw [Xe7 first.toList (fun x hx=>h x (by simp at hx ⊢; exact .inl hx)),Xe7 captured.toList (fun x hx=>h x (by simp at hx ⊢; exact .inr hx))]
 case call c =>
  obtain ⟨callee,args,tys⟩:=c
  cases callee <;> simp only [Xi6]
  rw [Xe7 args.toList (fun x hx=>h x (by simp [Call.operands] at hx ⊢; exact hx))]
 case slice t x lo hi mx=>cases lo <;> cases hi <;> cases mx <;> simp_all
 case mapEntry t x k=>simp only [Xi6]; rw [h x (by simp),h k (by simp)]
 case entry x=>simp only [Xi6]; rw [h x (by simp)]
 case entryStore t x s v=>simp only [Xi6]; rw [h x (by simp),h s (by simp),h v (by simp)]
 case next x b =>
  cases b
  ·simp only; rw [h x (by simp)]
  ·simp only; rw [h x (by simp)]
 all_goals (first | rfl | (simp_all; done))
end
end Go.Ab

namespace Go.Ab
noncomputable section
open Go.RowKit (Below)
def vsame:Nat→Value→Value→Bool
 | 0,_,_=>false
 | d + 1,a,b=>match a,b with
  | .bool x,.bool y=>decide (x=y)
  | .int k x,.int l y=>decide (k=l) && decide (x=y)
  | .string x,.string y=>decide (x=y)
  | .pointer x,.pointer y=>decide (x=y)
  | .slice x n r,.slice y n' r'=>decide (x=y) && decide (n=n') && decide (r=r')
  | .map x,.map y=>decide (x=y)
  | .nilFunc,.nilFunc=>true
  | .nilIface,.nilIface=>true
  | .iface t x,.iface u y=>decide (t=u) && vsame d x y
  | .func (.func f) x c,.func (.func g) y e=>decide (f=g) && vsames d x.toList y.toList && vsames d c.toList e.toList
  | .agg x,.agg y=>vsames d x.toList y.toList
  | .tuple x,.tuple y=>vsames d x.toList y.toList
  | _,_=>false
where
 vsames (d:Nat):List Value→List Value→Bool
  | [],[]=>true
  | a :: x,b :: y=>vsame d a b && vsames d x y
  | _,_=>false
theorem Xtx:∀ (d:Nat) (a b:Value),vsame d a b=true→a=b:=by
 intro d
 induction d with
 | zero=>intro a b h; simp [vsame] at h
 | succ d ih =>
  have ihs:∀ (x y:List Value),vsame.vsames d x y=true→x=y:=by
   intro x
   induction x with
   | nil=>intro y h; cases y with
    | nil=>rfl
    | cons=>simp [vsame.vsames] at h
   | cons a x ihx=>intro y h; cases y with
    | nil=>simp [vsame.vsames] at h
    | cons b y =>
     simp only [vsame.vsames,Bool.and_eq_true] at h
     rw [ih a b h.1,ihx y h.2]
  intro a b h
  unfold vsame at h
  split at h <;> (try simp only [Bool.and_eq_true,decide_eq_true_eq,Bool.false_eq_true] at h)
  case h_1=>rw [h]
  case h_2=>rw [h.1,h.2]
  case h_3=>rw [h]
  case h_4=>rw [h]
  case h_5=>rw [h.1.1,h.1.2,h.2]
  case h_6=>rw [h]
  case h_7=>rfl
  case h_8=>rfl
  case h_9=>rw [h.1,ih _ _ h.2]
  case h_10=>rw [h.1.1,Array.toList_inj.1 (ihs _ _ h.1.2),Array.toList_inj.1 (ihs _ _ h.2)]
  case h_11=>rw [Array.toList_inj.1 (ihs _ _ h)]
  case h_12=>rw [Array.toList_inj.1 (ihs _ _ h)]
def Mem.sub (m m':Mem):Prop:=∀ b o,m.get b=some o→m'.get b=some o
theorem X4p {m m':Mem} (h:m.sub m') {a:Addr} {n:Nat} {l:List Value} (hg:getCells m a n=some l):getCells m' a n=some l:=by
 rw [Xw] at hg ⊢; unfold X10 at hg ⊢
 split at hg
 ·rename_i c ver fro ro ty' hc
  rw [h _ _ hc]
  exact hg
 ·cases hg
theorem Xpl {m m':Mem} (h:m.sub m') {ag:Bool} {s:Nat} {x v:Value} (hg:X7 ag s x m=some v):X7 ag s x m'=some v:=by
 rw [X7l] at hg ⊢; unfold Xd6 at hg ⊢
 split at hg
 ·split at hg
  ·split at hg
   ·rename_i cs hcs
    rw [X4p h hcs]
    exact hg
   ·cases hg
  ·split at hg
   ·rename_i u hcs
    rw [X4p h hcs]
    exact hg
   ·cases hg
 ·cases hg
theorem Xl9 {m m':Mem} (h:m.sub m') {p:EqPl} {z:Value} {ok:Bool} {x k v:Value} (hg:X5h p z ok x k m=some v):X5h p z ok x k m'=some v:=by
 unfold X5h at hg ⊢
 simp only [X2u] at hg ⊢
 generalize (veq k k && (match aEq p k k with | some true=>true | _=>false))=c at hg ⊢
 cases c
 ·simp only [Bool.false_eq_true,if_false,reduceCtorEq] at hg
 ·simp only [if_true] at hg ⊢
  split at hg
  ·exact hg
  ·split at hg
   ·rename_i b es cl hb
    simp only [h _ _ hb]
    exact hg
   ·cases hg
  ·cases hg
theorem Xg0 {m m':Mem} (h:m.sub m') {len size:Nat} {x v:Value} {lo hi:Option Value} (hg:X3j len size x lo hi m=some v):X3j len size x lo hi m'=some v:=by
 unfold X3j at hg ⊢
 split at hg
 ·split at hg
  ·cases hg
  ·rename_i hcs
   rw [X4p h hcs]
   exact hg
 ·cases hg
theorem Xsn {m m':Mem} (h:m.sub m') {c:Cv} (hc:c ≠ .bytes) {x v:Value} (hg:conv c x m=some (v,m)):conv c x m'=some (v,m'):=by
 cases hp:c.plain
 ·cases c <;> simp only [Cv.plain,reduceCtorEq,ne_eq,not_true_eq_false] at hp hc
  case str =>
   cases x <;> simp only [conv,reduceCtorEq] at hg
   rename_i a n r
   cases a with
   | none=>simp only [conv,Option.some.injEq,Prod.mk.injEq] at hg ⊢; exact ⟨hg.1,trivial⟩
   | some a =>
    simp only [conv] at hg ⊢
    split at hg
    ·rename_i cs hcs
     rw [X4p h hcs]
     simp only
     split at hg
     ·rename_i l hl
      cases hg
      rfl
     ·cases hg
    ·cases hg
  case toU =>
   cases x <;> simp only [conv,reduceCtorEq] at hg
   rename_i a
   cases a with
   | none=>simp only [conv,Option.some.injEq,Prod.mk.injEq] at hg ⊢; exact ⟨hg.1,trivial⟩
   | some a =>
    simp only [conv] at hg ⊢
    split at hg
    ·rename_i hb
     rw [h _ _ hb]
     simp only
     split at hg
     ·rename_i hc
      rw [if_pos hc]
      simp only [Option.some.injEq,Prod.mk.injEq] at hg ⊢; exact ⟨hg.1,trivial⟩
     ·cases hg
    ·cases hg
  case fromU =>
   cases x <;> simp only [conv,reduceCtorEq] at hg
   rename_i a
   cases a with
   | none=>simp only [conv,Option.some.injEq,Prod.mk.injEq] at hg ⊢; exact ⟨hg.1,trivial⟩
   | some a =>
    simp only [conv] at hg ⊢
    split at hg
    ·rename_i hb
     rw [h _ _ hb]
     simp only
     split at hg
     ·rename_i hc
      rw [if_pos hc]
      simp only [Option.some.injEq,Prod.mk.injEq] at hg ⊢; exact ⟨hg.1,trivial⟩
     ·cases hg
    ·cases hg
 ·exact (Xdz hp hg).2 m'
theorem Xih {m m':Mem} (h:m.sub m') {a b:Addr} {r:Bool} (hg:Xjt m a b=some r):Xjt m' a b=some r:=by
 unfold Xjt at hg ⊢
 split at hg
 ·rename_i hab
  rw [if_pos hab]
  split at hg
  ·rename_i hb
   rw [h _ _ hb]
   exact hg
  ·cases hg
 ·cases hg
theorem Xss {m m':Mem} (h:m.sub m') {op:BinOp} {c g:Bool} {p:EqPl} {x y v:Value} (hg:binP m op c g p x y=some v):binP m' op c g p x y=some v:=by
 unfold binP at hg ⊢
 split at hg
 ·split at hg
  ·rename_i r hr
   simp only [Xih h hr]
   exact hg
  ·cases hg
 ·split at hg
  ·rename_i r hr
   simp only [Xih h hr]
   exact hg
  ·cases hg
 ·exact hg
theorem X48 {x y:Option Value} {m m':Mem} {v:Value} (h:∀ u,x=some u→y=some u) (hg:pur x m=some (v,m)):pur y m'=some (v,m'):=by
 obtain ⟨h1,_⟩:=Xo hg
 rw [h _ h1]; rfl
theorem Xs7 {m m':Mem} (h:m.sub m') {x v:Value} (hg:aLen x m=some v):aLen x m'=some v:=by
 unfold aLen at hg ⊢
 split at hg
 ·exact hg
 ·exact hg
 ·exact hg
 ·split at hg
  ·rename_i b es cl hb
   simp only [h _ _ hb]
   exact hg
  ·cases hg
 ·cases hg
theorem Xh4 {m m':Mem} (h:m.sub m') {k:Nat} {x v:Value} (hg:lenK k x m=some v):lenK k x m'=some v:=by
 rw [Xks] at hg ⊢; unfold Xrs at hg ⊢
 split at hg
 ·exact hg
 ·exact hg
 ·exact Xs7 h hg
 ·cases hg
theorem Xtz {P:Program} {f:Operand→Value} {m m':Mem} (hs:m.sub m') {o:Oper} {v:Value} (hk:isRead P o.op=true) (h:evOp P f m o=some (v,m)):evOp P f m' o=some (v,m'):=by
 obtain ⟨dst,op,ty,pos,after,guard⟩:=o
 unfold evOp at h ⊢
 cases op <;> simp only [isRead,Bool.false_eq_true] at hk h ⊢
 case load =>
  split at h
  ·exact X48 (fun _=>Xpl hs) h
  ·cases h
 case binOp b t x y yt =>
  cases hp:Xc9 P t
  ·rw [hp] at h; exact X48 (fun _ h=>h) h
  ·rw [hp] at h; exact X48 (fun _=>Xss hs) h
 case lookup =>
  split at h
  ·split at h
   ·split at h
    ·exact X48 (fun _=>Xl9 hs) h
    ·cases h
   ·cases h
  ·cases h
 case convert s d x =>
  refine Xsn hs ?_ h
  intro e; rw [e] at hk; cases hk
 case slice t x lo hi mx =>
  split at h
  ·split at h
   ·exact X48 (fun _ h=>h) h
   ·cases h
  ·split at h
   ·split at h
    ·exact X48 (fun _ h=>h) h
    ·split at h
     ·exact X48 (fun _ h=>h) h
     ·cases h
   ·cases h
  ·split at h
   ·split at h
    ·split at h
     ·exact X48 (fun _=>Xg0 hs) h
     ·cases h
    ·cases h
   ·cases h
 case call c =>
  obtain ⟨callee,args,tys⟩:=c
  cases callee <;> simp only [Bool.false_eq_true,reduceCtorEq] at hk h ⊢
  rename_i b
  cases b <;> simp only [Bool.false_eq_true] at hk h ⊢
  unfold X3g at h ⊢
  cases hargs:args.toList.map f with
  | nil=>rw [hargs] at h; cases h
  | cons x l =>
   rw [hargs] at h
   cases l with
   | cons y l=>cases l <;> cases h
   | nil =>
    cases htys:tys.toList with
    | nil=>rw [htys] at h; cases h
    | cons t l =>
     rw [htys] at h
     cases l with
     | cons y l=>cases h
     | nil =>
      simp only at h ⊢
      split at h
      ·exact X48 (fun _=>Xh4 hs) h
      ·exact X48 (fun _=>Xh4 hs) h
      ·exact X48 (fun _=>Xh4 hs) h
      ·simp only [Option.some.injEq,Prod.mk.injEq] at h ⊢; exact ⟨h.1,trivial⟩
      ·split at h
       ·simp only [Option.some.injEq,Prod.mk.injEq] at h ⊢; exact ⟨h.1,trivial⟩
       ·cases h
      ·cases h
theorem Xts {B0:Nat} {φ:Pmap} {m:Mem} {w:World} (h:Rel B0 φ m w) (ob:AObj):m.sub (m.push ob):=fun b o hb=>by
 rw [Mem.get_push,if_neg]
 ·exact hb
 ·intro e
  rw [h.fresh b (by omega)] at hb
  cases hb
end
end Go.Ab

namespace Go.Ab
noncomputable section
open Go.RowKit (Below)
def bit (b:List Nat) (i x:Nat):Bool:=(b.getD i 0).testBit x
structure Sch where
 e0:List Nat
 ph:List (Nat × List Nat × List Nat)
def X5g:List (Nat × List Nat × List Nat)→List Nat
 | []=>[]
 | (e,_,es) :: r=>e :: (es ++ X5g r)
def gst (ops:Array Oper) (ρ:Env) (o:Oper):Option Bool:=
 match o.guard with
 | none=>some true
 | some (j,want)=>match (ops[j]?).bind (·.dst) with
  | none=>none
  | some d=>gsv (ρ d) want
def Xq (P:Program) (n:Nat) (ops:Array Oper):List Nat→Env→Mem→(Env→Mem→Option Rs)→Option Rs
 | [],ρ,m,k=>k ρ m
 | i :: is,ρ,m,k=>match ops[i]? with
  | none=>none
  | some o=>match o.guard with
   | none=>opK P (evOp P (opd ρ) m o) (opd ρ) m o fun v m=>Xq P n ops is (put n ρ o.dst v) m k
   | some (j,want)=>match (ops[j]?).bind (·.dst) with
    | none=>none
    | some d=>brt (ρ d)
     (match want with
      | true=>opK P (evOp P (opd (upd n ρ d (.bool true))) m o) (opd (upd n ρ d (.bool true))) m o fun v m=>Xq P n ops is (put n (upd n ρ d (.bool true)) o.dst v) m k
      | false=>Xq P n ops is (put n (upd n ρ d (.bool true)) o.dst undef) m k)
     (match want with
      | true=>Xq P n ops is (put n (upd n ρ d (.bool false)) o.dst undef) m k
      | false=>opK P (evOp P (opd (upd n ρ d (.bool false))) m o) (opd (upd n ρ d (.bool false))) m o fun v m=>Xq P n ops is (put n (upd n ρ d (.bool false)) o.dst v) m k)
     (Xq P n ops is (put n (upd n ρ d undef) o.dst undef) m k)
theorem Xrm {ops:Array Oper} {n:Nat} {ρ:Env} {o:Oper} {j d:Nat} {want:Bool} (hg:o.guard=some (j,want)) (hd:(ops[j]?).bind (·.dst)=some d) (A B:Env→Option Rs) :
  brt (ρ d) (match (generalizing:=false) want with | true=>A (upd n ρ d (.bool true)) | false=>B (upd n ρ d (.bool true))) (match (generalizing:=false) want with | true=>B (upd n ρ d (.bool false)) | false=>A (upd n ρ d (.bool false))) (B (upd n ρ d undef))=brg (gst ops ρ o) (A ρ) (B ρ):=by
 have e:gst ops ρ o=gsv (ρ d) want:=by unfold gst; rw [hg]; simp only [hd]
 rw [e]
 unfold brt
 split
 ·rename_i h
  rw [upd_same h,h]
  cases want <;> rfl
 ·rename_i h
  rw [upd_same h,h]
  cases want <;> rfl
 ·rename_i h
  rw [upd_same (v:=undef) h,h]
  rfl
 ·rename_i h1 h2 h3
  unfold gsv
  split
  ·rename_i b h; cases b
   ·exact absurd h h2
   ·exact absurd h h1
  ·rename_i h; exact absurd h h3
  ·rfl
theorem Xhs {P:Program} {n:Nat} {ops:Array Oper} {i:Nat} {is:List Nat} {o:Oper} (ho:ops[i]?=some o) (ρ:Env) (m:Mem) (k:Env→Mem→Option Rs) :
  Xq P n ops (i :: is) ρ m k=brg (gst ops ρ o) (bp (evOp P (opd ρ) m o) fun v m=>Xq P n ops is (put n ρ o.dst v) m k) (Xq P n ops is (put n ρ o.dst undef) m k):=by
 simp only [Xq,ho,Xm0]
 cases hg:o.guard with
 | none =>
  have e:gst ops ρ o=some true:=by unfold gst; rw [hg]
  rw [e]; rfl
 | some jw =>
  obtain ⟨j,want⟩:=jw
  simp only
  cases hd:(ops[j]?).bind (·.dst) with
  | none =>
   have e:gst ops ρ o=none:=by unfold gst; rw [hg]; simp only [hd]
   rw [e]; rfl
  | some d =>
   simp only
   exact Xrm hg hd (fun ρ=>bp (evOp P (opd ρ) m o) fun v m=>Xq P n ops is (put n ρ o.dst v) m k) (fun ρ=>Xq P n ops is (put n ρ o.dst undef) m k)
def again (x:Option (Value × Mem)) (v:Value):Bool:=match x with | some (u,_)=>vsame 8 u v | none=>false
def Xc2 (P:Program) (ops:Array Oper):List Nat→Env→Mem→Bool
 | [],_,_=>true
 | i :: is,ρ,m=>match ops[i]? with
  | none=>false
  | some o=>brc (gst ops ρ o) ((match o.dst with | some d=>again (evOp P (opd ρ) m o) (ρ d) | none=>false) && Xc2 P ops is ρ m) (Xc2 P ops is ρ m)
def chkB (P:Program) (ops:Array Oper) (cs:List Nat) (ρ:Env) (m:Mem) (x:Option Rs):Option Rs:=match cs with | []=>x | _=>ckB (Xc2 P ops cs ρ m) x
def X3p (P:Program) (g:Tab) (n:Nat) (ops:Array Oper):List (Nat × List Nat × List Nat)→Env→Mem→(Env→Mem→Option Rs)→Option Rs
 | [],ρ,m,k=>k ρ m
 | (e,cs,es) :: r,ρ,m,k=>match ops[e]? with
  | none=>none
  | some o=>match o.guard with
   | none=>opK P (X6j P g (opd ρ) m o) (opd ρ) m o fun v m=>chkB P ops cs (put n ρ o.dst v) m (Xq P n ops es (put n ρ o.dst v) m fun ρ m=>X3p P g n ops r ρ m k)
   | some (j,want)=>match (ops[j]?).bind (·.dst) with
    | none=>none
    | some d=>brt (ρ d)
     (match want with
      | true=>opK P (X6j P g (opd (upd n ρ d (.bool true))) m o) (opd (upd n ρ d (.bool true))) m o fun v m=>chkB P ops cs (put n (upd n ρ d (.bool true)) o.dst v) m (Xq P n ops es (put n (upd n ρ d (.bool true)) o.dst v) m fun ρ m=>X3p P g n ops r ρ m k)
      | false=>Xq P n ops es (put n (upd n ρ d (.bool true)) o.dst undef) m fun ρ m=>X3p P g n ops r ρ m k)
     (match want with
      | true=>Xq P n ops es (put n (upd n ρ d (.bool false)) o.dst undef) m fun ρ m=>X3p P g n ops r ρ m k
      | false=>opK P (X6j P g (opd (upd n ρ d (.bool false))) m o) (opd (upd n ρ d (.bool false))) m o fun v m=>chkB P ops cs (put n (upd n ρ d (.bool false)) o.dst v) m (Xq P n ops es (put n (upd n ρ d (.bool false)) o.dst v) m fun ρ m=>X3p P g n ops r ρ m k))
     (Xq P n ops es (put n (upd n ρ d undef) o.dst undef) m fun ρ m=>X3p P g n ops r ρ m k)
theorem Xvc {P:Program} {ops:Array Oper} {cs:List Nat} {ρ:Env} {m:Mem} (x:Option Rs):chkB P ops cs ρ m x=bif Xc2 P ops cs ρ m then x else none:=by
 cases cs with
 | nil=>rfl
 | cons c cs =>
  show ckB (Xc2 P ops (c :: cs) ρ m) x=_
  cases Xc2 P ops (c :: cs) ρ m <;> rfl
theorem X7k {P:Program} {g:Tab} {n:Nat} {ops:Array Oper} {e:Nat} {cs es:List Nat} {r:List (Nat × List Nat × List Nat)} {o:Oper} (ho:ops[e]?=some o) (ρ:Env) (m:Mem) (k:Env→Mem→Option Rs) :
  X3p P g n ops ((e,cs,es) :: r) ρ m k=brg (gst ops ρ o) (bp (X6j P g (opd ρ) m o) fun v m=>bif Xc2 P ops cs (put n ρ o.dst v) m then Xq P n ops es (put n ρ o.dst v) m fun ρ m=>X3p P g n ops r ρ m k else none)
   (Xq P n ops es (put n ρ o.dst undef) m fun ρ m=>X3p P g n ops r ρ m k):=by
 simp only [X3p,ho,Xia,Xvc]
 cases hg:o.guard with
 | none =>
  have e:gst ops ρ o=some true:=by unfold gst; rw [hg]
  rw [e]; rfl
 | some jw =>
  obtain ⟨j,want⟩:=jw
  simp only
  cases hd:(ops[j]?).bind (·.dst) with
  | none =>
   have e:gst ops ρ o=none:=by unfold gst; rw [hg]; simp only [hd]
   rw [e]; rfl
  | some d =>
   simp only
   exact Xrm hg hd (fun ρ=>bp (X6j P g (opd ρ) m o) fun v m=>bif Xc2 P ops cs (put n ρ o.dst v) m then Xq P n ops es (put n ρ o.dst v) m fun ρ m=>X3p P g n ops r ρ m k else none)
    (fun ρ=>Xq P n ops es (put n ρ o.dst undef) m fun ρ m=>X3p P g n ops r ρ m k)
def Xw4 (P:Program) (g:Tab) (n:Nat) (ops:Array Oper) (s:Sch) (ρ:Env) (m:Mem) (k:Env→Mem→Option Rs):Option Rs:=
 Xq P n ops s.e0 ρ m fun ρ m=>X3p P g n ops s.ph ρ m k
structure St (n:Nat) (ops:Array Oper) (b:List Nat):Prop where
 clo:∀ i x,bit b i x=true→∃ o,ops[i]?=some o∧∃ e ∈ o.after,Region.binds .any e=true∧e.on < i∧(e.on=x∨bit b e.on x=true)
 edg:∀ (i:Nat) (o:Oper),ops[i]?=some o→∀ e ∈ o.after,Region.binds .any e=true→bit b i e.on=true
 dst:∀ (i j:Nat) (o p:Oper) (d:Nat),ops[i]?=some o→ops[j]?=some p→o.dst=some d→p.dst=some d→i=j
 dlt:∀ (i:Nat) (o:Oper) (d:Nat),ops[i]?=some o→o.dst=some d→d < n
 look:∀ (i:Nat) (o:Oper) (t x:Nat) (ox:Oper),ops[i]?=some o→t ∈ Oper.looksAt ops o→ops[x]?=some ox→ox.dst=some t→x ≠ i→bit b i x=true∨bit b x i=true
 opd:∀ (i:Nat) (o:Oper),ops[i]?=some o→o.op.operands.toList.all Xnx=true
def X7b (ops:Array Oper) (b:List Nat) (done:List Nat) (i:Nat):Bool:=(List.range ops.size).all fun x=>!bit b i x || done.contains x
def kindOk (P:Program) (ops:Array Oper) (i:Nat):Bool:=match ops[i]? with | some o=>X85 P o.op || isRead P o.op || Xh7 P o.op | none=>false
def X6p (P:Program) (ops:Array Oper) (i:Nat):Bool:=match ops[i]? with | some o=>isRead P o.op && !X85 P o.op | none=>false
def Xdv (ops:Array Oper) (b:List Nat) (i:Nat):Bool:=match ops[i]? with
 | some o=>(Oper.looksAt ops o).all fun t=>(List.range ops.size).all fun x=>match ops[x]? with | some ox=>ox.dst != some t || bit b i x | none=>true
 | none=>false
def X5r (P:Program) (ops:Array Oper) (b:List Nat):List Nat→List Nat→Bool
 | _,[]=>true
 | done,i :: is=>Nat.blt i ops.size && !done.contains i && X7b ops b done i && kindOk P ops i && X5r P ops b (i :: done) is
def okPh (P:Program) (ops:Array Oper) (b:List Nat):List Nat→List (Nat × List Nat × List Nat)→Bool
 | done,[]=>(List.range ops.size).all done.contains
 | done,(e,cs,es) :: r=>Nat.blt e ops.size && !done.contains e && X7b ops b done e && ((es ++ X5g r).all fun i=>bit b i e) &&
   (done.all fun i=>!X6p P ops i || bit b e i || cs.contains i) && (cs.all fun i=>Xdv ops b i) && X5r P ops b (e :: done) es && okPh P ops b (es.reverse ++ e :: done) r
def Xt3 (P:Program) (ops:Array Oper) (b:List Nat) (s:Sch):Bool:=X5r P ops b [] s.e0 && okPh P ops b s.e0.reverse s.ph
variable {P:Program} {W0:World} {g:Tab} {n:Nat} {ops:Array Oper} {b:List Nat}
def Pend (P:Program) (ops:Array Oper) (b:List Nat) (ρ0:Env) (m0:Mem) (al:List (Nat × Nat)) (φ:Pmap) (ρ:Env) (m:Mem) (i:Nat):Prop:=
  ∃ o G,ops[i]?=some o ∧
    (∀ t ∈ Oper.looksAt ops o,∀ x ox,ops[x]?=some ox→ox.dst=some t→bit b i x=true→G t=ρ t) ∧
    (∀ t ∈ Oper.looksAt ops o,(∀ x ox,ops[x]?=some ox→bit b i x=true→ox.dst ≠ some t)→G t=ρ0 t) ∧
    ∃ v,(∀ d,o.dst=some d→ρ d=v) ∧
      ((gst ops G o=some false∧v=undef) ∨
       (gst ops G o=some true ∧
          ((X85 P o.op=true∧evOp P (opd G) m o=some (v,m))∨(isRead P o.op=true∧X85 P o.op=false∧evOp P (opd G) m o=some (v,m)) ∨
            (∃ ob nv bk,aOf P (opd G) o=some (ob,nv)∧v=nv.val bk∧φ bk=none∧m.get bk=some ob∧(i,bk) ∈ al∧m0.next ≤ bk))))
def lst (listed:Array Bool) (i:Nat):Prop:=listed.getD i false=true
structure DInv (D:List Deferred) (P:Program) (W0:World) (n:Nat) (ops:Array Oper) (b:List Nat) (ρ0:Env) (φ0:Pmap) (m0:Mem) (w0:World) (done:List Nat) (al:List (Nat × Nat)) (listed:Array Bool) (φ:Pmap) (ρ:Env) (m:Mem) (a:Act) (w:World):Prop where
 rel0:Rel W0.heap.size φ0 m0 w0
 below0:Below W0.heap.size W0 w0
 rel:Rel W0.heap.size φ m w
 below:Below W0.heap.size W0 w
 size:a.tmps.size=n
 defers:a.defers=D
 low:m.low ≤ m.next
 stp:Stp φ0 m0 w0 φ m w
 lsz:listed.size=ops.size
 ld:∀ i,lst listed i→i ∈ done
 ldown:∀ i x,lst listed i→bit b i x=true→lst listed x
 ddown:∀ i x,i ∈ done→bit b i x=true→x ∈ done
 env1:∀ x o t,lst listed x→ops[x]?=some o→o.dst=some t→VRel φ (ρ t) (a.tmps.getD t undef)
 env0:∀ t,(∀ x o,lst listed x→ops[x]?=some o→o.dst ≠ some t)→VRel φ (ρ0 t) (a.tmps.getD t undef)
 old:∀ t,(∀ x o,x ∈ done→ops[x]?=some o→o.dst ≠ some t)→ρ t=ρ0 t
 pend:∀ i,i ∈ done→¬ lst listed i→Pend P ops b ρ0 m0 al φ ρ m i
 alin:∀ p q,p ∈ al→q ∈ al→p.2=q.2→p=q
 allt:∀ p,p ∈ al→p.2 < m.next
theorem Xc6 {n:Nat} {ρ:Env} {dst:Option Nat} {v:Value} {t:Nat} (h:dst ≠ some t):put n ρ dst v t=ρ t:=by
 cases dst with
 | none=>rfl
 | some d =>
  simp only [put,upd]
  cases hb:Nat.beq t d && Nat.blt d n
  ·rfl
  ·simp only [Bool.and_eq_true] at hb
   exact absurd (by rw [Nat.eq_of_beq_eq_true hb.1]) h
theorem Xlv {n:Nat} {ρ:Env} {d:Nat} {v:Value} (h:d < n):put n ρ (some d) v d=v:=by
 simp only [put,upd]
 have:(Nat.beq d d && Nat.blt d n)=true:=by
  simp only [Bool.and_eq_true]
  exact ⟨Nat.beq_refl d,by simp [Nat.blt,Nat.ble_eq]; omega⟩
 rw [this]; rfl
theorem X4l {done:List Nat} {i:Nat} (hS:St n ops b) (hi:i < ops.size) (h:X7b ops b done i=true):∀ x,bit b i x=true→x ∈ done:=by
 intro x hx
 have hxs:x < i:=by
  have key:∀ k i,i ≤ k→bit b i x=true→x < i:=by
   intro k
   induction k with
   | zero =>
    intro i hi hx
    obtain ⟨o,_,e,_,_,h3,_⟩:=hS.clo i x hx
    omega
   | succ k ih =>
    intro i hi hx
    obtain ⟨o,_,e,_,_,h3,h4⟩:=hS.clo i x hx
    rcases h4 with h4 | h4
    ·omega
    ·have:=ih e.on (by omega) h4
     omega
  exact key i i (Nat.le_refl _) hx
 unfold X7b at h
 rw [List.all_eq_true] at h
 have:=h x (List.mem_range.2 (by omega))
 rw [hx] at this
 simpa using this
theorem Pend.looks {D:List Deferred} {ρ0:Env} {φ0:Pmap} {m0:Mem} {w0:World} {done:List Nat} {al:List (Nat × Nat)} {listed:Array Bool} {φ:Pmap} {ρ:Env} {m:Mem} {a:Act} {w:World} (hS:St n ops b) (h:DInv D P W0 n ops b ρ0 φ0 m0 w0 done al listed φ ρ m a w)
  {i:Nat} {o:Oper} {G:Env} (ho:ops[i]?=some o) (hi:¬ lst listed i) (hpre:∀ x,bit b i x=true→lst listed x)
  (h1:∀ t ∈ Oper.looksAt ops o,∀ x ox,ops[x]?=some ox→ox.dst=some t→bit b i x=true→G t=ρ t)
  (h0:∀ t ∈ Oper.looksAt ops o,(∀ x ox,ops[x]?=some ox→bit b i x=true→ox.dst ≠ some t)→G t=ρ0 t):∀ t ∈ Oper.looksAt ops o,VRel φ (G t) (a.tmps.getD t undef):=by
 intro t ht
 by_cases hx:∃ x ox,ops[x]?=some ox∧ox.dst=some t∧bit b i x=true
 ·obtain ⟨x,ox,q1,q2,q3⟩:=hx
  rw [h1 t ht x ox q1 q2 q3]
  exact h.env1 x ox t (hpre x q3) q1 q2
 ·have hno:∀ x ox,ops[x]?=some ox→bit b i x=true→ox.dst ≠ some t:=fun x ox q1 q2 q3=>hx ⟨x,ox,q1,q3,q2⟩
  rw [h0 t ht hno]
  refine h.env0 t fun x ox q1 q2 q3=>?_
  have hne:x ≠ i:=fun e=>hi (e ▸ q1)
  rcases hS.look i o t x ox ho ht q2 q3 hne with q | q
  ·exact hno x ox q2 q q3
  ·exact hi (h.ldown x i q1 q)
theorem Xa4 {φ:Pmap} {G:Env} {a:Act} {o:Oper} (h:∀ t ∈ Oper.looksAt ops o,VRel φ (G t) (a.tmps.getD t undef)) (hok:o.op.operands.toList.all Xnx=true):∀ x ∈ o.op.operands.toList,VRel φ (opd G x) (a.eval x):=by
 intro x hx
 have:=List.all_eq_true.1 hok x hx
 cases x with
 | tmp t=>exact h t (by unfold Oper.looksAt; exact List.mem_append_left _ (List.mem_filterMap.2 ⟨.tmp t,hx,rfl⟩))
 | const v=>exact X1b this
 | global g=>cases this
 | func f=>exact .func _ _ _ _ _ .nil .nil
theorem X7h {φ:Pmap} {G:Env} {a:Act} {o:Oper} {c:Bool} (h:∀ t ∈ Oper.looksAt ops o,VRel φ (G t) (a.tmps.getD t undef)) (hg:gst ops G o=some c):Region.wanted o (yielded ops a.tmps)=c:=by
 unfold gst at hg
 unfold Region.wanted
 cases hgd:o.guard with
 | none=>rw [hgd] at hg; cases hg; rfl
 | some jw =>
  obtain ⟨j,want⟩:=jw
  rw [hgd] at hg
  simp only at hg ⊢
  cases hd:(ops[j]?).bind (·.dst) with
  | none=>rw [hd] at hg; cases hg
  | some d =>
   rw [hd] at hg
   simp only at hg
   have hr:=h d (by unfold Oper.looksAt; rw [hgd]; simp only [hd]; exact List.mem_append_right _ (by simp))
   unfold gsv at hg
   split at hg
   ·rename_i bb hb
    cases hg
    rw [hb] at hr
    generalize hc:a.tmps.getD d undef=c at hr
    cases hr
    have:a.tmps[d]?=some (.bool bb):=by
     rw [Array.getD_eq_getD_getElem?] at hc
     cases hx:a.tmps[d]? with
     | none=>rw [hx] at hc; cases hc
     | some y=>rw [hx] at hc; simp at hc; rw [hc]
    have hy:yielded ops a.tmps j=some bb:=by simp [yielded,hd,this]
    rw [hy]
    cases bb <;> cases want <;> rfl
   ·rename_i hb
    cases hg
    rw [hb] at hr
    generalize hc:a.tmps.getD d undef=c at hr
    have hy:yielded ops a.tmps j=none:=by
     cases hr with
     | tuple _ a' hl =>
      cases a' with
      | mk l =>
       simp only at hl
       cases hl
       rw [Array.getD_eq_getD_getElem?] at hc
       cases hx:a.tmps[d]? with
       | none=>simp [yielded,hd,hx]
       | some y=>rw [hx] at hc; simp at hc; simp [yielded,hd,hx,hc]
    rw [hy]
    rfl
   ·cases hg
end
end Go.Ab

namespace Go.Ab
noncomputable section
open Go.RowKit (Below)
variable {D:List Deferred}
variable {P:Program} {W0:World} {g:Tab} {n:Nat} {ops:Array Oper} {b:List Nat}
theorem X2b {listed:Array Bool} {i x:Nat} (hi:i < listed.size):lst (listed.setIfInBounds i true) x ↔ x=i∨lst listed x:=by
 unfold lst
 by_cases hx:x=i
 ·subst hx
  simp [hi]
 ·have:(listed.setIfInBounds i true).getD x false=listed.getD x false:=getD_set_ne false (Ne.symm hx)
  rw [this]
  simp [hx]
theorem lt_of_some {i:Nat} {o:Oper} (h:ops[i]?=some o):i < ops.size:=(Array.getElem?_eq_some_iff.1 h).1
theorem Xo4 {ρ0:Env} {φ0:Pmap} {m0:Mem} {w0:World} {done:List Nat} {al:List (Nat × Nat)} {listed:Array Bool} {φ:Pmap} {ρ:Env} {m:Mem} {a:Act} {w:World} (hS:St n ops b)
  (h:DInv D P W0 n ops b ρ0 φ0 m0 w0 done al listed φ ρ m a w) {i:Nat} {is:List Nat} {k:Env→Mem→Option Rs} {r:Rs} (hn:i ∉ done) (hpre:∀ x,bit b i x=true→x ∈ done) (hk:kindOk P ops i=true)
  (hr:Xq P n ops (i :: is) ρ m k=some r):∃ al' ρ' m',DInv D P W0 n ops b ρ0 φ0 m0 w0 (i :: done) al' listed φ ρ' m' a w∧Xq P n ops is ρ' m' k=some r:=by
 obtain ⟨o,ho⟩:∃ o,ops[i]?=some o:=by
  unfold kindOk at hk
  cases ho:ops[i]? with
  | none=>rw [ho] at hk; cases hk
  | some o=>exact ⟨o,rfl⟩
 rw [Xhs ho] at hr
 -- what stays the same whatever has come
 have main:∀ (v:Value) (m':Mem) (al':List (Nat × Nat)),Rel W0.heap.size φ m' w→m'.low ≤ m'.next→Stp φ0 m0 w0 φ m' w→m.sub m'→m.next ≤ m'.next→(∀ p,p ∈ al→p ∈ al')→(∀ p q,p ∈ al'→q ∈ al'→p.2=q.2→p=q)→(∀ p,p ∈ al'→p.2 < m'.next) →
   ((gst ops ρ o=some false∧v=undef)∨(gst ops ρ o=some true ∧
     ((X85 P o.op=true∧evOp P (opd ρ) m' o=some (v,m'))∨(isRead P o.op=true∧X85 P o.op=false∧evOp P (opd ρ) m' o=some (v,m')) ∨
      (∃ ob nv bk,aOf P (opd ρ) o=some (ob,nv)∧v=nv.val bk∧φ bk=none∧m'.get bk=some ob∧(i,bk) ∈ al'∧m0.next ≤ bk)))) →
   DInv D P W0 n ops b ρ0 φ0 m0 w0 (i :: done) al' listed φ (put n ρ o.dst v) m' a w:=by
  intro v m' al' q1 q2 q3 q4 q5 q6 q7 q8 q9
  -- slots that were written ahead keep their values
  have keep:∀ (x:Nat) (ox:Oper) (t:Nat),x ∈ done→ops[x]?=some ox→ox.dst=some t→put n ρ o.dst v t=ρ t:=by
   intro x ox t hx hox ht
   refine Xc6 fun e=>hn ?_
   rw [hS.dst i x o ox t ho hox e ht]
   exact hx
  refine ⟨h.rel0,h.below0,q1,h.below,h.size,h.defers,q2,q3,h.lsz,fun j hj=>List.mem_cons_of_mem _ (h.ld j hj),h.ldown,?_,?_,h.env0,?_,?_,q7,q8⟩
  ·intro j x hj hx
   rcases List.mem_cons.1 hj with rfl | hj
   ·exact List.mem_cons_of_mem _ (hpre x hx)
   ·exact List.mem_cons_of_mem _ (h.ddown j x hj hx)
  ·intro x ox t hx hox ht
   rw [keep x ox t (h.ld x hx) hox ht]
   exact h.env1 x ox t hx hox ht
  ·intro t ht
   rw [Xc6 (ht i o List.mem_cons_self ho)]
   exact h.old t fun x ox hx hox=>ht x ox (List.mem_cons_of_mem _ hx) hox
  ·intro j hj hjl
   rcases List.mem_cons.1 hj with rfl | hj
   ·refine ⟨o,ρ,ho,?_,?_,v,?_,q9⟩
    ·intro t _ x ox hox ht hb
     exact (keep x ox t (hpre x hb) hox ht).symm
    ·intro t ht hno
     refine h.old t fun x ox hx hox hd=>?_
     have hne:x ≠ j:=fun e=>hn (e ▸ hx)
     rcases hS.look j o t x ox ho ht hox hd hne with q | q
     ·exact hno x ox hox q hd
     ·exact hn (h.ddown x j hx q)
    ·intro d hd
     rw [hd]
     exact Xlv (hS.dlt j o d ho hd)
   ·obtain ⟨oj,G,p1,p2,p3,u,p4,p5⟩:=h.pend j hj hjl
    refine ⟨oj,G,p1,?_,p3,u,?_,?_⟩
    ·intro t ht x ox hox hd hb
     rw [keep x ox t (h.ddown j x hj hb) hox hd]
     exact p2 t ht x ox hox hd hb
    ·intro d hd
     rw [keep j oj d hj p1 hd]
     exact p4 d hd
    ·rcases p5 with p5 | ⟨p5,p6 | p6 | p6⟩
     ·exact .inl p5
     ·exact .inr ⟨p5,.inl ⟨p6.1,(Xcu p6.1 p6.2).2 m'⟩⟩
     ·exact .inr ⟨p5,.inr (.inl ⟨p6.1,p6.2.1,Xtz q4 p6.1 p6.2.2⟩)⟩
     ·obtain ⟨ob,nv,bk,s1,s2,s3,s4,s5,s6⟩:=p6
      exact .inr ⟨p5,.inr (.inr ⟨ob,nv,bk,s1,s2,s3,q4 _ _ s4,q6 _ s5,s6⟩)⟩
 unfold brg at hr
 split at hr
 ·cases hr
 ·rename_i hg
  obtain ⟨v,m',e1,e2⟩:=Xh2 hr
  unfold kindOk at hk
  rw [ho] at hk
  simp only [Bool.or_eq_true] at hk
  by_cases hp:X85 P o.op=true
  ·obtain ⟨rfl,_⟩:=Xcu hp e1
   exact ⟨al,_,_,main v m' al h.rel h.low h.stp (fun _ _ q=>q) (Nat.le_refl _) (fun _ q=>q) h.alin h.allt (.inr ⟨hg,.inl ⟨hp,e1⟩⟩),e2⟩
  ·by_cases hrd:isRead P o.op=true
   ·have:=Xic hrd e1
    subst this
    exact ⟨al,_,_,main v m' al h.rel h.low h.stp (fun _ _ q=>q) (Nat.le_refl _) (fun _ q=>q) h.alin h.allt (.inr ⟨hg,.inr (.inl ⟨hrd,by simpa using hp,e1⟩)⟩),e2⟩
   ·have hal:Xh7 P o.op=true:=by
     rcases hk with (hk | hk) | hk
     ·exact absurd hk hp
     ·exact absurd hk hrd
     ·exact hk
    obtain ⟨ob,nv,s1,rfl,rfl⟩:=Xy8 hal e1
    obtain ⟨t1,t2,t3⟩:=Xps h.rel ob
    have hmn:=h.stp.next
    refine ⟨(i,m.next) :: al,_,_,main _ _ ((i,m.next) :: al) t1 (by have:=h.low; simp; omega) (t3 _ _ _ h.stp) (Xts h.rel ob) (by simp) (fun _ q=>List.mem_cons_of_mem _ q) ?_ ?_ (.inr ⟨hg,.inr (.inr ⟨ob,nv,m.next,s1,rfl,t2,by rw [Mem.get_push,if_pos rfl],List.mem_cons_self,hmn⟩)⟩),e2⟩
    ·intro p q hp hq e
     rcases List.mem_cons.1 hp with rfl | hp <;> rcases List.mem_cons.1 hq with rfl | hq
     ·rfl
     ·have:=h.allt q hq; simp only at e; omega
     ·have:=h.allt p hp; simp only at e; omega
     ·exact h.alin p q hp hq e
    ·intro p hp
     rcases List.mem_cons.1 hp with rfl | hp
     ·simp
     ·have:=h.allt p hp; simp; omega
 ·rename_i hg
  exact ⟨al,_,_,main undef m al h.rel h.low h.stp (fun _ _ q=>q) (Nat.le_refl _) (fun _ q=>q) h.alin h.allt (.inl ⟨hg,rfl⟩),hr⟩
theorem X4b {ρ0:Env} {φ0:Pmap} {m0:Mem} {w0:World} {listed:Array Bool} {φ:Pmap} {a:Act} {w:World} (hS:St n ops b) {k:Env→Mem→Option Rs} {r:Rs} :
  ∀ (is:List Nat) (done:List Nat) (al:List (Nat × Nat)) (ρ:Env) (m:Mem),DInv D P W0 n ops b ρ0 φ0 m0 w0 done al listed φ ρ m a w→X5r P ops b done is=true→Xq P n ops is ρ m k=some r →
   ∃ al' ρ' m',DInv D P W0 n ops b ρ0 φ0 m0 w0 (is.reverse ++ done) al' listed φ ρ' m' a w∧k ρ' m'=some r
 | [],done,al,ρ,m,h,_,hr=>⟨al,ρ,m,h,hr⟩
 | i :: is,done,al,ρ,m,h,hok,hr=>by
  simp only [X5r,Bool.and_eq_true] at hok
  obtain ⟨⟨⟨⟨k1,k2⟩,k3⟩,k4⟩,k5⟩:=hok
  have hi:i < ops.size:=by simp [Nat.blt,Nat.ble_eq] at k1; omega
  obtain ⟨al1,ρ1,m1,h1,hr1⟩:=Xo4 hS h (by simpa using k2) (X4l hS hi k3) k4 hr
  obtain ⟨al2,ρ2,m2,h2,hr2⟩:=X4b hS is (i :: done) al1 ρ1 m1 h1 k5 hr1
  exact ⟨al2,ρ2,m2,by simpa using h2,hr2⟩
end
end Go.Ab

namespace Go.Ab
noncomputable section
open Go.RowKit (Below)
variable {D:List Deferred}
variable {P:Program} {W0:World} {g:Tab} {n:Nat} {ops:Array Oper} {b:List Nat}
theorem Xif {ρ0:Env} {φ0:Pmap} {m0:Mem} {w0:World} {done:List Nat} {al:List (Nat × Nat)} {listed:Array Bool} {φ:Pmap} {ρ:Env} {m:Mem} {a:Act} {w:World} {Q:Exit→Act→World→Prop} (hS:St n ops b)
  (h:DInv D P W0 n ops b ρ0 φ0 m0 w0 done al listed φ ρ m a w) {i:Nat} (hi:i ∈ done) (hnl:¬ lst listed i) (hpre:∀ x,bit b i x=true→lst listed x) {K:Act→World→Prop}
  (hK:∀ φ' a' w',DInv D P W0 n ops b ρ0 φ0 m0 w0 done al (listed.setIfInBounds i true) φ' ρ m a' w'→K a' w'):wpOp P ops Q i K a w:=by
 obtain ⟨o,G,ho,p2,p3,v,p4,p5⟩:=h.pend i hi hnl
 have his:=lt_of_some ho
 have hls:i < listed.size:=by rw [h.lsz]; exact his
 have hlk:=Pend.looks hS h ho hnl hpre p2 p3
 have hop:=Xa4 hlk (hS.opd i o ho)
 -- behind it
 have fin:∀ (φ':Pmap) (cv:Value) (w':World),Rel W0.heap.size φ' m w'→Below W0.heap.size W0 w'→VRel φ' v cv→φ.le φ'→Stp φ0 m0 w0 φ' m w'→(∀ j bk,(j,bk) ∈ al→j ≠ i→φ bk=none→φ' bk=none)→K (a.put o.dst cv) w':=by
  intro φ' cv w' q1 qb q2 q3 q4 q5
  have tm:∀ t,o.dst ≠ some t→(a.put o.dst cv).tmps.getD t undef=a.tmps.getD t undef:=by
   intro t ht
   cases hd:o.dst with
   | none=>rfl
   | some d =>
    have hne:d ≠ t:=fun e=>ht (by rw [hd,e])
    simp only [Act.put,Array.getD_eq_getD_getElem?]
    rw [Array.getElem?_setIfInBounds_ne hne]
  have td:∀ d,o.dst=some d→(a.put o.dst cv).tmps.getD d undef=cv:=by
   intro d hd
   rw [hd]
   have:=hS.dlt i o d ho hd
   simp only [Act.put,Array.getD_eq_getD_getElem?]
   rw [Array.getElem?_setIfInBounds_self_of_lt (by rw [h.size]; exact this)]
   rfl
  refine hK φ' _ w' ⟨h.rel0,h.below0,q1,qb,by rw [Xcq]; exact h.size,by rw [Ab.put_defers]; exact h.defers,h.low,q4,by simp [h.lsz],?_,?_,h.ddown,?_,?_,h.old,?_,h.alin,h.allt⟩
  ·intro x hx
   rcases (X2b hls).1 hx with rfl | hx
   ·exact hi
   ·exact h.ld x hx
  ·intro x y hx hy
   refine (X2b hls).2 ?_
   rcases (X2b hls).1 hx with rfl | hx
   ·exact .inr (hpre y hy)
   ·exact .inr (h.ldown x y hx hy)
  ·intro x ox t hx hox ht
   rcases (X2b hls).1 hx with rfl | hx2
   ·rw [ho] at hox
    cases hox
    rw [td t ht,p4 t ht]
    exact q2
   ·have hne:o.dst ≠ some t:=fun e=>by
     have:=hS.dst x i ox o t hox ho ht e
     exact hnl (this ▸ hx2)
    rw [tm t hne]
    exact (h.env1 x ox t hx2 hox ht).mono q3
  ·intro t ht
   have hne:o.dst ≠ some t:=ht i o ((X2b hls).2 (.inl rfl)) ho
   rw [tm t hne]
   exact (h.env0 t fun x ox hx hox=>ht x ox ((X2b hls).2 (.inr hx)) hox).mono q3
  ·intro j hj hjl
   have hji:j ≠ i:=fun e=>hjl ((X2b hls).2 (.inl e))
   have hjl':¬ lst listed j:=fun e=>hjl ((X2b hls).2 (.inr e))
   obtain ⟨oj,Gj,s1,s2,s3,u,s4,s5⟩:=h.pend j hj hjl'
   refine ⟨oj,Gj,s1,s2,s3,u,s4,?_⟩
   rcases s5 with s5 | ⟨s5,s6 | s6 | s6⟩
   ·exact .inl s5
   ·exact .inr ⟨s5,.inl s6⟩
   ·exact .inr ⟨s5,.inr (.inl s6)⟩
   ·obtain ⟨ob,nv,bk,r1,r2,r3,r4,r5,r6⟩:=s6
    exact .inr ⟨s5,.inr (.inr ⟨ob,nv,bk,r1,r2,q5 j bk r5 hji r3,r4,r5,r6⟩)⟩
 unfold wpOp
 simp only [ho]
 rcases p5 with ⟨p5,rfl⟩ | ⟨p5,p6⟩
 ·rw [X7h hlk p5]
  simp only [Bool.false_eq_true,if_false]
  exact fin φ undef w h.rel h.below X2j (.refl φ) h.stp (fun _ _ _ _ e=>e)
 ·rw [X7h hlk p5]
  simp only [if_true]
  refine .inl ?_
  have simple:evOp P (opd G) m o=some (v,m)→o.wp P a w K Q:=fun he=>by
   obtain ⟨cv,w',φ',h1,h2,h3,h4⟩:=Xlc h.rel o hop he
   have hk:=fin φ' cv w' h2 (X7q h.rel h.below h4) h3 h4.le (h.stp.trans h4) (fun j bk hj _ e=>(h4.un bk (h.allt _ hj) e).1)
   unfold Oper.wp
   rcases h1 with h1 | ⟨rfl,h1⟩
   ·rw [h1]; exact hk
   ·rw [h1]; exact hk
  rcases p6 with p6 | p6 | p6
  ·exact simple p6.2
  ·exact simple p6.2.2
  ·obtain ⟨ob,nv,bk,r1,r2,r3,r4,r5,r6⟩:=p6
   obtain ⟨cv,w',pl,k1,k2,k3,k4,k5⟩:=Xnl h.rel o hop r1 r3 r4 (h.allt _ r5)
   have hst:=k5 φ0 m0 w0 h.stp r6
   have hbl:Below W0.heap.size W0 w':=X7q h.rel0 h.below0 hst
   have hk:=fin _ cv w' k2 hbl (by rw [r2]; exact k3) k4 hst (fun j bk' hj hji e=>by
    have hne:bk' ≠ bk:=fun e'=>by
     have:=h.alin _ _ hj r5 e'
     cases this
     exact hji rfl
    rw [Pmap.upd_other pl hne]
    exact e)
   unfold Oper.wp
   rcases k1 with k1 | ⟨rfl,k1⟩
   ·rw [k1]; exact hk
   ·rw [k1]; exact hk
theorem Xfi:∀ {cs:List Nat} {ρ:Env} {m:Mem},Xc2 P ops cs ρ m=true→∀ i ∈ cs,∀ o,ops[i]?=some o→gst ops ρ o ≠ none∧(gst ops ρ o=some true→∃ d u m1,o.dst=some d∧evOp P (opd ρ) m o=some (u,m1)∧u=ρ d)
 | [],_,_,_,i,hi,_,_=>by cases hi
 | c :: cs,ρ,m,h,i,hi,o,ho=>by
  simp only [Xc2] at h
  split at h
  ·cases h
  rename_i oc hoc
  unfold brc at h
  have rest:Xc2 P ops cs ρ m=true:=by
   split at h
   ·cases h
   ·simp only [Bool.and_eq_true] at h; exact h.2
   ·exact h
  rcases List.mem_cons.1 hi with rfl | hi
  ·rw [ho] at hoc
   cases hoc
   split at h
   ·cases h
   ·rename_i hg
    refine ⟨by rw [hg]; simp,fun _=>?_⟩
    simp only [Bool.and_eq_true] at h
    have h1:=h.1
    split at h1
    ·rename_i d hd
     unfold again at h1
     split at h1
     ·rename_i u m1 he
      exact ⟨d,u,m1,hd,he,Xtx _ _ _ h1⟩
     ·cases h1
    ·cases h1
   ·rename_i hg
    refine ⟨by rw [hg]; simp,fun e=>by rw [hg] at e; cases e⟩
  ·exact Xfi rest i hi o ho
theorem Xs3 {ρ ρ':Env} {o:Oper} (h:∀ t ∈ Oper.looksAt ops o,ρ t=ρ' t):gst ops ρ o=gst ops ρ' o:=by
 unfold gst
 cases hg:o.guard with
 | none=>rfl
 | some jw =>
  obtain ⟨j,want⟩:=jw
  simp only
  cases hd:(ops[j]?).bind (·.dst) with
  | none=>rfl
  | some d =>
   simp only
   rw [h d (by unfold Oper.looksAt; rw [hg]; simp only [hd]; exact List.mem_append_right _ (by simp))]
theorem Xrv {ρ ρ':Env} {o:Oper} (h:∀ t ∈ Oper.looksAt ops o,ρ t=ρ' t):∀ x ∈ o.op.operands.toList,opd ρ x=opd ρ' x:=by
 intro x hx
 cases x with
 | tmp t=>exact h t (by unfold Oper.looksAt; exact List.mem_append_left _ (List.mem_filterMap.2 ⟨.tmp t,hx,rfl⟩))
 | const v=>rfl
 | global g=>rfl
 | func f=>rfl
theorem Xhj (hT:X1d P W0 g) {ρ0:Env} {φ0:Pmap} {m0:Mem} {w0:World} {done:List Nat} {al:List (Nat × Nat)} {listed:Array Bool} {φ:Pmap} {ρ:Env} {m:Mem} {a:Act} {w:World} {Q:Exit→Act→World→Prop} (hS:St n ops b)
  (h:DInv D P W0 n ops b ρ0 φ0 m0 w0 done al listed φ ρ m a w) {e:Nat} {cs es:List Nat} {o:Oper} (ho:ops[e]?=some o) (hn:e ∉ done) (hpre:∀ x,bit b e x=true→lst listed x) (hpd:∀ x,bit b e x=true→x ∈ done)
  (hcs:∀ i ∈ done,X6p P ops i=true→bit b e i=false→i ∈ cs) (hca:∀ i ∈ cs,Xdv ops b i=true) {kk:Env→Mem→Option Rs} {r:Rs}
  (hr:brg (gst ops ρ o) (bp (X6j P g (opd ρ) m o) fun v m=>bif Xc2 P ops cs (put n ρ o.dst v) m then Xq P n ops es (put n ρ o.dst v) m kk else none)
   (Xq P n ops es (put n ρ o.dst undef) m kk)=some r) {K:Act→World→Prop}
  (hK:∀ φ' ρ' m' a' w',DInv D P W0 n ops b ρ0 φ0 m0 w0 (e :: done) al (listed.setIfInBounds e true) φ' ρ' m' a' w'→Xq P n ops es ρ' m' kk=some r→K a' w'):wpOp P ops Q e K a w:=by
 have hel:¬ lst listed e:=fun x=>hn (h.ld e x)
 have hls:e < listed.size:=by rw [h.lsz]; exact lt_of_some ho
 -- its operands
 have hρ:∀ t ∈ Oper.looksAt ops o,VRel φ (ρ t) (a.tmps.getD t undef):=by
  refine Pend.looks hS h ho hel hpre (fun _ _ _ _ _ _ _=>rfl) fun t ht hno=>h.old t fun x ox hx hox hd=>?_
  have hne:x ≠ e:=fun y=>hn (y ▸ hx)
  rcases hS.look e o t x ox ho ht hox hd hne with q | q
  ·exact hno x ox hox q hd
  ·exact hn (h.ddown x e hx q)
 have hop:=Xa4 hρ (hS.opd e o ho)
 -- behind it
 have fin:∀ (φ':Pmap) (v cv:Value) (m':Mem) (w':World),Rel W0.heap.size φ' m' w'→Below W0.heap.size W0 w'→VRel φ' v cv→Stp φ m w φ' m' w' →
   (∀ i ∈ done,¬ lst listed i→∀ oi G u,ops[i]?=some oi→isRead P oi.op=true→X85 P oi.op=false→(∀ t ∈ Oper.looksAt ops oi,∀ x ox,ops[x]?=some ox→ox.dst=some t→bit b i x=true→G t=ρ t) →
    (∀ t ∈ Oper.looksAt ops oi,(∀ x ox,ops[x]?=some ox→bit b i x=true→ox.dst ≠ some t)→G t=ρ0 t)→gst ops G oi=some true→(∀ d,oi.dst=some d→ρ d=u)→evOp P (opd G) m oi=some (u,m)→evOp P (opd G) m' oi=some (u,m')) →
   Xq P n ops es (put n ρ o.dst v) m' kk=some r→K (a.put o.dst cv) w':=by
  intro φ' v cv m' w' q1 qb q2 q3 q4 q5
  have keep:∀ (x:Nat) (ox:Oper) (t:Nat),x ∈ done→ops[x]?=some ox→ox.dst=some t→put n ρ o.dst v t=ρ t:=by
   intro x ox t hx hox ht
   refine Xc6 fun y=>hn ?_
   rw [hS.dst e x o ox t ho hox y ht]
   exact hx
  have tm:∀ t,o.dst ≠ some t→(a.put o.dst cv).tmps.getD t undef=a.tmps.getD t undef:=by
   intro t ht
   cases hd:o.dst with
   | none=>rfl
   | some d =>
    have hne:d ≠ t:=fun y=>ht (by rw [hd,y])
    simp only [Act.put,Array.getD_eq_getD_getElem?]
    rw [Array.getElem?_setIfInBounds_ne hne]
  refine hK φ' _ m' _ w' ⟨h.rel0,h.below0,q1,qb,by rw [Xcq]; exact h.size,by rw [Ab.put_defers]; exact h.defers,Nat.le_trans q3.low (Nat.le_trans h.low q3.next),h.stp.trans q3,by simp [h.lsz],?_,?_,?_,?_,?_,?_,?_,h.alin,fun p hp=>Nat.lt_of_lt_of_le (h.allt p hp) q3.next⟩ q5
  ·intro x hx
   rcases (X2b hls).1 hx with rfl | hx
   ·exact List.mem_cons_self
   ·exact List.mem_cons_of_mem _ (h.ld x hx)
  ·intro x y hx hy
   refine (X2b hls).2 ?_
   rcases (X2b hls).1 hx with rfl | hx
   ·exact .inr (hpre y hy)
   ·exact .inr (h.ldown x y hx hy)
  ·intro x y hx hy
   rcases List.mem_cons.1 hx with rfl | hx
   ·exact List.mem_cons_of_mem _ (hpd y hy)
   ·exact List.mem_cons_of_mem _ (h.ddown x y hx hy)
  ·intro x ox t hx hox ht
   rcases (X2b hls).1 hx with rfl | hx2
   ·rw [ho] at hox
    cases hox
    have hlt:=hS.dlt x o t ho ht
    rw [ht,Xlv hlt]
    simp only [Act.put,Array.getD_eq_getD_getElem?]
    rw [Array.getElem?_setIfInBounds_self_of_lt (by rw [h.size]; exact hlt)]
    exact q2
   ·have hne:o.dst ≠ some t:=fun y=>by
     have:=hS.dst x e ox o t hox ho ht y
     exact hel (this ▸ hx2)
    rw [tm t hne,Xc6 hne]
    exact (h.env1 x ox t hx2 hox ht).mono q3.le
  ·intro t ht
   have hne:o.dst ≠ some t:=ht e o ((X2b hls).2 (.inl rfl)) ho
   rw [tm t hne]
   exact (h.env0 t fun x ox hx hox=>ht x ox ((X2b hls).2 (.inr hx)) hox).mono q3.le
  ·intro t ht
   rw [Xc6 (ht e o List.mem_cons_self ho)]
   exact h.old t fun x ox hx hox=>ht x ox (List.mem_cons_of_mem _ hx) hox
  ·intro j hj hjl
   have hje:j ≠ e:=fun y=>hjl ((X2b hls).2 (.inl y))
   have hjl':¬ lst listed j:=fun y=>hjl ((X2b hls).2 (.inr y))
   have hjd:j ∈ done:=by
    rcases List.mem_cons.1 hj with y | y
    ·exact absurd y hje
    ·exact y
   obtain ⟨oj,Gj,s1,s2,s3,u,s4,s5⟩:=h.pend j hjd hjl'
   refine ⟨oj,Gj,s1,?_,s3,u,?_,?_⟩
   ·intro t ht x ox hox hd hb
    rw [keep x ox t (h.ddown j x hjd hb) hox hd]
    exact s2 t ht x ox hox hd hb
   ·intro d hd
    rw [keep j oj d hjd s1 hd]
    exact s4 d hd
   ·rcases s5 with s5 | ⟨s5,s6 | s6 | s6⟩
    ·exact .inl s5
    ·exact .inr ⟨s5,.inl ⟨s6.1,(Xcu s6.1 s6.2).2 m'⟩⟩
    ·exact .inr ⟨s5,.inr (.inl ⟨s6.1,s6.2.1,q4 j hjd hjl' oj Gj u s1 s6.1 s6.2.1 s2 s3 s5 s4 s6.2.2⟩)⟩
    ·obtain ⟨ob,nv,bk,r1,r2,r3,r4,r5,r6⟩:=s6
     obtain ⟨y1,y2⟩:=q3.un bk (h.allt _ r5) r3
     exact .inr ⟨s5,.inr (.inr ⟨ob,nv,bk,r1,r2,y1,by rw [y2]; exact r4,r5,r6⟩)⟩
 unfold wpOp
 simp only [ho]
 unfold brg at hr
 split at hr
 ·cases hr
 ·rename_i hg
  rw [X7h hρ hg]
  simp only [if_true]
  obtain ⟨v,m',e1,e2⟩:=Xh2 hr
  refine .inl (Xh0 hT h.rel h.below o hop e1 fun cv w' hafter=>?_)
  obtain ⟨φ',t1,t2,t3⟩:=hafter
  cases hc:Xc2 P ops cs (put n ρ o.dst v) m'
  ·rw [hc] at e2; cases e2
  ·rw [hc] at e2
   simp only [cond_true] at e2
   refine fin φ' v cv m' w' t1 (X7q h.rel h.below t3) t2 t3 ?_ e2
   intro i hid hil oi G u hoi hrd hnp l1 l0 hgi hu hev
   have hbe:bit b e i=false:=by
    cases hb:bit b e i
    ·rfl
    ·exact absurd (hpre i hb) hil
   have hin:=hcs i hid (by simp [X6p,hoi,hrd,hnp]) hbe
   -- what it looks at reads now as it read then
   have hsame:∀ t ∈ Oper.looksAt ops oi,put n ρ o.dst v t=G t:=by
    intro t ht
    have hab:=hca i hin
    simp only [Xdv,hoi,List.all_eq_true,List.mem_range] at hab
    by_cases hx:∃ (x:Nat) (ox:Oper),ops[x]?=some ox∧ox.dst=some t
    ·obtain ⟨x,ox,hox,hd⟩:=hx
     have h1:=hab t ht x (lt_of_some hox)
     simp only [hox,hd,bne_self_eq_false,Bool.false_or] at h1
     rw [l1 t ht x ox hox hd h1]
     have hxd:=h.ddown i x hid h1
     refine Xc6 fun y=>hn ?_
     rw [hS.dst e x o ox t ho hox y hd]
     exact hxd
    ·have hno:∀ (x:Nat) (ox:Oper),ops[x]?=some ox→ox.dst ≠ some t:=fun x ox q1 q2=>hx ⟨x,ox,q1,q2⟩
     rw [l0 t ht (fun x ox q1 _=>hno x ox q1),Xc6 (hno e o ho)]
     exact h.old t fun x ox _ q=>hno x ox q
   obtain ⟨_,k2⟩:=Xfi hc i hin oi hoi
   rw [Xs3 hsame] at k2
   obtain ⟨d,u',m1,r1,r2,r3⟩:=k2 hgi
   rw [Xnm (Xrv hsame)] at r2
   have:=Xic hrd r2
   subst this
   have hud:put n ρ o.dst v d=ρ d:=by
    refine Xc6 fun y=>hn ?_
    rw [hS.dst e i o oi d ho hoi y r1]
    exact hid
   rw [hud,hu d r1] at r3
   rw [r3] at r2
   exact r2
 ·rename_i hg
  rw [X7h hρ hg]
  simp only [Bool.false_eq_true,if_false]
  exact fin φ undef undef m w h.rel h.below X2j (.refl _ _ _) (fun _ _ _ _ _ _ _ _ _ _ _ _ _ e=>e) hr
end
end Go.Ab

namespace Go.Ab
noncomputable section
open Go.RowKit (Below)
variable {D:List Deferred}
section
variable {P:Program} {W0:World} {g:Tab} {n:Nat} {ops:Array Oper} {b:List Nat}
def cnt (N:Nat) (listed:Array Bool):Nat:=(List.range N).countP fun i=>!listed.getD i false
theorem Xim {p q:Nat→Bool}:∀ {l:List Nat},(∀ x ∈ l,q x=true→p x=true)→(∃ x ∈ l,p x=true∧q x=false)→l.countP q < l.countP p
 | [],_,h=>by obtain ⟨x,hx,_⟩:=h; cases hx
 | a :: l,h1,h2=>by
  have hle:l.countP q ≤ l.countP p:=List.countP_mono_left fun x hx=>h1 x (List.mem_cons_of_mem _ hx)
  rw [List.countP_cons,List.countP_cons]
  by_cases ha:p a=true∧q a=false
  ·rw [ha.1,ha.2]; simp; omega
  ·obtain ⟨x,hx,hp,hq⟩:=h2
   rcases List.mem_cons.1 hx with rfl | hx
   ·exact absurd ⟨hp,hq⟩ ha
   ·have ih:=Xim (fun y hy=>h1 y (List.mem_cons_of_mem _ hy)) ⟨x,hx,hp,hq⟩
    have:(if q a=true then 1 else 0) ≤ (if p a=true then 1 else 0):=by
     by_cases hqa:q a=true
     ·rw [if_pos hqa,if_pos (h1 a List.mem_cons_self hqa)]; omega
     ·rw [if_neg hqa]; omega
    omega
theorem Xrl {N:Nat} {listed:Array Bool} (hs:listed.size=N) {i:Nat} (hi:i < N) (hn:¬ lst listed i):cnt N (listed.setIfInBounds i true) < cnt N listed:=by
 unfold cnt
 refine Xim (fun x _ hx=>?_) ⟨i,List.mem_range.2 hi,?_,?_⟩
 ·simp only [Bool.not_eq_true'] at hx ⊢
  cases hl:listed.getD x false
  ·rfl
  ·have:lst (listed.setIfInBounds i true) x:=(X2b (by omega)).2 (.inr hl)
   unfold lst at this
   rw [hx] at this
   cases this
 ·unfold lst at hn
  simpa using hn
 ·have:lst (listed.setIfInBounds i true) i:=(X2b (by omega)).2 (.inl rfl)
  unfold lst at this
  simp only [Bool.not_eq_false']
  exact this
theorem Xgw:∀ {ph:List (Nat × List Nat × List Nat)} {done:List Nat},okPh P ops b done ph=true→∀ i,i < ops.size→i ∈ done∨i ∈ X5g ph
 | [],done,h,i,hi=>by
  simp only [okPh,List.all_eq_true] at h
  exact .inl (by simpa using h i (List.mem_range.2 hi))
 | (e,cs,es) :: r,done,h,i,hi=>by
  simp only [okPh,Bool.and_eq_true] at h
  rcases Xgw h.2 i hi with q | q
  ·rcases List.mem_append.1 q with q | q
   ·exact .inr (by simp only [X5g]; exact List.mem_cons_of_mem _ (List.mem_append_left _ (List.mem_reverse.1 q)))
   ·rcases List.mem_cons.1 q with rfl | q
    ·exact .inr (by simp [X5g])
    ·exact .inl q
  ·exact .inr (by simp only [X5g]; exact List.mem_cons_of_mem _ (List.mem_append_right _ q))
theorem Xyb (hS:St n ops b):∀ (k i x:Nat),i ≤ k→bit b i x=true→x < i:=by
 intro k
 induction k with
 | zero =>
  intro i x hi hx
  obtain ⟨o,_,e,_,_,h3,_⟩:=hS.clo i x hx
  omega
 | succ k ih =>
  intro i x hi hx
  obtain ⟨o,_,e,_,_,h3,h4⟩:=hS.clo i x hx
  rcases h4 with h4 | h4
  ·omega
  ·have:=ih e.on x (by omega) h4
   omega
theorem Xcg {listed:Array Bool} (hS:St n ops b) (hs:listed.size=ops.size) (h:Region.ready .any ops listed=[]):∀ i,i < ops.size→lst listed i:=by
 intro i
 induction i using Nat.strongRecOn with
 | ind i ih =>
  intro hi
  cases hl:listed.getD i false
  ·exfalso
   have hmem:i ∈ Region.ready .any ops listed:=by
    rw [mem_ready]
    refine ⟨?_,ops[i],by simp [hi],fun e he hb=>?_⟩
    ·have h2:i < listed.size:=by omega
     simp only [Array.getD_eq_getD_getElem?,Array.getElem?_eq_getElem h2,Option.getD_some] at hl ⊢
     exact hl
    ·have hbit:=hS.edg i ops[i] (by simp [hi]) e he hb
     have hlt:=Xyb hS i i e.on (Nat.le_refl _) hbit
     exact ih e.on hlt (by omega)
   rw [h] at hmem
   cases hmem
  ·exact hl
theorem any_ok (hT:X1d P W0 g) (hS:St n ops b) {ρ0:Env} {φ0:Pmap} {m0:Mem} {w0:World} {Q:Exit→Act→World→Prop} {k:Env→Mem→Option Rs} {r:Rs}
  (hQ:∀ φ ρ m a w,Cfg D W0 n φ ρ m a w→Stp φ0 m0 w0 φ m w→k ρ m=some r→Q .normal a w) :
  ∀ (fuel:Nat) (listed:Array Bool) (done:List Nat) (al:List (Nat × Nat)) (φ:Pmap) (ρ:Env) (m:Mem) (a:Act) (w:World) (ph:List (Nat × List Nat × List Nat)),
   DInv D P W0 n ops b ρ0 φ0 m0 w0 done al listed φ ρ m a w→okPh P ops b done ph=true→X3p P g n ops ph ρ m k=some r→cnt ops.size listed ≤ fuel→wpAny P .any ops Q fuel listed a w:=by
 -- the end
 have fin:∀ (listed:Array Bool) (done:List Nat) (al:List (Nat × Nat)) (φ:Pmap) (ρ:Env) (m:Mem) (a:Act) (w:World) (ph:List (Nat × List Nat × List Nat)),
   DInv D P W0 n ops b ρ0 φ0 m0 w0 done al listed φ ρ m a w→okPh P ops b done ph=true→X3p P g n ops ph ρ m k=some r→(∀ i,i < ops.size→lst listed i)→Q .normal a w:=by
  intro listed done al φ ρ m a w ph h hok hr hall
  cases ph with
  | cons p ph =>
   obtain ⟨e,cs,es⟩:=p
   simp only [okPh,Bool.and_eq_true] at hok
   obtain ⟨⟨⟨⟨⟨⟨⟨k1,k2⟩,_⟩,_⟩,_⟩,_⟩,_⟩,_⟩:=hok
   have he:e < ops.size:=by simp [Nat.blt,Nat.ble_eq] at k1; omega
   have:=h.ld e (hall e he)
   simp at k2
   exact absurd this k2
  | nil =>
   simp only [X3p] at hr
   refine hQ φ ρ m a w ⟨h.rel,h.below,fun t=>?_,h.size,h.defers,h.low⟩ h.stp hr
   by_cases hx:∃ (x:Nat) (o:Oper),ops[x]?=some o∧o.dst=some t
   ·obtain ⟨x,o,ho,hd⟩:=hx
    exact h.env1 x o t (hall x (lt_of_some ho)) ho hd
   ·have hno:∀ (x:Nat) (o:Oper),ops[x]?=some o→o.dst ≠ some t:=fun x o q1 q2=>hx ⟨x,o,q1,q2⟩
    rw [h.old t fun x o _ q=>hno x o q]
    exact h.env0 t fun x o _ q=>hno x o q
 intro fuel
 induction fuel with
 | zero =>
  intro listed done al φ ρ m a w ph h hok hr hc
  have hall:∀ i,i < ops.size→lst listed i:=fun i hi=>by
   unfold cnt at hc
   have h0:=Nat.le_zero.1 hc
   rw [List.countP_eq_zero] at h0
   have:=h0 i (List.mem_range.2 hi)
   simpa [lst] using this
  refine ⟨?_,fin listed done al φ ρ m a w ph h hok hr hall⟩
  cases hrd:Region.ready .any ops listed with
  | nil=>rfl
  | cons i l =>
   exfalso
   have hi:i ∈ Region.ready .any ops listed:=by rw [hrd]; exact List.mem_cons_self
   obtain ⟨q1,o,q2,_⟩:=mem_ready.1 hi
   have:=hall i (lt_of_some q2)
   unfold lst at this
   have h2:i < listed.size:=by rw [h.lsz]; exact lt_of_some q2
   simp only [Array.getD_eq_getD_getElem?,Array.getElem?_eq_getElem h2,Option.getD_some] at q1 this
   rw [q1] at this
   cases this
 | succ fuel ih =>
  intro listed done al φ ρ m a w ph h hok hr hc
  refine ⟨fun hrd=>fin listed done al φ ρ m a w ph h hok hr (Xcg hS h.lsz hrd),fun i hi=>?_⟩
  obtain ⟨q1,o,ho,q3⟩:=mem_ready.1 hi
  have his:=lt_of_some ho
  have hnl:¬ lst listed i:=fun hl=>by
   unfold lst at hl
   have h2:i < listed.size:=by rw [h.lsz]; exact his
   simp only [Array.getD_eq_getD_getElem?,Array.getElem?_eq_getElem h2,Option.getD_some] at q1 hl
   rw [q1] at hl
   cases hl
  have hpre:∀ x,bit b i x=true→lst listed x:=fun x hx=>by
   obtain ⟨o',ho',e,he,hb,_,h4⟩:=hS.clo i x hx
   rw [ho] at ho'
   cases ho'
   have hle:lst listed e.on:=q3 e he hb
   rcases h4 with rfl | h4
   ·exact hle
   ·exact h.ldown e.on x hle h4
  have hcnt:=Xrl h.lsz his hnl
  by_cases hid:i ∈ done
  ·exact Xif hS h hid hnl hpre fun φ' a' w' h'=>ih _ done al φ' ρ m a' w' ph h' hok hr (by omega)
  ·rcases Xgw hok i his with q | q
   ·exact absurd q hid
   cases ph with
   | nil=>simp [X5g] at q
   | cons p ph =>
    obtain ⟨e,cs,es⟩:=p
    have hok':=hok
    simp only [okPh,Bool.and_eq_true] at hok'
    obtain ⟨⟨⟨⟨⟨⟨⟨k1,k2⟩,k3⟩,k4⟩,k5⟩,k6⟩,k7⟩,k8⟩:=hok'
    have he:e < ops.size:=by simp [Nat.blt,Nat.ble_eq] at k1; omega
    have hne:e ∉ done:=by simpa using k2
    have hie:i=e:=by
     simp only [X5g] at q
     rcases List.mem_cons.1 q with q | q
     ·exact q
     ·exfalso
      rw [List.all_eq_true] at k4
      exact hne (h.ld e (hpre e (k4 i q)))
    subst hie
    have hoe:=ho
    rw [X7k ho] at hr
    refine Xhj hT hS h ho hid hpre (X4l hS he k3) (fun j hj hn hb=>?_) (fun j hj=>List.all_eq_true.1 k6 j hj) hr ?_
    ·rw [List.all_eq_true] at k5
     have:=k5 j hj
     rw [hn,hb] at this
     simpa using this
    ·intro φ' ρ' m' a' w' h' hr'
     obtain ⟨al2,ρ2,m2,h2,hr2⟩:=X4b hS es (i :: done) al ρ' m' h' k7 hr'
     exact ih _ _ al2 φ' ρ2 m2 a' w' ph h2 k8 hr2 (by omega)
theorem Xos (N:Nat):cnt N (Array.replicate N false) ≤ N:=by
 unfold cnt
 have:=List.countP_le_length (p:=fun i=>!(Array.replicate N false).getD i false) (l:=List.range N)
 simpa using this
theorem Xfj (hS:St n ops b) {φ:Pmap} {ρ:Env} {m:Mem} {a:Act} {w:World} (hc:Cfg D W0 n φ ρ m a w):DInv D P W0 n ops b ρ φ m w [] [] (Array.replicate ops.size false) φ ρ m a { w with drawn:=w.drawn + 1 }:=by
 have nolst:∀ i,¬ lst (Array.replicate ops.size false) i:=fun i hi=>by
  unfold lst at hi
  simp only [Array.getD_eq_getD_getElem?,Array.getElem?_replicate] at hi
  split at hi <;> simp at hi
 refine ⟨hc.rel,hc.below,hc.rel.of_heap rfl,⟨hc.below.os,hc.below.tape,hc.below.output,hc.below.size,hc.below.block⟩,hc.size,hc.defers,hc.low,(Stp.refl φ m w).of_heap rfl rfl rfl rfl rfl rfl rfl rfl,by simp,fun i hi=>absurd hi (nolst i),fun i x hi=>absurd hi (nolst i),(fun i x hi=>nomatch hi),fun x o t hx=>absurd hx (nolst x),fun t _=>hc.env t,fun t _=>rfl,(fun i hi=>nomatch hi),(fun p q hp=>nomatch hp),(fun p hp=>nomatch hp)⟩
theorem Xso (hm:P.follows .mixedOrders=true) (hT:X1d P W0 g) (hS:St n ops b) {s:Sch} (hs:Xt3 P ops b s=true) {id:Nat} {φ:Pmap} {ρ:Env} {m:Mem} {a:Act} {w:World} {k:Env→Mem→Option Rs} {r:Rs} {Q:Exit→Act→World→Prop}
  (hc:Cfg D W0 n φ ρ m a w) (hr:Xw4 P g n ops s ρ m k=some r) (hQ:∀ φ' ρ' m' a' w',Cfg D W0 n φ' ρ' m' a' w'→Stp φ m w φ' m' w'→k ρ' m'=some r→Q .normal a' w'):(Code.region id ops true).wp P Q a w:=by
 refine wp_region_any hm ?_
 unfold Xt3 at hs
 simp only [Bool.and_eq_true] at hs
 have h0:=Xfj (P:=P) (ops:=ops) (b:=b) hS hc
 unfold Xw4 at hr
 obtain ⟨al,ρ1,m1,h1,hr1⟩:=X4b hS s.e0 [] [] ρ m h0 hs.1 hr
 exact any_ok hT hS hQ ops.size _ _ al φ ρ1 m1 a _ s.ph h1 (by simpa using hs.2) hr1 (Xos _)
end
end
end Go.Ab

namespace Go.Ab
noncomputable section
open Go.RowKit (Below)
variable {D:List Deferred}
theorem Tr.put_comm {α:Type}:∀ (f g:Nat) (t:Tr α) (p q:Nat) (x y:α),p ≤ f→q ≤ g→1 ≤ p→1 ≤ q→p ≠ q→Tr.put f (Tr.put g t q y) p x=Tr.put g (Tr.put f t p x) q y
 | 0,_,_,_,_,_,_,h,_,h1,_,_=>by omega
 | f + 1,0,_,_,_,_,_,_,h,_,h1,_=>by omega
 | f + 1,g + 1,t,p,q,x,y,hp,hq,h1,h2,hne=>by
  have ih:=fun t h3 h4 h5 h6 h7=>Tr.put_comm f g t (p / 2) (q / 2) x y h3 h4 h5 h6 h7
  cases t with
  | nil =>
   simp only [Tr.put_nil,Tr.put_node,X4m]
   by_cases p1:p=1 <;> by_cases q1:q=1 <;> by_cases pm:p % 2=0 <;> by_cases qm:q % 2=0 <;> simp only [p1,q1,pm,qm,if_true,if_false,Tr.put_nil,Tr.put_node,X4m] <;>
    first
     | omega
     | rfl
     | (rw [ih _ (by omega) (by omega) (by omega) (by omega) (by omega)])
  | node v l r =>
   simp only [Tr.put_nil,Tr.put_node,X4m]
   by_cases p1:p=1 <;> by_cases q1:q=1 <;> by_cases pm:p % 2=0 <;> by_cases qm:q % 2=0 <;> simp only [p1,q1,pm,qm,if_true,if_false,Tr.put_nil,Tr.put_node,X4m] <;>
    first
     | omega
     | rfl
     | (rw [ih _ (by omega) (by omega) (by omega) (by omega) (by omega)])
theorem Mem.put_comm (m:Mem) {b c:Nat} (h:b ≠ c) (o u:Raw):(m.putR b o).putR c u=(m.putR c u).putR b o:=by
 simp only [Mem.putR_def]
 simp only [Mem.mk.injEq,true_and]
 exact ⟨by omega,Tr.put_comm _ _ _ _ _ _ _ (Nat.le_refl _) (Nat.le_refl _) (by omega) (by omega) (by omega)⟩
theorem Xfs {size:Nat} {a:Addr} {v:Value} {m m':Mem} (h:X8 size (.pointer (some a)) v m=some m'):∃ o,m'=m.putR a.block o∧∀ m2:Mem,m2.tr.get (a.block + 1)=m.tr.get (a.block + 1)→X8 size (.pointer (some a)) v m2=some (m2.putR a.block o):=by
 rw [X6l] at h; unfold X8y at h
 simp only at h
 split at h
 ·rename_i hs
  obtain ⟨r,r',h1,h2,h3⟩:=Xc5 h
  refine ⟨r',h3,fun m2 e=>?_⟩
  rw [X6l]; unfold X8y
  simp only
  rw [if_pos hs]
  show (Option.rec none (fun r=>Option.rec none (fun r'=>some (m2.putR a.block r')) (X6z r a.off a.spot v.cells.toList)) (m2.tr.get (a.block + 1)):Option Mem)=_
  rw [e,h1]
  show (Option.rec none (fun r'=>some (m2.putR a.block r')) (X6z r a.off a.spot v.cells.toList):Option Mem)=_
  rw [h2]
 ·cases h
theorem Mem.tr_putR (m:Mem) {b c:Nat} (h:b ≠ c) (o:Raw):(m.putR b o).tr.get (c + 1)=m.tr.get (c + 1):=by
 rw [Mem.putR_def]
 show Tr.get (Tr.put (b + 1) m.tr (b + 1) o) (c + 1)=_
 rw [Tr.get_put _ _ _ _ _ (by omega) (by omega) (Nat.le_refl _),if_neg (by omega)]
theorem Xnc {s1 s2:Nat} {a1 a2:Addr} {v1 v2:Value} {m m1 m2:Mem} (hne:a1.block ≠ a2.block) (h1:X8 s1 (.pointer (some a1)) v1 m=some m1) (h2:X8 s2 (.pointer (some a2)) v2 m1=some m2) :
  ∃ n1,X8 s2 (.pointer (some a2)) v2 m=some n1∧X8 s1 (.pointer (some a1)) v1 n1=some m2:=by
 obtain ⟨o1,rfl,k1⟩:=Xfs h1
 obtain ⟨o2,rfl,k2⟩:=Xfs h2
 refine ⟨m.putR a2.block o2,k2 m (Mem.tr_putR m hne o1).symm,?_⟩
 rw [k1 (m.putR a2.block o2) (Mem.tr_putR m (Ne.symm hne) o2),Mem.put_comm m hne]
def X51 (o:Oper):Option (TypeId × Operand × Operand):=match o with
 | { dst:=none,op:=.store t a v,guard:=none,.. }=>some (t,a,v)
 | _=>none
theorem Xcw {o:Oper} {t:TypeId} {a v:Operand} (h:X51 o=some (t,a,v)):o.dst=none∧o.op=.store t a v∧o.guard=none:=by
 unfold X51 at h
 split at h
 ·cases h; exact ⟨rfl,rfl,rfl⟩
 ·cases h
def dfB {α:Type} (x y:Value) (r:Option α):Option α:=match x,y with
 | .pointer (some a),.pointer (some b)=>(match Nat.beq a.block b.block with | true=>noB | false=>r)
 | _,_=>noB
section
variable {P:Program} {W0:World} {g:Tab} {n:Nat} {ops:Array Oper} {b:List Nat}
def Xm1 (ops:Array Oper) (e1 e2:Nat):Option (Operand × Operand):=match ops[e1]?,ops[e2]? with
 | some o1,some o2=>(match X51 o1,X51 o2 with
  | some (_,a1,_),some (_,a2,_)=>some (a1,a2)
  | _,_=>none)
 | _,_=>none
def Xgo (P:Program) (g:Tab) (n:Nat) (ops:Array Oper) (e1 e2:Nat) (ρ:Env) (m:Mem) (k:Env→Mem→Option Rs):Option Rs:=match Xm1 ops e1 e2 with
 | some (a1,a2)=>dfB (opd ρ a1) (opd ρ a2) (X3p P g n ops [(e1,[],[]),(e2,[],[])] ρ m k)
 | none=>none
theorem X5w {e:Nat} {o:Oper} {t:TypeId} {x v:Operand} (ho:ops[e]?=some o) (hs:X51 o=some (t,x,v)) (r:List (Nat × List Nat × List Nat)) (ρ:Env) (m:Mem) (k:Env→Mem→Option Rs) :
  X3p P g n ops ((e,[],[]) :: r) ρ m k=(match P.info? t with | some i=>(match X8 i.size (opd ρ x) (opd ρ v) m with | some m1=>X3p P g n ops r ρ m1 k | none=>none) | none=>none):=by
 obtain ⟨h1,h2,h3⟩:=Xcw hs
 obtain ⟨dst,op,ty,pos,after,guard⟩:=o
 simp only at h1 h2 h3
 subst h1; subst h2; subst h3
 rw [X7k ho]
 simp only [gst,brg,X6j,evOp]
 cases P.info? t with
 | none=>rfl
 | some i =>
  simp only
  cases hm:X8 i.size (opd ρ x) (opd ρ v) m with
  | none=>rfl
  | some m1=>rfl
theorem Xji {e1 e2:Nat} {ρ:Env} {m:Mem} {k:Env→Mem→Option Rs} {r:Rs} (h:Xgo P g n ops e1 e2 ρ m k=some r) :
  X3p P g n ops [(e1,[],[]),(e2,[],[])] ρ m k=some r∧X3p P g n ops [(e2,[],[]),(e1,[],[])] ρ m k=some r:=by
 unfold Xgo at h
 split at h
 ·rename_i a1 a2 hst
  unfold dfB at h
  split at h
  ·rename_i p q hp hq
   split at h
   ·cases h
   ·rename_i hb
    have hne:=Nat.ne_of_beq_eq_false hb
    refine ⟨h,?_⟩
    unfold Xm1 at hst
    split at hst
    ·rename_i o1 o2 ho1 ho2
     split at hst
     ·rename_i t1 x1 v1 t2 x2 v2 hs1 hs2
      cases hst
      rw [X5w ho1 hs1] at h
      rw [X5w ho2 hs2]
      split at h
      ·rename_i i1 hi1
       split at h
       ·rename_i m1 hm1
        rw [X5w ho2 hs2] at h
        split at h
        ·rename_i i2 hi2
         split at h
         ·rename_i m2 hm2
          rw [hp] at hm1
          rw [hq] at hm2
          obtain ⟨n1,q1,q2⟩:=Xnc hne hm1 hm2
          rw [hq,q1]
          simp only
          rw [X5w ho1 hs1,hi1]
          simp only
          rw [hp,q2]
          exact h
         ·cases h
        ·cases h
       ·cases h
      ·cases h
     ·cases hst
    ·cases hst
  ·cases h
 ·cases h
def Xj9 (P:Program) (ops:Array Oper) (b:List Nat) (done:List Nat) (e:Nat):Bool:=
 Nat.blt e ops.size && !done.contains e && X7b ops b done e && (done.all fun i=>!X6p P ops i || bit b e i)
def Xmi (P:Program) (ops:Array Oper) (b:List Nat) (done:List Nat) (e1 e2:Nat):Bool:=
 Xj9 P ops b done e1 && Xj9 P ops b done e2 && okPh P ops b (e1 :: done) [(e2,[],[])] && okPh P ops b (e2 :: done) [(e1,[],[])]
def Xdh (P:Program) (ops:Array Oper) (b:List Nat) (e1 e2:Nat):List Nat→List (Nat × List Nat × List Nat)→Bool
 | done,[]=>Xmi P ops b done e1 e2
 | done,(e,cs,es) :: r=>Nat.blt e ops.size && !done.contains e && X7b ops b done e && ((es ++ (X5g r ++ [e1,e2])).all fun i=>bit b i e) &&
   (done.all fun i=>!X6p P ops i || bit b e i || cs.contains i) && (cs.all fun i=>Xdv ops b i) && X5r P ops b (e :: done) es && Xdh P ops b e1 e2 (es.reverse ++ e :: done) r
theorem Xij {e1 e2:Nat}:∀ {ph:List (Nat × List Nat × List Nat)} {done:List Nat},Xdh P ops b e1 e2 done ph=true→∀ i,i < ops.size→i ∈ done∨i ∈ X5g ph ++ [e1,e2]
 | [],done,h,i,hi=>by
  simp only [Xdh,Xmi,Bool.and_eq_true] at h
  rcases Xgw h.1.2 i hi with q | q
  ·rcases List.mem_cons.1 q with rfl | q
   ·exact .inr (by simp [X5g])
   ·exact .inl q
  ·simp only [X5g,List.append_nil,List.nil_append] at q
   rcases List.mem_cons.1 q with rfl | q
   ·exact .inr (by simp [X5g])
   ·cases q
 | (e,cs,es) :: r,done,h,i,hi=>by
  simp only [Xdh,Bool.and_eq_true] at h
  rcases Xij h.2 i hi with q | q
  ·rcases List.mem_append.1 q with q | q
   ·exact .inr (by simp only [X5g]; exact List.mem_append_left _ (List.mem_cons_of_mem _ (List.mem_append_left _ (List.mem_reverse.1 q))))
   ·rcases List.mem_cons.1 q with rfl | q
    ·exact .inr (by simp [X5g])
    ·exact .inl q
  ·refine .inr ?_
   rcases List.mem_append.1 q with q | q
   ·exact List.mem_append_left _ (by simp only [X5g]; exact List.mem_cons_of_mem _ (List.mem_append_right _ q))
   ·exact List.mem_append_right _ q
theorem Xvk (hT:X1d P W0 g) (hS:St n ops b) {ρ0:Env} {φ0:Pmap} {m0:Mem} {w0:World} {Q:Exit→Act→World→Prop} {k:Env→Mem→Option Rs} {r:Rs} {e1 e2:Nat}
  (hQ:∀ φ ρ m a w,Cfg D W0 n φ ρ m a w→Stp φ0 m0 w0 φ m w→k ρ m=some r→Q .normal a w) :
  ∀ (fuel:Nat) (listed:Array Bool) (done:List Nat) (al:List (Nat × Nat)) (φ:Pmap) (ρ:Env) (m:Mem) (a:Act) (w:World) (ph:List (Nat × List Nat × List Nat)),
   DInv D P W0 n ops b ρ0 φ0 m0 w0 done al listed φ ρ m a w→Xdh P ops b e1 e2 done ph=true→X3p P g n ops ph ρ m (fun ρ m=>Xgo P g n ops e1 e2 ρ m k)=some r→cnt ops.size listed ≤ fuel→wpAny P .any ops Q fuel listed a w:=by
 have notall:∀ (listed:Array Bool) (done:List Nat) (al:List (Nat × Nat)) (φ:Pmap) (ρ:Env) (m:Mem) (a:Act) (w:World) (ph:List (Nat × List Nat × List Nat)),
   DInv D P W0 n ops b ρ0 φ0 m0 w0 done al listed φ ρ m a w→Xdh P ops b e1 e2 done ph=true→(∀ i,i < ops.size→lst listed i)→False:=by
  intro listed done al φ ρ m a w ph h hok hall
  cases ph with
  | cons p ph =>
   obtain ⟨e,cs,es⟩:=p
   simp only [Xdh,Bool.and_eq_true] at hok
   obtain ⟨⟨⟨⟨⟨⟨⟨k1,k2⟩,_⟩,_⟩,_⟩,_⟩,_⟩,_⟩:=hok
   have he:e < ops.size:=by simp [Nat.blt,Nat.ble_eq] at k1; omega
   have:=h.ld e (hall e he)
   simp at k2
   exact absurd this k2
  | nil =>
   simp only [Xdh,Xmi,Xj9,Bool.and_eq_true] at hok
   obtain ⟨⟨⟨⟨⟨⟨k1,k2⟩,_⟩,_⟩,_⟩,_⟩,_⟩:=hok
   have he:e1 < ops.size:=by simp [Nat.blt,Nat.ble_eq] at k1; omega
   have:=h.ld e1 (hall e1 he)
   simp at k2
   exact absurd this k2
 intro fuel
 induction fuel with
 | zero =>
  intro listed done al φ ρ m a w ph h hok hr hc
  have hall:∀ i,i < ops.size→lst listed i:=fun i hi=>by
   unfold cnt at hc
   have h0:=Nat.le_zero.1 hc
   rw [List.countP_eq_zero] at h0
   have:=h0 i (List.mem_range.2 hi)
   simpa [lst] using this
  exact (notall listed done al φ ρ m a w ph h hok hall).elim
 | succ fuel ih =>
  intro listed done al φ ρ m a w ph h hok hr hc
  refine ⟨fun hrd=>(notall listed done al φ ρ m a w ph h hok (Xcg hS h.lsz hrd)).elim,fun i hi=>?_⟩
  obtain ⟨q1,o,ho,q3⟩:=mem_ready.1 hi
  have his:=lt_of_some ho
  have hnl:¬ lst listed i:=fun hl=>by
   unfold lst at hl
   have h2:i < listed.size:=by rw [h.lsz]; exact his
   simp only [Array.getD_eq_getD_getElem?,Array.getElem?_eq_getElem h2,Option.getD_some] at q1 hl
   rw [q1] at hl
   cases hl
  have hpre:∀ x,bit b i x=true→lst listed x:=fun x hx=>by
   obtain ⟨o',ho',e,he,hb,_,h4⟩:=hS.clo i x hx
   rw [ho] at ho'
   cases ho'
   have hle:lst listed e.on:=q3 e he hb
   rcases h4 with rfl | h4
   ·exact hle
   ·exact h.ldown e.on x hle h4
  have hcnt:=Xrl h.lsz his hnl
  by_cases hid:i ∈ done
  ·exact Xif hS h hid hnl hpre fun φ' a' w' h'=>ih _ done al φ' ρ m a' w' ph h' hok hr (by omega)
  ·rcases Xij hok i his with q | q
   ·exact absurd q hid
   cases ph with
   | nil =>
    simp only [Xdh,Xmi,Bool.and_eq_true] at hok
    obtain ⟨⟨⟨o1,o2⟩,n1⟩,n2⟩:=hok
    simp only [X3p] at hr
    obtain ⟨r1,r2⟩:=Xji hr
    have go:∀ (f1 f2:Nat),i=f1→Xj9 P ops b done f1=true→okPh P ops b (f1 :: done) [(f2,[],[])]=true→X3p P g n ops [(f1,[],[]),(f2,[],[])] ρ m k=some r→wpOp P ops Q i (wpAny P .any ops Q fuel (listed.setIfInBounds i true)) a w:=by
     intro f1 f2 hif ok1 okn hrr
     subst hif
     simp only [Xj9,Bool.and_eq_true] at ok1
     obtain ⟨⟨⟨k1,k2⟩,k3⟩,k5⟩:=ok1
     rw [X7k ho] at hrr
     refine Xhj hT hS h ho hid hpre (X4l hS his k3) (fun j hj hn hb=>?_) (fun j hj=>by cases hj) hrr ?_
     ·rw [List.all_eq_true] at k5
      have:=k5 j hj
      rw [hn,hb] at this
      simp at this
     ·intro φ' ρ' m' a' w' h' hr'
      simp only [Xq] at hr'
      exact any_ok hT hS hQ fuel _ _ al φ' ρ' m' a' w' _ h' okn hr' (by omega)
    simp only [X5g,List.nil_append,List.mem_cons,List.not_mem_nil,or_false] at q
    rcases q with q | q
    ·exact go e1 e2 q o1 n1 r1
    ·exact go e2 e1 q o2 n2 r2
   | cons p ph =>
    obtain ⟨e,cs,es⟩:=p
    have hok':=hok
    simp only [Xdh,Bool.and_eq_true] at hok'
    obtain ⟨⟨⟨⟨⟨⟨⟨k1,k2⟩,k3⟩,k4⟩,k5⟩,k6⟩,k7⟩,k8⟩:=hok'
    have he:e < ops.size:=by simp [Nat.blt,Nat.ble_eq] at k1; omega
    have hne:e ∉ done:=by simpa using k2
    have hie:i=e:=by
     simp only [X5g,List.cons_append] at q
     rcases List.mem_cons.1 q with q | q
     ·exact q
     ·exfalso
      rw [List.all_eq_true] at k4
      rw [List.append_assoc] at q
      exact hne (h.ld e (hpre e (k4 i q)))
    subst hie
    have hoe:=ho
    rw [X7k ho] at hr
    refine Xhj hT hS h ho hid hpre (X4l hS he k3) (fun j hj hn hb=>?_) (fun j hj=>List.all_eq_true.1 k6 j hj) hr ?_
    ·rw [List.all_eq_true] at k5
     have:=k5 j hj
     rw [hn,hb] at this
     simpa using this
    ·intro φ' ρ' m' a' w' h' hr'
     obtain ⟨al2,ρ2,m2,h2,hr2⟩:=X4b hS es (i :: done) al ρ' m' h' k7 hr'
     exact ih _ _ al2 φ' ρ2 m2 a' w' ph h2 k8 hr2 (by omega)
def Xov (P:Program) (ops:Array Oper) (b:List Nat) (s:Sch) (e1 e2:Nat):Bool:=X5r P ops b [] s.e0 && Xdh P ops b e1 e2 s.e0.reverse s.ph
def Xp0 (P:Program) (g:Tab) (n:Nat) (ops:Array Oper) (s:Sch) (e1 e2:Nat) (ρ:Env) (m:Mem) (k:Env→Mem→Option Rs):Option Rs:=
 Xq P n ops s.e0 ρ m fun ρ m=>X3p P g n ops s.ph ρ m fun ρ m=>Xgo P g n ops e1 e2 ρ m k
theorem Xoe (hm:P.follows .mixedOrders=true) (hT:X1d P W0 g) (hS:St n ops b) {s:Sch} {e1 e2:Nat} (hs:Xov P ops b s e1 e2=true) {id:Nat} {φ:Pmap} {ρ:Env} {m:Mem} {a:Act} {w:World} {k:Env→Mem→Option Rs} {r:Rs} {Q:Exit→Act→World→Prop}
  (hc:Cfg D W0 n φ ρ m a w) (hr:Xp0 P g n ops s e1 e2 ρ m k=some r) (hQ:∀ φ' ρ' m' a' w',Cfg D W0 n φ' ρ' m' a' w'→Stp φ m w φ' m' w'→k ρ' m'=some r→Q .normal a' w'):(Code.region id ops true).wp P Q a w:=by
 refine wp_region_any hm ?_
 unfold Xov at hs
 simp only [Bool.and_eq_true] at hs
 have h0:=Xfj (P:=P) (ops:=ops) (b:=b) hS hc
 unfold Xp0 at hr
 obtain ⟨al,ρ1,m1,h1,hr1⟩:=X4b hS s.e0 [] [] ρ m h0 hs.1 hr
 exact Xvk hT hS hQ ops.size _ _ al φ ρ1 m1 a _ s.ph h1 (by simpa using hs.2) hr1 (Xos _)
end
end
end Go.Ab

namespace Go.Ab
noncomputable section
open Go.RowKit (Below)
def force {α:Type} (n:Nat) (f:Nat→α):α:=match n with | 0=>f 0 | k + 1=>f (k + 1)
theorem force_eq {α:Type} (n:Nat) (f:Nat→α):force n f=f n:=by cases n <;> rfl
def rowB (i:Nat) (acc:List Nat):List Edge→Nat→Nat
 | [],s=>s
 | e :: r,s=>bif Region.binds .any e then rowB i acc r (s ||| 2 ^ e.on ||| acc.getD (i - 1 - e.on) 0) else rowB i acc r s
def Xkg:List Oper→Nat→List Nat→List Nat
 | [],_,acc=>acc
 | o :: os,i,acc=>force (rowB i acc o.after.toList 0) fun r=>Xkg os (i + 1) (r :: acc)
def rowsOf (ops:Array Oper):List Nat:=(Xkg ops.toList 0 []).reverse
theorem Xhd (i:Nat) (acc:List Nat) (x:Nat):∀ (l:List Edge) (s:Nat),(rowB i acc l s).testBit x=true ↔ s.testBit x=true∨∃ e ∈ l,Region.binds .any e=true∧(e.on=x∨(acc.getD (i - 1 - e.on) 0).testBit x=true)
 | [],s=>by simp [rowB]
 | e :: r,s=>by
  simp only [rowB]
  cases hb:Region.binds .any e
  ·simp only [cond_false]
   rw [Xhd i acc x r s]
   simp [hb]
  ·simp only [cond_true]
   rw [Xhd i acc x r _]
   simp only [Nat.testBit_or,Bool.or_eq_true,Nat.testBit_two_pow,decide_eq_true_eq,List.mem_cons,exists_eq_or_imp,hb,true_and]
   constructor
   ·rintro ((h | h) | h)
    ·rcases h with h | h
     ·exact .inl h
     ·exact .inr (.inl (.inl h))
    ·exact .inr (.inl (.inr h))
    ·exact .inr (.inr h)
   ·rintro (h | (h | h) | h)
    ·exact .inl (.inl (.inl h))
    ·exact .inl (.inl (.inr h))
    ·exact .inl (.inr h)
    ·exact .inr h
theorem Xbn:∀ (os:List Oper) (i:Nat) (acc:List Nat),acc.length=i→∃ l,Xkg os i acc=l ++ acc∧l.length=os.length ∧
  ∀ j o,os[j]?=some o→(Xkg os i acc).reverse.getD (i + j) 0=rowB (i + j) (((Xkg os i acc).reverse.take (i + j)).reverse) o.after.toList 0
 | [],i,acc,h=>⟨[],by simp [Xkg],rfl,fun j o hj=>by simp at hj⟩
 | o :: os,i,acc,h=>by
  simp only [Xkg,force_eq]
  obtain ⟨l,h1,h2,h3⟩:=Xbn os (i + 1) (rowB i acc o.after.toList 0 :: acc) (by simp [h])
  refine ⟨l ++ [rowB i acc o.after.toList 0],by rw [h1]; simp,by simp [h2],fun j p hj=>?_⟩
  cases j with
  | succ j =>
   have:=h3 j p (by simpa using hj)
   rw [show i + 1 + j=i + (j + 1) by omega] at this
   exact this
  | zero =>
   simp at hj
   subst hj
   rw [h1]
   simp only [Nat.add_zero,List.reverse_append,List.reverse_cons,List.append_assoc]
   have e1:(acc.reverse ++ ([rowB i acc o.after.toList 0] ++ l.reverse)).getD i 0=rowB i acc o.after.toList 0:=by
    rw [List.getD_eq_getElem?_getD,List.getElem?_append_right (by simp [h])]
    simp [h]
   have e2:(acc.reverse ++ ([rowB i acc o.after.toList 0] ++ l.reverse)).take i=acc.reverse:=by
    rw [List.take_append_of_le_length (by simp [h]),List.take_of_length_le (by simp [h])]
   rw [e1,e2,List.reverse_reverse]
theorem X61 (ops:Array Oper):(rowsOf ops).length=ops.size:=by
 obtain ⟨l,h1,h2,_⟩:=Xbn ops.toList 0 [] rfl
 unfold rowsOf
 rw [h1]
 simp [h2]
theorem Xdi {ops:Array Oper} {i:Nat} {o:Oper} (ho:ops[i]?=some o) (hlt:∀ e ∈ o.after,Region.binds .any e=true→e.on < i) (x:Nat) :
  bit (rowsOf ops) i x=true ↔ ∃ e ∈ o.after,Region.binds .any e=true∧(e.on=x∨bit (rowsOf ops) e.on x=true):=by
 obtain ⟨l,_,_,h3⟩:=Xbn ops.toList 0 [] rfl
 have h:=h3 i o (by simpa using ho)
 simp only [Nat.zero_add] at h
 have hi:i < ops.size:=lt_of_some ho
 unfold bit
 rw [show (rowsOf ops).getD i 0=_ from h,Xhd]
 simp only [Nat.zero_testBit,Bool.false_eq_true,false_or]
 constructor
 ·rintro ⟨e,he,hb,h4⟩
  have hle:=hlt e (by simpa using he) hb
  refine ⟨e,by simpa using he,hb,?_⟩
  rcases h4 with h4 | h4
  ·exact .inl h4
  ·right
   have hlen:((rowsOf ops).take i).length=i:=by rw [List.length_take,X61]; omega
   change ((List.take i (rowsOf ops)).reverse.getD (i - 1 - e.on) 0).testBit x=true at h4
   rw [List.getD_eq_getElem?_getD,List.getElem?_reverse (by omega),hlen,show i - 1 - (i - 1 - e.on)=e.on by omega,List.getElem?_take,if_pos hle] at h4
   rw [List.getD_eq_getElem?_getD]
   exact h4
 ·rintro ⟨e,he,hb,h4⟩
  have hle:=hlt e he hb
  refine ⟨e,by simpa using he,hb,?_⟩
  rcases h4 with h4 | h4
  ·exact .inl h4
  ·right
   have hlen:((rowsOf ops).take i).length=i:=by rw [List.length_take,X61]; omega
   change ((List.take i (rowsOf ops)).reverse.getD (i - 1 - e.on) 0).testBit x=true
   rw [List.getD_eq_getElem?_getD,List.getElem?_reverse (by omega),hlen,show i - 1 - (i - 1 - e.on)=e.on by omega,List.getElem?_take,if_pos hle]
   rw [List.getD_eq_getElem?_getD] at h4
   exact h4
def wrOf:List Oper→Nat→List (Nat × Nat)
 | [],_=>[]
 | o :: r,i=>match o.dst with | some d=>(d,i) :: wrOf r (i + 1) | none=>wrOf r (i + 1)
def Xq6:List (Nat × Nat)→Nat→Option Nat
 | [],_=>none
 | (d,i) :: r,t=>bif Nat.beq d t then some i else Xq6 r t
def Xci:List (Nat × Nat)→Bool
 | []=>true
 | (d,_) :: r=>(r.all fun p=>!Nat.beq p.1 d) && Xci r
theorem Xho:∀ (l:List Oper) (i d x:Nat),(d,x) ∈ wrOf l i ↔ ∃ j o,l[j]?=some o∧o.dst=some d∧x=i + j
 | [],i,d,x=>by simp [wrOf]
 | o :: r,i,d,x=>by
  simp only [wrOf]
  have ih:=Xho r (i + 1) d x
  cases ho:o.dst with
  | none =>
   simp only
   rw [ih]
   constructor
   ·rintro ⟨j,p,h1,h2,h3⟩
    exact ⟨j + 1,p,by simpa using h1,h2,by omega⟩
   ·rintro ⟨j,p,h1,h2,h3⟩
    cases j with
    | zero=>simp at h1; subst h1; rw [ho] at h2; cases h2
    | succ j=>exact ⟨j,p,by simpa using h1,h2,by omega⟩
  | some d' =>
   simp only [List.mem_cons,Prod.mk.injEq]
   rw [ih]
   constructor
   ·rintro (⟨rfl,rfl⟩ | ⟨j,p,h1,h2,h3⟩)
    ·exact ⟨0,o,rfl,ho,by omega⟩
    ·exact ⟨j + 1,p,by simpa using h1,h2,by omega⟩
   ·rintro ⟨j,p,h1,h2,h3⟩
    cases j with
    | zero =>
     simp at h1; subst h1; rw [ho] at h2; cases h2
     exact .inl ⟨rfl,by omega⟩
    | succ j=>exact .inr ⟨j,p,by simpa using h1,h2,by omega⟩
theorem Xcz:∀ {l:List (Nat × Nat)},Xci l=true→∀ d x y,(d,x) ∈ l→(d,y) ∈ l→x=y
 | [],_,d,x,y,h,_=>by cases h
 | (d',i) :: r,hn,d,x,y,h,k=>by
  simp only [Xci,Bool.and_eq_true,List.all_eq_true] at hn
  rcases List.mem_cons.1 h with h | h <;> rcases List.mem_cons.1 k with k | k
  ·cases h; cases k; rfl
  ·cases h
   have:=hn.1 _ k
   simp only [Nat.beq_refl,Bool.not_true,Bool.false_eq_true] at this
  ·cases k
   have:=hn.1 _ h
   simp only [Nat.beq_refl,Bool.not_true,Bool.false_eq_true] at this
  ·exact Xcz hn.2 d x y h k
theorem Xb8:∀ {l:List (Nat × Nat)} {t x:Nat},Xci l=true→(t,x) ∈ l→Xq6 l t=some x
 | [],t,x,_,h=>by cases h
 | (d,i) :: r,t,x,hn,h=>by
  simp only [Xq6]
  simp only [Xci,Bool.and_eq_true,List.all_eq_true] at hn
  rcases List.mem_cons.1 h with h | h
  ·cases h
   simp
  ·have:=hn.1 _ h
   simp only [Bool.not_eq_true'] at this
   have hne:Nat.beq d t=false:=by
    cases hb:Nat.beq d t
    ·rfl
    ·rw [Nat.eq_of_beq_eq_true hb,Nat.beq_refl] at this; cases this
   rw [hne]
   exact Xb8 hn.2 h
def Xl2 (n:Nat) (ops:Array Oper) (bs:List Nat) (wr:List (Nat × Nat)) (i:Nat) (o:Oper):Bool:=
 (o.after.toList.all fun e=>!Region.binds .any e || Nat.blt e.on i) && o.op.operands.toList.all Xnx && (match o.dst with | some d=>Nat.blt d n | none=>true) &&
  (Oper.looksAt ops o).all fun t=>match Xq6 wr t with | none=>true | some w=>Nat.beq w i || bit bs i w || bit bs w i
def Xt7 (n:Nat) (ops:Array Oper) (bs:List Nat) (wr:List (Nat × Nat)):List Oper→Nat→Bool
 | [],_=>true
 | o :: r,i=>Xl2 n ops bs wr i o && Xt7 n ops bs wr r (i + 1)
def Xqi (n:Nat) (ops:Array Oper):Bool:=Xci (wrOf ops.toList 0) && Xt7 n ops (rowsOf ops) (wrOf ops.toList 0) ops.toList 0
theorem Xfq {n:Nat} {ops:Array Oper} {bs:List Nat} {wr:List (Nat × Nat)}:∀ {l:List Oper} {i:Nat},Xt7 n ops bs wr l i=true→∀ j o,l[j]?=some o→Xl2 n ops bs wr (i + j) o=true
 | [],i,_,j,o,hj=>by simp at hj
 | p :: r,i,h,j,o,hj=>by
  simp only [Xt7,Bool.and_eq_true] at h
  cases j with
  | zero=>simp at hj; subst hj; exact h.1
  | succ j =>
   have:=Xfq h.2 j o (by simpa using hj)
   rw [show i + 1 + j=i + (j + 1) by omega] at this
   exact this
theorem Xfy {n:Nat} {ops:Array Oper} (h:Xqi n ops=true):St n ops (rowsOf ops):=by
 unfold Xqi at h
 simp only [Bool.and_eq_true] at h
 obtain ⟨h1,h2⟩:=h
 have one:∀ i o,ops[i]?=some o→Xl2 n ops (rowsOf ops) (wrOf ops.toList 0) i o=true:=fun i o ho=>by
  have:=Xfq h2 i o (by simpa using ho)
  rwa [Nat.zero_add] at this
 have mem:∀ i o d,ops[i]?=some o→o.dst=some d→(d,i) ∈ wrOf ops.toList 0:=fun i o d ho hd=>(Xho _ _ _ _).2 ⟨i,o,by simpa using ho,hd,by omega⟩
 have lts:∀ i o,ops[i]?=some o→∀ e ∈ o.after,Region.binds .any e=true→e.on < i:=fun i o ho e he hb=>by
  have:=one i o ho
  simp only [Xl2,Bool.and_eq_true,List.all_eq_true] at this
  have:=this.1.1.1 e (by simpa using he)
  rw [hb] at this
  simp only [Bool.not_true,Bool.false_or,Nat.blt,Nat.ble_eq] at this
  omega
 refine ⟨fun i x hx=>?_,fun i o ho e he hb=>(Xdi ho (lts i o ho) e.on).2 ⟨e,he,hb,.inl rfl⟩,fun i j o p d hi hj hd hd'=>Xcz h1 d i j (mem i o d hi hd) (mem j p d hj hd'),fun i o d ho hd=>?_,fun i o t x ox ho ht hox hd hne=>?_,fun i o ho=>?_⟩
 ·have hi:i < ops.size:=by
   rcases Nat.lt_or_ge i ops.size with q | q
   ·exact q
   ·unfold bit at hx
    rw [List.getD_eq_getElem?_getD,List.getElem?_eq_none (by rw [X61]; exact q)] at hx
    simp at hx
  have ho:ops[i]?=some ops[i]:=by simp [hi]
  obtain ⟨e,he,hb,h4⟩:=(Xdi ho (lts i _ ho) x).1 hx
  exact ⟨_,ho,e,he,hb,lts i _ ho e he hb,h4⟩
 ·have:=one i o ho
  simp only [Xl2,Bool.and_eq_true,hd] at this
  have:=this.1.2
  simp only [Nat.blt,Nat.ble_eq] at this
  omega
 ·have:=one i o ho
  simp only [Xl2,Bool.and_eq_true,List.all_eq_true] at this
  have:=this.2 t ht
  rw [Xb8 h1 (mem x ox t hox hd)] at this
  simp only [Bool.or_eq_true] at this
  rcases this with (q | q) | q
  ·exact absurd (Nat.eq_of_beq_eq_true q) hne
  ·exact .inl q
  ·exact .inr q
 ·have:=one i o ho
  simp only [Xl2,Bool.and_eq_true] at this
  exact this.1.1.2
def subB (a d:Nat):Bool:=Nat.beq (Nat.land a d) a
theorem Xj0 {a d:Nat} (h:subB a d=true) (x:Nat) (hx:a.testBit x=true):d.testBit x=true:=by
 unfold subB at h
 have h:=Nat.eq_of_beq_eq_true h
 change a &&& d=a at h
 rw [← h,Nat.testBit_and,Bool.and_eq_true] at hx
 exact hx.2
def X5x (P:Program) (ops:Array Oper) (bs:List Nat):Nat→List Nat→Bool
 | _,[]=>true
 | D,i :: is=>Nat.blt i ops.size && !D.testBit i && subB (bs.getD i 0) D && kindOk P ops i && X5x P ops bs (D ||| 2 ^ i) is
def addB (D:Nat):List Nat→Nat
 | []=>D
 | i :: is=>addB (D ||| 2 ^ i) is
def Xls (ops:Array Oper) (bs:List Nat) (wr:List (Nat × Nat)) (i:Nat):Bool:=match ops[i]? with
 | some o=>(Oper.looksAt ops o).all fun t=>match Xq6 wr t with | none=>true | some w=>bit bs i w
 | none=>false
def Xp9 (P:Program) (ops:Array Oper) (bs:List Nat) (wr:List (Nat × Nat)) (needs:List Nat):Nat→List (Nat × List Nat × List Nat)→Bool
 | D,[]=>(List.range ops.size).all fun i=>D.testBit i
 | D,(e,cs,es) :: r=>Nat.blt e ops.size && !D.testBit e && subB (bs.getD e 0) D && ((es ++ X5g r).all fun i=>bit bs i e) &&
   (needs.all fun i=>!D.testBit i || bit bs e i || cs.contains i) && (cs.all fun i=>Xls ops bs wr i) && X5x P ops bs (D ||| 2 ^ e) es && force (addB (D ||| 2 ^ e) es) fun D=>Xp9 P ops bs wr needs D r
def Xkd (P:Program) (ops:Array Oper):List Nat:=(List.range ops.size).filter fun i=>X6p P ops i
theorem X97 {P:Program} {ops:Array Oper}:∀ {is:List Nat} {D:Nat} {done:List Nat},(∀ x,D.testBit x=true ↔ x ∈ done)→X5x P ops (rowsOf ops) D is=true →
  X5r P ops (rowsOf ops) done is=true∧∀ x,(addB D is).testBit x=true ↔ x ∈ is.reverse ++ done
 | [],D,done,hD,_=>⟨rfl,by simpa [addB] using hD⟩
 | i :: is,D,done,hD,h=>by
  simp only [X5x,Bool.and_eq_true] at h
  obtain ⟨⟨⟨⟨k1,k2⟩,k3⟩,k4⟩,k5⟩:=h
  have hD':∀ x,(D ||| 2 ^ i).testBit x=true ↔ x ∈ i :: done:=fun x=>by
   rw [Nat.testBit_or,Bool.or_eq_true,hD,Nat.testBit_two_pow,decide_eq_true_eq,List.mem_cons]
   constructor
   ·rintro (h | h)
    ·exact .inr h
    ·exact .inl h.symm
   ·rintro (h | h)
    ·exact .inr h.symm
    ·exact .inl h
  obtain ⟨q1,q2⟩:=X97 hD' k5
  refine ⟨?_,fun x=>by rw [addB,q2]; simp⟩
  simp only [X5r,Bool.and_eq_true]
  refine ⟨⟨⟨⟨k1,?_⟩,?_⟩,k4⟩,q1⟩
  ·cases hc:done.contains i
   ·rfl
   ·have:D.testBit i=true:=(hD i).2 (by simpa using hc)
    rw [this] at k2
    cases k2
  ·unfold X7b
   rw [List.all_eq_true]
   intro x _
   cases hb:bit (rowsOf ops) i x
   ·rfl
   ·have:=(hD x).1 (Xj0 k3 x hb)
    simpa using this
theorem Xll {P:Program} {ops:Array Oper} {n:Nat} (hS:St n ops (rowsOf ops)) (hw:Xci (wrOf ops.toList 0)=true):∀ {ph:List (Nat × List Nat × List Nat)} {D:Nat} {done:List Nat},(∀ x,D.testBit x=true ↔ x ∈ done)→(∀ x ∈ done,x < ops.size) →
  Xp9 P ops (rowsOf ops) (wrOf ops.toList 0) (Xkd P ops) D ph=true→okPh P ops (rowsOf ops) done ph=true
 | [],D,done,hD,_,h=>by
  simp only [Xp9,okPh,List.all_eq_true] at h ⊢
  intro x hx
  have:=(hD x).1 (h x hx)
  simpa using this
 | (e,cs,es) :: r,D,done,hD,hlt,h=>by
  simp only [Xp9,Bool.and_eq_true,force_eq] at h
  obtain ⟨⟨⟨⟨⟨⟨⟨k1,k2⟩,k3⟩,k4⟩,k5⟩,k6⟩,k7⟩,k8⟩:=h
  have hD':∀ x,(D ||| 2 ^ e).testBit x=true ↔ x ∈ e :: done:=fun x=>by
   rw [Nat.testBit_or,Bool.or_eq_true,hD,Nat.testBit_two_pow,decide_eq_true_eq,List.mem_cons]
   constructor
   ·rintro (h | h)
    ·exact .inr h
    ·exact .inl h.symm
   ·rintro (h | h)
    ·exact .inr h.symm
    ·exact .inl h
  obtain ⟨q1,q2⟩:=X97 hD' k7
  have he:e < ops.size:=by simp [Nat.blt,Nat.ble_eq] at k1; omega
  have hes:∀ x ∈ es,x < ops.size:=by
   have key:∀ (is:List Nat) (D:Nat),X5x P ops (rowsOf ops) D is=true→∀ x ∈ is,x < ops.size:=by
    intro is
    induction is with
    | nil=>intro D _ x hx; cases hx
    | cons i is ih =>
     intro D hk x hx
     simp only [X5x,Bool.and_eq_true] at hk
     rcases List.mem_cons.1 hx with rfl | hx
     ·have:=hk.1.1.1.1; simp [Nat.blt,Nat.ble_eq] at this; omega
     ·exact ih _ hk.2 x hx
   exact key es _ k7
  have hlt':∀ x ∈ es.reverse ++ e :: done,x < ops.size:=fun x hx=>by
   rcases List.mem_append.1 hx with hx | hx
   ·exact hes x (List.mem_reverse.1 hx)
   ·rcases List.mem_cons.1 hx with rfl | hx
    ·exact he
    ·exact hlt x hx
  have q3:=Xll hS hw q2 hlt' k8
  simp only [okPh,Bool.and_eq_true]
  refine ⟨⟨⟨⟨⟨⟨⟨k1,?_⟩,?_⟩,k4⟩,?_⟩,?_⟩,q1⟩,q3⟩
  ·cases hc:done.contains e
   ·rfl
   ·have:D.testBit e=true:=(hD e).2 (by simpa using hc)
    rw [this] at k2
    cases k2
  ·unfold X7b
   rw [List.all_eq_true]
   intro x _
   cases hb:bit (rowsOf ops) e x
   ·rfl
   ·have:=(hD x).1 (Xj0 k3 x hb)
    simpa using this
  ·rw [List.all_eq_true] at k5 ⊢
   intro x hx
   cases hn:X6p P ops x
   ·rfl
   ·have:=k5 x (by unfold Xkd; rw [List.mem_filter,List.mem_range]; exact ⟨hlt x hx,hn⟩)
    rw [(hD x).2 hx] at this
    simpa using this
  ·rw [List.all_eq_true] at k6 ⊢
   intro x hx
   have:=k6 x hx
   unfold Xls at this
   unfold Xdv
   cases ho:ops[x]? with
   | none=>rw [ho] at this; cases this
   | some o =>
    rw [ho] at this
    simp only [List.all_eq_true,List.mem_range] at this ⊢
    intro t ht y hy
    have h3:=this t ht
    cases hoy:ops[y]? with
    | none=>rfl
    | some oy =>
     simp only
     by_cases hd:oy.dst=some t
     ·rw [Xb8 hw ((Xho ops.toList 0 t y).2 ⟨y,oy,by simpa using hoy,hd,(Nat.zero_add y).symm⟩)] at h3
      simp only at h3
      rw [h3]
      simp
     ·have:(oy.dst != some t)=true:=by simpa using hd
      rw [this]; rfl
def ecOf (b:List Nat) (effs:List Nat) (i:Nat):Nat:=effs.countP fun e=>bit b i e
def Xxb (P:Program) (ops:Array Oper) (b:List Nat) (idx effs:List Nat):List Nat→Nat→List (Nat × List Nat × List Nat)
 | [],_=>[]
 | e :: r,j=>(e,idx.filter (fun i=>X6p P ops i && Nat.blt (ecOf b effs i) j && !bit b e i),idx.filter (fun i=>kindOk P ops i && Nat.beq (ecOf b effs i) j)) :: Xxb P ops b idx effs r (j + 1)
def Xer (P:Program) (ops:Array Oper) (b:List Nat):Sch:=
 let idx:=List.range ops.size
 let effs:=idx.filter fun i=>!kindOk P ops i
 { e0:=idx.filter (fun i=>kindOk P ops i && Nat.beq (ecOf b effs i) 0),ph:=Xxb P ops b idx effs effs 1 }
def okDr (P:Program) (n:Nat) (ops:Array Oper):Bool:=
 Xqi n ops && X5x P ops (rowsOf ops) 0 (Xer P ops (rowsOf ops)).e0 && Xp9 P ops (rowsOf ops) (wrOf ops.toList 0) (Xkd P ops) (addB 0 (Xer P ops (rowsOf ops)).e0) (Xer P ops (rowsOf ops)).ph
theorem Xoq {P:Program} {n:Nat} {ops:Array Oper} (h:okDr P n ops=true):St n ops (rowsOf ops)∧Xt3 P ops (rowsOf ops) (Xer P ops (rowsOf ops))=true:=by
 unfold okDr at h
 simp only [Bool.and_eq_true] at h
 obtain ⟨⟨h1,h2⟩,h3⟩:=h
 have hS:=Xfy h1
 have hw:Xci (wrOf ops.toList 0)=true:=by
  unfold Xqi at h1
  simp only [Bool.and_eq_true] at h1
  exact h1.1
 obtain ⟨q1,q2⟩:=X97 (P:=P) (done:=[]) (fun x=>by simp) h2
 have hlt:∀ x ∈ (Xer P ops (rowsOf ops)).e0.reverse ++ [],x < ops.size:=fun x hx=>by
  simp only [List.append_nil,List.mem_reverse,Xer,List.mem_filter,List.mem_range] at hx
  exact hx.1
 have q3:=Xll (P:=P) hS hw q2 hlt h3
 refine ⟨hS,?_⟩
 unfold Xt3
 rw [q1]
 simpa using q3
def Xud:List (Nat × List Nat × List Nat)→Option (List (Nat × List Nat × List Nat) × Nat × Nat)
 | []=>none
 | [_]=>none
 | [(e1,[],[]),(e2,[],[])]=>some ([],e1,e2)
 | p :: r=>match Xud r with | some (l,e1,e2)=>some (p :: l,e1,e2) | none=>none
def schP (P:Program) (n:Nat) (ops:Array Oper):Option (Sch × Nat × Nat):=
 match Xqi n ops with
 | false=>none
 | true=>match Xud (Xer P ops (rowsOf ops)).ph with
  | none=>none
  | some (l,e1,e2)=>match Xov P ops (rowsOf ops) ⟨(Xer P ops (rowsOf ops)).e0,l⟩ e1 e2 with
   | true=>some (⟨(Xer P ops (rowsOf ops)).e0,l⟩,e1,e2)
   | false=>none
def drOf (P:Program) (g:Tab) (n:Nat):Xcn:=fun ops ρ m k=>match okDr P n ops with
 | true=>Xw4 P g n ops (Xer P ops (rowsOf ops)) ρ m k
 | false=>match schP P n ops with
  | some (s,e1,e2)=>Xp0 P g n ops s e1 e2 ρ m k
  | none=>none
theorem Xux {P:Program} (hm:P.follows .mixedOrders=true) {W0:World} {g:Tab} (hT:X1d P W0 g) (n:Nat):Xgh P W0 n (drOf P g n):=by
 intro D id ops φ ρ m a w k r Q hc hd hQ
 unfold drOf at hd
 cases hk:okDr P n ops
 ·rw [hk] at hd
  simp only at hd
  split at hd
  ·rename_i s e1 e2 hs
   unfold schP at hs
   split at hs
   ·cases hs
   ·rename_i h1
    split at hs
    ·cases hs
    ·split at hs
     ·rename_i h2
      cases hs
      exact Xoe hm hT (Xfy h1) h2 hc hd hQ
     ·cases hs
  ·cases hd
 ·rw [hk] at hd
  simp only at hd
  obtain ⟨h1,h2⟩:=Xoq hk
  exact Xso hm hT h1 h2 hc hd hQ
theorem step_ok {P:Program} (hm:P.follows .mixedOrders=true) {W0:World} {g:Tab} {R:Nat} (hT:X1d P W0 g):X1d P W0 (Xh9 P R (drOf P) g):=Xob hT fun n=>Xux hm hT n
end
end Go.Ab
