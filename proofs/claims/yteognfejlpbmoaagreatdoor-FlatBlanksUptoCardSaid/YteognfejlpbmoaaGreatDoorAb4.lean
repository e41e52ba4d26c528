/-
  An evaluator over abstract memories, and that what it answers the machine answers. No conditions.
-/
import Derived.Test.YteognfejlpbmoaaGreatDoorAb3
set_option linter.unusedSimpArgs false
set_option linter.unusedVariables false

set_option maxRecDepth 100000
noncomputable section
namespace Go.Ab
inductive NewV where
 | ptr | mp
 | sl (size len r:Nat)
def NewV.val:NewV->Nat->Value
 | .ptr,b=>.pointer (some ⟨b,0,some 0⟩)
 | .mp,b=>.map (some b)
 | .sl size len r,b=>.slice (some ⟨b,0,some size⟩) len r
def aOf (P:Program) (f:Operand->Value) (o:Oper):Option (AObj × NewV):=
 match o.op with
 | .alloc t=>match tz P t with | some (_,z)=>some (.cells z.cells.toList 0 0 false (some (2 * t + 1)),.ptr) | none=>none
 | .box t x=>some (.cells (f x).cells.toList 0 0 false (some (2 * t + 1)),.ptr)
 | .buildSlice t len parts=>match P.underlying t with
  | some (.slice e)=>match tz P e with
   | some (i,z)=>if Nat.ble (len * i.size) 16777216 then
     match fill (fun k=>some (k * i.size,i.size)) (rep len z.cells.toList) (parts.toList.map fun (i,x)=>(i,f x)) with
     | some cs=>if i.size=0 then none else some (.cells cs 0 0 false (some (2 * e)),.sl i.size len 1)
     | none=>none
    else none
   | none=>none
  | _=>none
 | .makeMap _ none=>some (.map [] 0,.mp)
 | .makeSlice t l c=>match P.underlying t with
  | some (.slice e)=>match tz P e with
   | some (i,z)=>match f l,f c with
    | .int _ l,.int _ c=>if decide (0 <= l) && decide (l <= c) && fits c.toNat i.bytes && Nat.ble 1 i.size then some (.cells (rep l.toNat z.cells.toList) 0 0 false (some (2 * e)),.sl i.size l.toNat (if l=c then 1 else 0)) else none
    | _,_=>none
   | none=>none
  | _=>none
 | .range t x=>match P.underlying t with
  | some .string=>match f x with | .string s=>some (.siter s 0,.ptr) | _=>none
  | _=>none
 | .convert s d x=>match Xc5 P s d,f x with
  | .bytes,.string s=>some (.cells (s.data.toList.map fun b=>.int .u8 b.toNat) 0 0 false none,.sl 1 s.size 0)
  | _,_=>none
 | _=>none
def Xf1 (P:Program) (o:Op):Bool:=
 match o with
 | .convert s d _=>match Xc5 P s d with | .bytes=>true | _=>false
 | .range t _=>match P.underlying t with | some .string=>true | _=>false
 | .alloc _ | .box .. | .buildSlice .. | .makeSlice .. | .makeMap ..=>true
 | _=>false
theorem Xm7 {P:Program} {f:Operand->Value} {o:Oper} {ob:AObj} {nv:NewV} (h:aOf P f o=some (ob,nv)) (m:Mem):evOp P f m o=some (nv.val m.next,m.push ob):=by
 obtain ⟨dst,op,ty,pos,after,guard⟩:=o;unfold aOf at h;unfold evOp;cases op <;> simp only [reduceCtorEq] at h ⊢
 case alloc t =>
  cases hz:tz P t with
  | none=>grind
  | some p=>obtain ⟨i,z⟩:=p; rw [hz] at h; cases h; rfl
 case box t x=>cases h; rfl
 case buildSlice t len parts =>
  split at h
  ·rename_i e he;rw [he];simp only;split at h
   ·rename_i i z hz;rw [hz];simp only;split at h
    ·rename_i hb;rw [if_pos hb];split at h
     ·rename_i cs hcs;split at h
      ·cases h
      ·rename_i h0;cases h;simp only [X2v,X2h];rw [hcs];simp only [if_neg h0];rfl
     grind
    grind
   trivial
  trivial
 case convert s d x =>
  split at h
  ·rename_i s' hc hx;cases h;rw [hc,hx];rfl
  grind
 case makeMap t r =>
  cases r with
  | none=>cases h; rfl
  | some _=>cases h
 case makeSlice t l c =>
  split at h
  ·rename_i e he;rw [he];simp only;split at h
   ·rename_i i z hz;rw [hz];simp only;split at h
    ·rename_i l' c' hl hc;split at h
     ·rename_i hcond;cases h;rw [hl,hc];simp only [X3j];rw [if_pos hcond];rfl
     grind
    grind
   grind
  grind
 case range t x =>
  split at h
  ·rename_i ht;rw [ht];simp only;split at h
   ·rename_i s hs;cases h;rw [hs];rfl
   grind
  ·cases h
theorem Xyz {P:Program} {f:Operand->Value} {m m':Mem} {o:Oper} {v:Value} (hk:Xf1 P o.op=true) (h:evOp P f m o=some (v,m')):∃ ob nv,aOf P f o=some (ob,nv)/\v=nv.val m.next/\m'=m.push ob:=by
 have key:(∃ p,aOf P f o=some p)->∃ ob nv,aOf P f o=some (ob,nv)/\v=nv.val m.next/\m'=m.push ob:=fun ⟨p,hp⟩=>by
  obtain ⟨ob,nv⟩:=p;have:=Xm7 hp m;rw [h] at this;cases this;exact ⟨ob,nv,hp,rfl,rfl⟩
 refine key ?_;obtain ⟨dst,op,ty,pos,after,guard⟩:=o;unfold aOf;unfold evOp at h;cases op <;> simp only [Xf1,Bool.false_eq_true] at hk h ⊢
 case alloc t =>
  cases hz:tz P t with
  | none=>grind
  | some p=>simp
 case box t x=>simp
 case buildSlice t len parts =>
  split at h
  ·rename_i e he;simp only [he];split at h
   ·rename_i i z hz;simp only [hz];split at h
    ·rename_i hb;rw [if_pos hb];simp only [X2v,X2h] at h;split at h
     ·rename_i cs hcs;rw [hcs];simp_all
     trivial
    trivial
   trivial
  trivial
 case convert s d x =>
  split at hk
  ·rename_i hc;rw [hc] at h ⊢;generalize f x=y at h ⊢;cases y <;> simp only [conv,reduceCtorEq] at h
   simp
  grind
 case makeMap t r =>
  cases r with
  | none=>exact ⟨_,rfl⟩
  | some _=>cases h
 case makeSlice t l c =>
  split at h
  ·rename_i e he;simp only [he];split at h
   ·rename_i i z hz;simp only [hz];simp only [X3j] at h;split at h
    ·rename_i l' _ c' hl hc;rw [hl,hc];simp only;split at h
     ·rename_i hcond;rw [if_pos hcond];simp
     trivial
    trivial
   trivial
  trivial
 case range t x =>
  split at h
  ·rename_i ht;simp only [ht];simp only [X3w] at h;split at h
   ·simp_all
   grind
  ·grind
  grind
def Grounded (φ:Pmap) (l:List Value):Prop:=∀ v ∈ l,∃ c,VRel φ v c
theorem Grounded.of_rels {φ:Pmap}:∀ {l c:List Value},VRels φ l c->Grounded φ l
 | _,_,.nil=>fun v hv=>by cases hv
 | _,_,.cons v v' l l' h hl=>fun u hu=>by
  rcases List.mem_cons.1 hu with rfl | hu
  ·grind
  ·exact Grounded.of_rels hl u hu
theorem Grounded.append {φ:Pmap} {a b:List Value} (ha:Grounded φ a) (hb:Grounded φ b):Grounded φ (a ++ b):=fun v hv=>by
 rcases List.mem_append.1 hv with h | h
 ·exact ha v h
 ·exact hb v h
theorem Grounded.rep {φ:Pmap} {z:List Value} (hz:Grounded φ z):∀ n,Grounded φ (rep n z)
 | 0=>fun v hv=>by cases hv
 | n + 1=>hz.append (Grounded.rep hz n)
theorem Grounded.fill {φ:Pmap} (place:Nat->Option (Nat × Nat)):∀ (l:List (Nat × Value)) (a r:List Value),(∀ p ∈ l,Grounded φ p.2.cells.toList)->Grounded φ a->fill place a l=some r->Grounded φ r
 | [],a,r,_,ha,h=>by simp only [Ab.fill,Option.some.injEq] at h; grind
 | (i,v) :: l,a,r,hl,ha,h=>by
  simp only [Ab.fill] at h;split at h
  ·split at h
   ·refine Grounded.fill _ l _ r (fun p hp=>hl p (List.mem_cons_of_mem _ hp)) ?_ h;unfold Xl6;exact (Grounded.append (fun u hu=>ha u (List.mem_of_mem_take hu)) (hl _ List.mem_cons_self)).append (fun u hu=>ha u (List.mem_of_mem_drop hu))
   grind
  grind
theorem Xng {P:Program} {φ:Pmap} {f cf:Operand->Value} {o:Oper} (hf:∀ x ∈ o.op.operands.toList,VRel φ (f x) (cf x)) {ob:AObj} {nv:NewV} (h:aOf P f o=some (ob,nv)) :
  match ob with | .cells c _ _ _ _=>Grounded φ c | .map es _=>es=[] | .siter _ _=>True | .miter _ _ _ _=>False:=by
 obtain ⟨dst,op,ty,pos,after,guard⟩:=o;have gz:∀ {i:TypeInfo} {z:Value} {t:TypeId},tz P t=some (i,z)->Grounded φ _:=fun hz=>Grounded.of_rels (X2a (X1d (X5l hz).2.2.1));unfold aOf at h;cases op <;> simp only [reduceCtorEq] at h hf
 case alloc t =>
  grind
 case box t x =>
  cases h;exact Grounded.of_rels (X2a (hf x (by simp [Op.operands])))
 case buildSlice t len parts =>
  split at h
  ·split at h
   ·rename_i i z hz;split at h
    ·split at h
     ·rename_i cs hcs;split at h
      ·cases h
      ·cases h;refine Grounded.fill _ _ _ _ (fun p hp=>?_) ((gz hz).rep _) hcs;obtain ⟨q,hq,rfl⟩:=List.mem_map.1 hp;exact Grounded.of_rels (X2a (hf q.2 (by simp only [Op.operands,List.mem_map]; grind)))
     grind
    grind
   grind
  grind
 case convert s d x =>
  split at h
  ·cases h;intro v hv;obtain ⟨b,_,rfl⟩:=List.mem_map.1 hv;exact ⟨_,.int _ _⟩
  grind
 case makeMap =>
  grind
 case makeSlice t l c =>
  split at h
  ·split at h
   ·rename_i i z hz;split at h
    ·split at h
     ·cases h;exact (gz hz).rep _
     grind
    grind
   grind
  grind
 grind
end Go.Ab
namespace Go.Ab
theorem NewV.val_rel {φ ψ:Pmap} {nv:NewV} {b b':Nat} {cv:Value} (h:VRel φ (nv.val b) cv) (e:ψ b'=φ b):VRel ψ (nv.val b') cv:=by
 cases nv with
 | ptr =>
  cases h with
  | ptr _ _ _ B O pl hb hr hp=>exact .ptr _ _ _ B O pl (by grind) hr hp
 | mp =>
  cases h with
  | map _ R pl hb hp=>exact .map _ R pl (by grind) hp
 | sl size len r =>
  cases h with
  | slice _ _ _ _ _ B O cap pl hb hes hn hr hp=>exact .slice _ _ _ _ _ B O cap pl (by grind) hes hn hr hp
theorem NewV.val_there {φ:Pmap} {nv:NewV} {b:Nat} {cv:Value} (h:VRel φ (nv.val b) cv):∃ pl,φ b=some pl:=by
 cases nv with
 | ptr=>cases h with | ptr _ _ _ B O pl hb hr hp=>grind
 | mp=>cases h with | map _ R pl hb hp=>exact ⟨pl,hb⟩
 | sl size len r=>cases h with | slice _ _ _ _ _ B O cap pl hb hes hn hr hp=>exact ⟨pl,hb⟩
theorem Xnh {P:Program} {B0:Nat} {φ:Pmap} {m:Mem} {w:World} (hR:Rel B0 φ m w) {f cf:Operand->Value} (o:Oper) (hf:∀ x ∈ o.op.operands.toList,VRel φ (f x) (cf x)) {ob:AObj} {nv:NewV}
  (ha:aOf P f o=some (ob,nv)) {b:Nat} (hb:φ b=none) (hg:m.get b=some ob) (hlt:b < m.next) :
  ∃ cv w' pl,Done P cf o w cv w'/\Rel B0 (φ.upd b pl) m w'/\VRel (φ.upd b pl) (nv.val b) cv/\φ.le (φ.upd b pl) /\
   (∀ (φ0:Pmap) (m0:Mem) (w0:World),Stp φ0 m0 w0 φ m w->m0.next <= b->Stp φ0 m0 w0 (φ.upd b pl) m w'):=by
 have hev:=Xm7 ha (withLow m m.next);obtain ⟨cv,w',φ',h1,h2,h3,h4⟩:=Xiu (X90 hR _) o hf hev;obtain ⟨pl,hpl⟩:=NewV.val_there h3;simp only [withLow] at hpl;have same:∀ x,x < m.next->φ' x=φ x:=fun x hx=>(h4.same x (by simp [withLow]; exact hx) hx).2;have hget:∀ x,x < m.next->((withLow m m.next).push ob).get x=m.get x:=fun x hx=>by
  rw [Mem.get_push,if_neg (by simp [withLow]; omega)]; rfl
 have hag:∀ x p,φ x=some p->φ' x=some p:=fun x p hx=>by simp [same,hR.blocks,hx]
 have hle:φ.le (φ.upd b pl):=fun x p hx=>⟨p,by
  have:x ≠ b:=fun e=>by grind
  rw [Pmap.upd_other pl this]; exact hx,.inl rfl⟩
 have hgr:=Xng hf ha
 -- the new block
 have hnew:BRel (φ.upd b pl) w' pl ob:=by
  obtain ⟨_,o',q1,q2⟩:=h2.blocks m.next pl hpl;rw [Mem.get_push,if_pos (by rfl)] at q1;cases q1;cases ob with
  | cells c ver fro ro ty' =>
   obtain ⟨a1,a2,a3,C',ty',lo',hi',a4,a5,a6,a7⟩:=q2;refine ⟨a1,a2,a3,C',ty',lo',hi',a4,a5,fun i v hi hv=>?_,a7⟩;obtain ⟨c1,k2,k3⟩:=a6 i v hi hv;obtain ⟨c0,k0⟩:=hgr v (List.mem_of_getElem? hv);exact ⟨c1,k2,(k0.back hag k3).mono hle⟩
  | map es clock =>
   simp only at hgr;subst hgr;obtain ⟨a1,a2,es1,a3,a4⟩:=q2;refine ⟨a1,a2,es1,a3,?_⟩;generalize es1.toList=L at a4;cases a4;exact .nil
  | siter s pos=>exact q2
  | miter _ _ _ _=>grind
 have hold:∀ x p,φ x=some p->∃ o,m.get x=some o/\BRel (φ.upd b pl) w' p o:=fun x p hx=>by
  obtain ⟨q1,o,q2,q3⟩:=hR.blocks x p hx;obtain ⟨_,o',q4,q5⟩:=h2.blocks x p (hag x p hx);rw [hget x q1,q2] at q4;cases q4;exact ⟨o,q2,(q3.back hag q5).mono hle⟩
 refine ⟨cv,w',pl,h1,⟨fun x p hx=>?_,fun x x' p p' hx hx' hr heq=>?_,fun x p hx hr=>?_,h2.size,hR.fresh⟩,NewV.val_rel h3 (by rw [Pmap.upd_same]; exact hpl.symm),hle,fun φ0 m0 w0 s hm0=>?_⟩
 ·by_cases hxb:x=b
  ·subst hxb;rw [Pmap.upd_same] at hx
   grind
  ·rw [Pmap.upd_other pl hxb] at hx;exact ⟨(hR.blocks x p hx).1,hold x p hx⟩
 ·by_cases hxb:x=b
  ·by_cases hxb':x'=b
   ·omega
   ·subst hxb;rw [Pmap.upd_same] at hx;rw [Pmap.upd_other pl hxb'] at hx';cases hx;have:=h2.inj _ x' pl p' hpl (hag _ _ hx') hr heq;have:=(hR.blocks x' p' hx').1;omega
  ·by_cases hxb':x'=b
   ·subst hxb';rw [Pmap.upd_same] at hx';rw [Pmap.upd_other pl hxb] at hx;cases hx';have:=h2.inj x _ p pl (hag _ _ hx) hpl hr heq;have:=(hR.blocks x p hx).1;omega
   ·rw [Pmap.upd_other pl hxb] at hx;rw [Pmap.upd_other pl hxb'] at hx';exact hR.inj x x' p p' hx hx' hr heq
 ·by_cases hxb:x=b
  ·subst hxb;rw [Pmap.upd_same] at hx;cases hx;exact h2.base _ pl hpl hr
  ·rw [Pmap.upd_other pl hxb] at hx;exact hR.base x p hx hr
 ·have himg:pl.ro=false->w.heap.size <= pl.blk:=fun hr=>by
   rcases h4.img _ pl hpl hr with ⟨b',pl',g1,g2,g3⟩ | g1
   ·have h5:=(hR.blocks b' pl' g1).1;have:=h2.inj b' _ pl' pl (hag _ _ g1) hpl g2 g3;omega
   omega
  refine ⟨s.le.trans hle,s.next,s.low,fun x hx1 hx2=>?_,h4.os.trans s.os,h4.tape.trans s.tape,h4.output.trans s.output,Nat.le_trans s.size h4.size,fun B hB hn=>?_,fun x p hx hr=>?_,fun x hx1 hx2=>?_⟩
  ·obtain ⟨q1,q2⟩:=s.same x hx1 hx2;exact ⟨q1,by rw [Pmap.upd_other pl (by omega)]; exact q2⟩
  ·rw [h4.frame B (Nat.lt_of_lt_of_le hB s.size) ?_,s.frame B hB hn];intro b' p' hb' hr' e;rcases s.img b' p' hb' hr' with ⟨b2,pl2,g1,g2,g3⟩ | g1
   ·grind
   ·omega
  ·by_cases hxb:x=b
   ·subst hxb;rw [Pmap.upd_same] at hx;cases hx;exact .inr (Nat.le_trans s.size (himg hr))
   ·rw [Pmap.upd_other pl hxb] at hx;exact s.img x p hx hr
  ·obtain ⟨q1,q2⟩:=s.un x hx1 hx2;exact ⟨by rw [Pmap.upd_other pl (by omega)]; exact q1,q2⟩
theorem Xp5 {B0:Nat} {φ:Pmap} {m:Mem} {w:World} (h:Rel B0 φ m w) (ob:AObj):Rel B0 φ (m.push ob) w/\φ m.next=none/\∀ φ0 m0 w0,Stp φ0 m0 w0 φ m w->Stp φ0 m0 w0 φ (m.push ob) w:=by
 have hget:∀ x,x < m.next->(m.push ob).get x=m.get x:=fun x hx=>by rw [Mem.get_push,if_neg (by omega)]
 refine ⟨⟨fun b pl hb=>?_,h.inj,h.base,h.size,fun b hb=>?_⟩,?_,fun φ0 m0 w0 s=>⟨s.le,by have:=s.next; simp; omega,s.low,fun b h1 h2=>?_,s.os,s.tape,s.output,s.size,s.frame,s.img,fun b h1 h2=>?_⟩⟩
 ·obtain ⟨q1,o,q2,q3⟩:=h.blocks b pl hb;exact ⟨by simp; omega,o,by grind,q3⟩
 ·simp at hb;rw [Mem.get_push,if_neg (by omega)];exact h.fresh b (by omega)
 ·cases hx:φ m.next with
  | none=>rfl
  | some pl=>have:=(h.blocks _ _ hx).1; omega
 ·have hn:=s.next;have:=s.same b (by simp_all) h2
  grind
 ·have hn:=s.next;obtain ⟨q1,q2⟩:=s.un b h1 h2
  grind
end Go.Ab
namespace Go.Ab
def X7y (P:Program) (o:Op):Bool:=
 match o with
 | .move _ | .assign _ | .pick .. | .build .. | .nilCheck _ | .unOp .. | .makeInterface .. | .makeFunc .. | .fieldAddr .. | .field .. | .indexAddr .. | .index .. | .extract ..=>true
 | .binOp _ t _ _ _=>!Xbk P t
 | .slice t _ _ _ _=>match P.underlying t with | some .string | some (.slice _)=>true | _=>false
 | .convert s d _=>match Xc5 P s d with | .bytes | .str | .toU _ | .fromU _=>false | _=>true
 | .call { callee:=.builtin .max,.. } | .call { callee:=.builtin .min,.. }=>true
 | .call { callee:=.builtin .len,argTypes,.. }=>match (argTypes[0]?).bind P.underlying with | some (.map _ _)=>false | _=>true
 | _=>false
def isRead (P:Program) (o:Op):Bool:=
 match o with
 | .load .. | .lookup .. | .binOp ..=>true
 | .slice ..=>true
 | .convert s d _=>match Xc5 P s d with | .bytes=>false | _=>true
 | .call { callee:=.builtin .len,.. }=>true
 | _=>false
def Cv.plain (c:Cv):Bool:=match c with | .bytes | .str | .toU _ | .fromU _=>false | _=>true
theorem Xcj {c:Cv} (hc:c.plain=true) {x v:Value} {m m1:Mem} (h:conv c x m=some (v,m1)):m1=m/\∀ m',conv c x m'=some (v,m'):=by
 cases c <;> simp only [Cv.plain,Bool.false_eq_true] at hc <;> cases x <;> simp only [conv,reduceCtorEq,Option.some.injEq,Prod.mk.injEq] at h
 all_goals (obtain ⟨rfl,rfl⟩:=h; exact ⟨rfl,fun _=>rfl⟩)
theorem Xox {c:Cv} (hc:c ≠ .bytes) {x v:Value} {m m1:Mem} (h:conv c x m=some (v,m1)):m1=m:=by
 cases hp:c.plain
 ·cases c <;> simp only [Cv.plain,reduceCtorEq,ne_eq,not_true_eq_false] at hp hc
  case str =>
   cases x <;> simp only [conv,reduceCtorEq] at h
   grind
  case toU =>
   cases x <;> simp only [conv,reduceCtorEq] at h
   grind
  case fromU =>
   cases x <;> simp only [conv,reduceCtorEq] at h
   grind
 ·exact (Xcj hp h).1
theorem X1m {x:Option Value} {m m1:Mem} {v:Value} (h:pur x m=some (v,m1)):m1=m/\∀ m',pur x m'=some (v,m'):=by
 obtain ⟨rfl,rfl⟩:=Xl h;exact ⟨rfl,fun _=>rfl⟩
theorem Xcd {P:Program} {f:Operand->Value} {m m1:Mem} {o:Oper} {v:Value} (hk:X7y P o.op=true) (h:evOp P f m o=some (v,m1)):m1=m/\∀ m',evOp P f m' o=some (v,m'):=by
 obtain ⟨dst,op,ty,pos,after,guard⟩:=o;unfold evOp at h ⊢;cases op <;> simp only [X7y,Bool.false_eq_true] at hk h ⊢
 case move=>grind
 case assign=>grind
 case pick =>
  unfold pk at h ⊢
  grind
 case build =>
  split at h
  ·split at h
   ·split at h
    ·exact X1m h
    grind
   ·split at h
    ·exact X1m h
    grind
   grind
  grind
 case nilCheck=>exact X1m h
 case binOp b t x y yt =>
  simp at hk;rw [hk] at h ⊢;exact X1m h
 case unOp=>exact X1m h
 case convert s d x =>
  refine Xcj ?_ h;assumption
 case makeInterface t x=>grind
 case makeFunc=>grind
 case slice t x lo hi mx =>
  split at h
  ·split at h
   ·exact X1m h
   grind
  ·split at h
   ·split at h
    ·exact X1m h
    ·split at h
     ·exact X1m h
     grind
   grind
  ·rename_i h1 h2;split at hk
   ·trivial
   ·rename_i e h3; exact absurd h3 (h2 e)
   trivial
 case fieldAddr =>
  split at h
  ·split at h
   ·split at h
    ·split at h
     ·rename_i hb;simp only [if_pos hb];exact X1m h
     grind
    grind
   grind
  grind
 case field =>
  split at h
  ·split at h
   ·split at h
    ·exact X1m h
    grind
   grind
  grind
 case indexAddr =>
  split at h
  ·split at h
   ·exact X1m h
   grind
  ·split at h
   ·exact X1m h
   grind
  grind
 case index =>
  split at h
  ·split at h
   ·exact X1m h
   grind
  ·exact X1m h
  grind
 case extract=>exact X1m h
 case call c =>
  obtain ⟨callee,args,tys⟩:=c;cases callee <;> simp only [ reduceCtorEq] at hk h ⊢;rename_i b;cases b <;> simp only [Bool.false_eq_true] at hk h ⊢
  case len =>
   unfold X3u at h ⊢;cases hargs:args.toList.map f with
   | nil=>rw [hargs] at h; cases h
   | cons x l =>
    rw [hargs] at h;cases l with
    | cons y l=>trivial
    | nil =>
     cases htys:tys.toList with
     | nil=>rw [htys] at h; cases h
     | cons t l =>
      rw [htys] at h;cases l with
      | cons y l=>cases h
      | nil =>
       have ht0:tys[0]?=some t:=by
        rw [<- Array.getElem?_toList,htys]; rfl
       rw [ht0] at hk;simp at hk;simp only at h ⊢;split at h
       ·cases x <;> exact X1m h
       ·cases x <;> exact X1m h
       ·grind
       ·grind
       ·split at h
        ·grind
        grind
       grind
  case max =>
   unfold X3u at h ⊢;cases hargs:args.toList.map f with
   | nil=>rw [hargs] at h; cases h
   | cons x l =>
    rw [hargs] at h;cases l with
    | nil=>cases h
    | cons y l =>
     cases l with
     | cons z l=>cases h
     | nil=>exact X1m h
  case min =>
   unfold X3u at h ⊢;cases hargs:args.toList.map f with
   | nil=>rw [hargs] at h; cases h
   | cons x l =>
    rw [hargs] at h;cases l with
    | nil=>cases h
    | cons y l =>
     cases l with
     | cons z l =>
      cases l with
      | cons u l=>cases h
      | nil=>exact X1m h
     | nil=>exact X1m h
theorem Xi4 {P:Program} {f:Operand->Value} {m m1:Mem} {o:Oper} {v:Value} (hk:isRead P o.op=true) (h:evOp P f m o=some (v,m1)):m1=m:=by
 obtain ⟨dst,op,ty,pos,after,guard⟩:=o;unfold evOp at h;cases op <;> simp only [isRead,Bool.false_eq_true] at hk h
 case load=>split at h <;> first | exact (Xl h).2 | cases h
 case binOp b t x y yt =>
  cases hp:Xbk P t
  ·rw [hp] at h; exact (Xl h).2
  ·rw [hp] at h; exact (Xl h).2
 case lookup =>
  split at h
  ·split at h
   ·split at h
    ·exact (Xl h).2
    grind
   grind
  grind
 case convert s d x =>
  refine Xox ?_ h
  grind
 case slice t x lo hi mx =>
  split at h
  ·split at h
   ·exact (Xl h).2
   grind
  ·split at h
   ·split at h
    ·exact (Xl h).2
    ·split at h
     ·exact (Xl h).2
     grind
   grind
  ·split at h
   ·split at h
    ·split at h
     ·exact (Xl h).2
     grind
    grind
   grind
 case call c =>
  obtain ⟨callee,args,tys⟩:=c;cases callee <;> simp only [ reduceCtorEq] at hk h;rename_i b;cases b <;> simp only [Bool.false_eq_true] at hk h;unfold X3u at h;cases hargs:args.toList.map f with
  | nil=>grind
  | cons x l =>
   rw [hargs] at h;cases l with
   | cons y l=>grind
   | nil =>
    cases htys:tys.toList with
    | nil=>grind
    | cons t l =>
     rw [htys] at h;cases l with
     | cons y l=>cases h
     | nil =>
      simp only at h;split at h
      ·exact (Xl h).2
      ·exact (Xl h).2
      ·exact (Xl h).2
      ·grind
      ·grind
      grind
theorem Xnm {α:Type} {f f':Operand->α} (l:List Operand) (h:∀ x ∈ l,f x=f' x):l.map f=l.map f':=List.map_congr_left h
theorem Xnd {P:Program} {f f':Operand->Value} {m:Mem} {o:Oper} (h:∀ x ∈ o.op.operands.toList,f x=f' x):evOp P f m o=evOp P f' m o:=by
 obtain ⟨dst,op,ty,pos,after,guard⟩:=o;have pairs:∀ ps:Array (Nat × Operand),(∀ x ∈ ps.toList.map (·.2),f x=f' x)->(ps.toList.map fun (i,x)=>(i,f x))=(ps.toList.map fun (i,x)=>(i,f' x)):=fun ps hp =>
  List.map_congr_left fun p hm=>by
   grind
 cases op <;> simp only [Op.operands] at h <;> unfold evOp <;> simp only
 case build t ps=>rw [pairs ps (fun x hx=>h x (by omega))]
 case buildSlice t n ps=>rw [pairs ps (fun x hx=>h x (by omega))]
 case makeFunc fn first captured =>
  simp_all
 case call c =>
  obtain ⟨callee,args,tys⟩:=c;cases callee <;> simp only [Xhm];rw [Xnm _ (fun x hx=>h x (by simp [Call.operands,hx]))]
 case slice t x lo hi mx=>cases lo <;> cases hi <;> cases mx <;> simp_all
 case mapEntry t x k=>simp only [Xhm]; rw [h x (by simp),h k (by simp)]
 case entry x=>simp only [Xhm]; grind
 case entryStore t x s v=>simp only [Xhm]; grind
 case next x b =>
  cases b
  ·grind
  ·grind
 all_goals (first | rfl | (simp_all; done))
end Go.Ab
namespace Go.Ab
open Go.RowKit (Below)
variable {B0 N R d e e1 e2 i id k s size:Nat} {G ρ ρ' ρ0:Env} {a:Act} {ag c ok r want:Bool} {cs done es is:List Nat} {dst:Option Nat} {hi lo y:Option Value} {l:List Value} {listed:Array Bool} {o:Oper} {t:TypeId} {v x z:Value} {w w0:World} {φ φ0:Pmap}
def vsame:Nat->Value->Value->Bool
 | 0,_,_=>false
 | d + 1,a,b=>match a,b with
  | .bool x,.bool y=>decide (x=y)
  | .int k x,.int l y=>decide (k=l) && decide (x=y)
  | .string x,.string y=>decide (x=y)
  | .pointer x,.pointer y=>decide (x=y)
  | .slice x n r,.slice y n' r'=>decide (x=y) && decide (n=n') && decide (r=r')
  | .map x,.map y=>decide (x=y)
  | .nilFunc,.nilFunc=>true
  | .nilIface,.nilIface=>true
  | .iface t x,.iface u y=>decide (t=u) && vsame d x y
  | .func (.func f) x c,.func (.func g) y e=>decide (f=g) && vsames d x.toList y.toList && vsames d c.toList e.toList
  | .agg x,.agg y=>vsames d x.toList y.toList
  | .tuple x,.tuple y=>vsames d x.toList y.toList
  | _,_=>false
where
 vsames (d:Nat):List Value->List Value->Bool
  | [],[]=>true
  | a :: x,b :: y=>vsame d a b && vsames d x y
  | _,_=>false
theorem Xs4:∀ (d:Nat) (a b:Value),vsame d a b=true->a=b:=by
 intro d
 induction d with
 | zero=>intro a b h; simp [vsame] at h
 | succ d ih =>
  have ihs:∀ (x y:List Value),vsame.vsames d x y=true->x=y:=by
   intro x
   induction x with
   | nil=>intro y h; cases y with
    | nil=>rfl
    | cons=>simp [vsame.vsames] at h
   | cons a x ihx=>intro y h; cases y with
    | nil=>simp [vsame.vsames] at h
    | cons b y =>
     simp only [vsame.vsames,Bool.and_eq_true] at h;rw [ih a b h.1,ihx y h.2]
  intro a b h;unfold vsame at h;split at h <;> (try simp only [Bool.and_eq_true,decide_eq_true_eq,Bool.false_eq_true] at h)
  case h_1=>rw [h]
  case h_2=>grind
  case h_3=>rw [h]
  case h_4=>rw [h]
  case h_5=>grind
  case h_6=>rw [h]
  case h_7=>rfl
  case h_8=>rfl
  case h_9=>grind
  case h_10=>rw [h.1.1,Array.toList_inj.1 (ihs _ _ h.1.2),Array.toList_inj.1 (ihs _ _ h.2)]
  case h_11=>rw [Array.toList_inj.1 (ihs _ _ h)]
  case h_12=>rw [Array.toList_inj.1 (ihs _ _ h)]
def Mem.sub (m m':Mem):Prop:=∀ b o,m.get b=some o->m'.get b=some o
theorem X4u {m m':Mem} (h:m.sub m') {a:Addr} {n:Nat} (hg:getCells m a n=some l):getCells m' a n=some l:=by
 rw [Xn] at hg ⊢; unfold Xy at hg ⊢;split at hg
 ·rename_i c ver fro ro ty' hc;rw [h _ _ hc];exact hg
 grind
theorem Xqo {m m':Mem} (h:m.sub m') (hg:X8 ag s x m=some v):X8 ag s x m'=some v:=by
 rw [Xbv] at hg ⊢; unfold Xh0 at hg ⊢;split at hg
 ·split at hg
  ·split at hg
   ·rename_i cs hcs;rw [X4u h hcs];exact hg
   grind
  ·split at hg
   ·rename_i u hcs;rw [X4u h hcs];exact hg
   grind
 omega
theorem Xk4 {m m':Mem} (h:m.sub m') {p:EqPl} {k:Value} (hg:X5u p z ok x k m=some v):X5u p z ok x k m'=some v:=by
 unfold X5u at hg ⊢;simp only [X34] at hg ⊢;generalize (veq k k && (match aEq p k k with | some true=>true | _=>false))=c at hg ⊢
 cases c
 ·assumption
 ·simp at hg ⊢;split at hg
  ·exact hg
  ·split at hg
   ·rename_i b es cl hb;simp only [h _ _ hb];exact hg
   trivial
  omega
theorem Xgi {m m':Mem} (h:m.sub m') {len:Nat} (hg:X3v len size x lo hi m=some v):X3v len size x lo hi m'=some v:=by
 unfold X3v at hg ⊢;split at hg
 ·split at hg
  ·cases hg
  ·rename_i hcs;rw [X4u h hcs];exact hg
 omega
theorem Xry {m m':Mem} (h:m.sub m') {c:Cv} (hc:c ≠ .bytes) (hg:conv c x m=some (v,m)):conv c x m'=some (v,m'):=by
 cases hp:c.plain
 ·cases c <;> simp only [Cv.plain,reduceCtorEq,ne_eq,not_true_eq_false] at hp hc
  case str =>
   cases x <;> simp only [conv,reduceCtorEq] at hg
   rename_i a n r;cases a with
   | none=>simp only [conv,Option.some.injEq,Prod.mk.injEq] at hg ⊢; omega
   | some a =>
    simp only [conv] at hg ⊢
    split at hg
    ·rename_i cs hcs;rw [X4u h hcs];simp only;split at hg
     ·grind
     grind
    grind
  case toU =>
   cases x <;> simp only [conv,reduceCtorEq] at hg
   rename_i a;cases a with
   | none=>simp only [conv,Option.some.injEq,Prod.mk.injEq] at hg ⊢; omega
   | some a =>
    simp only [conv] at hg ⊢
    split at hg
    ·rename_i hb;rw [h _ _ hb];simp only
     grind
    grind
  case fromU =>
   cases x <;> simp only [conv,reduceCtorEq] at hg
   rename_i a;cases a with
   | none=>simp only [conv,Option.some.injEq,Prod.mk.injEq] at hg ⊢; omega
   | some a =>
    simp only [conv] at hg ⊢
    split at hg
    ·rename_i hb;rw [h _ _ hb];simp only
     grind
    trivial
 ·exact (Xcj hp hg).2 m'
theorem Xie {m m':Mem} (h:m.sub m') {a b:Addr} (hg:Xj4 m a b=some r):Xj4 m' a b=some r:=by
 unfold Xj4 at hg ⊢;split at hg
 ·rename_i hab;rw [if_pos hab];split at hg
  ·rename_i hb;rw [h _ _ hb];exact hg
  grind
 trivial
theorem Xsg {m m':Mem} (h:m.sub m') {op:BinOp} {g:Bool} {p:EqPl} {y:Value} (hg:binP m op c g p x y=some v):binP m' op c g p x y=some v:=by
 unfold binP at hg ⊢;split at hg
 ·split at hg
  ·rename_i r hr;simp only [Xie h hr];exact hg
  grind
 ·split at hg
  ·rename_i r hr;simp only [Xie h hr];exact hg
  grind
 omega
theorem X4d {x:Option Value} {m m':Mem} (h:∀ u,x=some u->y=some u) (hg:pur x m=some (v,m)):pur y m'=some (v,m'):=by
 obtain ⟨h1,_⟩:=Xl hg;rw [h _ h1]; rfl
theorem Xs0 {m m':Mem} (h:m.sub m') (hg:aLen x m=some v):aLen x m'=some v:=by
 unfold aLen at hg ⊢;split at hg
 ·exact hg
 ·exact hg
 ·exact hg
 ·split at hg
  ·rename_i b es cl hb;simp only [h _ _ hb];exact hg
  grind
 omega
theorem Xg8 {m m':Mem} (h:m.sub m') (hg:lenK k x m=some v):lenK k x m'=some v:=by
 rw [Xjb] at hg ⊢; unfold Xs5 at hg ⊢;split at hg
 ·exact hg
 ·exact hg
 ·exact Xs0 h hg
 omega
theorem Xsm {P:Program} {f:Operand->Value} {m m':Mem} (hs:m.sub m') (hk:isRead P o.op=true) (h:evOp P f m o=some (v,m)):evOp P f m' o=some (v,m'):=by
 obtain ⟨dst,op,ty,pos,after,guard⟩:=o;unfold evOp at h ⊢;cases op <;> simp only [isRead,Bool.false_eq_true] at hk h ⊢
 case load =>
  split at h
  ·exact X4d (fun _=>Xqo hs) h
  grind
 case binOp b t x y yt =>
  cases hp:Xbk P t
  ·rw [hp] at h; exact X4d (fun _ h=>h) h
  ·rw [hp] at h; exact X4d (fun _=>Xsg hs) h
 case lookup =>
  split at h
  ·split at h
   ·split at h
    ·exact X4d (fun _=>Xk4 hs) h
    grind
   grind
  grind
 case convert s d x =>
  refine Xry hs ?_ h
  grind
 case slice t x lo hi mx =>
  split at h
  ·split at h
   ·exact X4d (fun _ h=>h) h
   grind
  ·split at h
   ·split at h
    ·grind [X4d]
    ·split at h
     ·grind [X4d]
     grind
   grind
  ·split at h
   ·split at h
    ·split at h
     ·exact X4d (fun _=>Xgi hs) h
     grind
    grind
   grind
 case call c =>
  obtain ⟨callee,args,tys⟩:=c;cases callee <;> simp only [ reduceCtorEq] at hk h ⊢;rename_i b;cases b <;> simp only [Bool.false_eq_true] at hk h ⊢;unfold X3u at h ⊢;cases hargs:args.toList.map f with
  | nil=>rw [hargs] at h; cases h
  | cons x l =>
   rw [hargs] at h;cases l with
   | cons y l=>trivial
   | nil =>
    cases htys:tys.toList with
    | nil=>rw [htys] at h; cases h
    | cons t l =>
     rw [htys] at h;cases l with
     | cons y l=>cases h
     | nil =>
      simp only at h ⊢;split at h
      ·exact X4d (fun _=>Xg8 hs) h
      ·exact X4d (fun _=>Xg8 hs) h
      ·exact X4d (fun _=>Xg8 hs) h
      ·grind
      ·split at h
       ·grind
       grind
      grind
theorem Xtk {m:Mem} (h:Rel B0 φ m w) (ob:AObj):m.sub (m.push ob):=fun b o hb=>by
 rw [Mem.get_push,if_neg]
 ·exact hb
 ·intro e;rw [h.fresh b (by omega)] at hb;cases hb
def bit (b:List Nat) (i x:Nat):Bool:=(b.getD i 0).testBit x
structure Sch where
 e0:List Nat
 ph:List (Nat × List Nat × List Nat)
def X7t:List (Nat × List Nat × List Nat)->List Nat
 | []=>[]
 | (e,_,es) :: r=>e :: (es ++ X7t r)
def gst (ops:Array Oper) (ρ:Env) (o:Oper):Option Bool:=
 match o.guard with
 | none=>some true
 | some (j,want)=>match (ops[j]?).bind (·.dst) with
  | none=>none
  | some d=>gsv (ρ d) want
def Xu (P:Program) (n:Nat) (ops:Array Oper):List Nat->Env->Mem->(Env->Mem->Option Rs)->Option Rs
 | [],ρ,m,k=>k ρ m
 | i :: is,ρ,m,k=>match ops[i]? with
  | none=>none
  | some o=>match o.guard with
   | none=>opK P (evOp P (opd ρ) m o) (opd ρ) m o fun v m=>Xu P n ops is (put n ρ o.dst v) m k
   | some (j,want)=>match (ops[j]?).bind (·.dst) with
    | none=>none
    | some d=>brt (ρ d)
     (match want with
      | true=>opK P (evOp P (opd (upd n ρ d (.bool true))) m o) (opd (upd n ρ d (.bool true))) m o fun v m=>Xu P n ops is (put n (upd n ρ d (.bool true)) o.dst v) m k
      | false=>Xu P n ops is (put n (upd n ρ d (.bool true)) o.dst undef) m k)
     (match want with
      | true=>Xu P n ops is (put n (upd n ρ d (.bool false)) o.dst undef) m k
      | false=>opK P (evOp P (opd (upd n ρ d (.bool false))) m o) (opd (upd n ρ d (.bool false))) m o fun v m=>Xu P n ops is (put n (upd n ρ d (.bool false)) o.dst v) m k)
     (Xu P n ops is (put n (upd n ρ d undef) o.dst undef) m k)
theorem Xrc {ops:Array Oper} {n:Nat} {j:Nat} (hg:o.guard=some (j,want)) (hd:(ops[j]?).bind (·.dst)=some d) (A B:Env->Option Rs) :
  brt (ρ d) (match (generalizing:=false) want with | true=>A (upd n ρ d (.bool true)) | false=>B (upd n ρ d (.bool true))) (match (generalizing:=false) want with | true=>B (upd n ρ d (.bool false)) | false=>A (upd n ρ d (.bool false))) (B (upd n ρ d undef))=brg (gst ops ρ o) (A ρ) (B ρ):=by
 have e:gst ops ρ o=gsv (ρ d) want:=by unfold gst; rw [hg]; simp only [hd]
 rw [e];unfold brt;split
 ·rename_i h;rw [upd_same h,h];cases want <;> rfl
 ·rename_i h;rw [upd_same h,h];cases want <;> rfl
 ·rename_i h;rw [upd_same (v:=undef) h,h];rfl
 ·rename_i h1 h2 h3;unfold gsv;split
  ·simp_all
  ·grind
  ·rfl
theorem Xfy {P:Program} {n:Nat} {ops:Array Oper} (ho:ops[i]?=some o) (ρ:Env) (m:Mem) (k:Env->Mem->Option Rs) :
  Xu P n ops (i :: is) ρ m k=brg (gst ops ρ o) (bp (evOp P (opd ρ) m o) fun v m=>Xu P n ops is (put n ρ o.dst v) m k) (Xu P n ops is (put n ρ o.dst undef) m k):=by
 simp only [Xu,ho,Xkf];cases hg:o.guard with
 | none =>
  have e:gst ops ρ o=some true:=by unfold gst; rw [hg]
  rw [e]; rfl
 | some jw =>
  obtain ⟨j,want⟩:=jw;simp only;cases hd:(ops[j]?).bind (·.dst) with
  | none =>
   have e:gst ops ρ o=none:=by simp [gst,hg,hd]
   rw [e]; rfl
  | some d =>
   simp only;exact Xrc hg hd (fun ρ=>bp (evOp P _ m o) fun v m=>Xu P n ops is (put n ρ _ v) m k) (fun ρ=>Xu P n ops is (put n ρ _ _) m k)
def again (x:Option (Value × Mem)) (v:Value):Bool:=match x with | some (u,_)=>vsame 8 u v | none=>false
def Xd3 (P:Program) (ops:Array Oper):List Nat->Env->Mem->Bool
 | [],_,_=>true
 | i :: is,ρ,m=>match ops[i]? with
  | none=>false
  | some o=>brc (gst ops ρ o) ((match o.dst with | some d=>again (evOp P (opd ρ) m o) (ρ d) | none=>false) && Xd3 P ops is ρ m) (Xd3 P ops is ρ m)
def chkB (P:Program) (ops:Array Oper) (cs:List Nat) (ρ:Env) (m:Mem) (x:Option Rs):Option Rs:=match cs with | []=>x | _=>ckB (Xd3 P ops cs ρ m) x
def X3y (P:Program) (g:Tab) (n:Nat) (ops:Array Oper):List (Nat × List Nat × List Nat)->Env->Mem->(Env->Mem->Option Rs)->Option Rs
 | [],ρ,m,k=>k ρ m
 | (e,cs,es) :: r,ρ,m,k=>match ops[e]? with
  | none=>none
  | some o=>match o.guard with
   | none=>opK P (X6j P g (opd ρ) m o) (opd ρ) m o fun v m=>chkB P ops cs (put n ρ o.dst v) m (Xu P n ops es (put n ρ o.dst v) m fun ρ m=>X3y P g n ops r ρ m k)
   | some (j,want)=>match (ops[j]?).bind (·.dst) with
    | none=>none
    | some d=>brt (ρ d)
     (match want with
      | true=>opK P (X6j P g (opd (upd n ρ d (.bool true))) m o) (opd (upd n ρ d (.bool true))) m o fun v m=>chkB P ops cs (put n (upd n ρ d (.bool true)) o.dst v) m (Xu P n ops es (put n (upd n ρ d (.bool true)) o.dst v) m fun ρ m=>X3y P g n ops r ρ m k)
      | false=>Xu P n ops es (put n (upd n ρ d (.bool true)) o.dst undef) m fun ρ m=>X3y P g n ops r ρ m k)
     (match want with
      | true=>Xu P n ops es (put n (upd n ρ d (.bool false)) o.dst undef) m fun ρ m=>X3y P g n ops r ρ m k
      | false=>opK P (X6j P g (opd (upd n ρ d (.bool false))) m o) (opd (upd n ρ d (.bool false))) m o fun v m=>chkB P ops cs (put n (upd n ρ d (.bool false)) o.dst v) m (Xu P n ops es (put n (upd n ρ d (.bool false)) o.dst v) m fun ρ m=>X3y P g n ops r ρ m k))
     (Xu P n ops es (put n (upd n ρ d undef) o.dst undef) m fun ρ m=>X3y P g n ops r ρ m k)
theorem Xw4 {P:Program} {ops:Array Oper} {m:Mem} (x:Option Rs):chkB P ops cs ρ m x=bif Xd3 P ops cs ρ m then x else none:=by
 cases cs with
 | nil=>rfl
 | cons c cs =>
  rfl
theorem X7m {P:Program} {g:Tab} {n:Nat} {ops:Array Oper} {r:List (Nat × List Nat × List Nat)} (ho:ops[e]?=some o) (ρ:Env) (m:Mem) (k:Env->Mem->Option Rs) :
  X3y P g n ops ((e,cs,es) :: r) ρ m k=brg (gst ops ρ o) (bp (X6j P g (opd ρ) m o) fun v m=>bif Xd3 P ops cs (put n ρ o.dst v) m then Xu P n ops es (put n ρ o.dst v) m fun ρ m=>X3y P g n ops r ρ m k else none)
   (Xu P n ops es (put n ρ o.dst undef) m fun ρ m=>X3y P g n ops r ρ m k):=by
 simp only [X3y,ho,Xgu,Xw4];cases hg:o.guard with
 | none =>
  have e:gst ops ρ o=some true:=by unfold gst; rw [hg]
  rw [e]; rfl
 | some jw =>
  obtain ⟨j,want⟩:=jw;simp only;cases hd:(ops[j]?).bind (·.dst) with
  | none =>
   have e:gst ops ρ o=none:=by unfold gst; rw [hg]; simp only [hd]
   rw [e]; rfl
  | some d =>
   simp only;exact Xrc hg hd (fun ρ=>bp (X6j P g (opd ρ) m o) fun v m=>bif Xd3 P ops cs (put n ρ o.dst v) m then Xu P n ops es (put n ρ o.dst v) m fun ρ m=>X3y P g n ops r ρ m k else none)
    (fun ρ=>Xu P n ops es (put n ρ o.dst undef) m fun ρ m=>X3y P g n ops r ρ m k)
def Xx1 (P:Program) (g:Tab) (n:Nat) (ops:Array Oper) (s:Sch) (ρ:Env) (m:Mem) (k:Env->Mem->Option Rs):Option Rs:=
 Xu P n ops s.e0 ρ m fun ρ m=>X3y P g n ops s.ph ρ m k
structure St (n:Nat) (ops:Array Oper) (b:List Nat):Prop where
 clo:∀ i x,bit b i x=true->∃ o,ops[i]?=some o/\∃ e ∈ o.after,Region.binds .any e=true/\e.on < i/\(e.on=x\/bit b e.on x=true)
 edg:∀ (i:Nat) (o:Oper),ops[i]?=some o->∀ e ∈ o.after,Region.binds .any e=true->bit b i e.on=true
 dst:∀ (i j:Nat) (o p:Oper) (d:Nat),ops[i]?=some o->ops[j]?=some p->o.dst=some d->p.dst=some d->i=j
 dlt:∀ (i:Nat) (o:Oper) (d:Nat),ops[i]?=some o->o.dst=some d->d < n
 look:∀ (i:Nat) (o:Oper) (t x:Nat) (ox:Oper),ops[i]?=some o->t ∈ Oper.looksAt ops o->ops[x]?=some ox->ox.dst=some t->x ≠ i->bit b i x=true\/bit b x i=true
 opd:∀ (i:Nat) (o:Oper),ops[i]?=some o->o.op.operands.toList.all Xmf=true
def X6p (ops:Array Oper) (b:List Nat) (done:List Nat) (i:Nat):Bool:=(List.range ops.size).all fun x=>!bit b i x || done.contains x
def kindOk (P:Program) (ops:Array Oper) (i:Nat):Bool:=match ops[i]? with | some o=>X7y P o.op || isRead P o.op || Xf1 P o.op | none=>false
def X6o (P:Program) (ops:Array Oper) (i:Nat):Bool:=match ops[i]? with | some o=>isRead P o.op && !X7y P o.op | none=>false
def Xco (ops:Array Oper) (b:List Nat) (i:Nat):Bool:=match ops[i]? with
 | some o=>(Oper.looksAt ops o).all fun t=>(List.range ops.size).all fun x=>match ops[x]? with | some ox=>ox.dst != some t || bit b i x | none=>true
 | none=>false
def X69 (P:Program) (ops:Array Oper) (b:List Nat):List Nat->List Nat->Bool
 | _,[]=>true
 | done,i :: is=>Nat.blt i ops.size && !done.contains i && X6p ops b done i && kindOk P ops i && X69 P ops b (i :: done) is
def okPh (P:Program) (ops:Array Oper) (b:List Nat):List Nat->List (Nat × List Nat × List Nat)->Bool
 | done,[]=>(List.range ops.size).all done.contains
 | done,(e,cs,es) :: r=>Nat.blt e ops.size && !done.contains e && X6p ops b done e && ((es ++ X7t r).all fun i=>bit b i e) &&
   (done.all fun i=>!X6o P ops i || bit b e i || cs.contains i) && (cs.all fun i=>Xco ops b i) && X69 P ops b (e :: done) es && okPh P ops b (es.reverse ++ e :: done) r
def Xsl (P:Program) (ops:Array Oper) (b:List Nat) (s:Sch):Bool:=X69 P ops b [] s.e0 && okPh P ops b s.e0.reverse s.ph
variable {P:Program} {W0:World} {g:Tab} {n:Nat} {ops:Array Oper} {b:List Nat}
def Pend (P:Program) (ops:Array Oper) (b:List Nat) (ρ0:Env) (m0:Mem) (al:List (Nat × Nat)) (φ:Pmap) (ρ:Env) (m:Mem) (i:Nat):Prop:=
  ∃ o G,ops[i]?=some o /\
    (∀ t ∈ Oper.looksAt ops o,∀ x ox,ops[x]?=some ox->ox.dst=some t->bit b i x=true->G t=ρ t) /\
    (∀ t ∈ Oper.looksAt ops o,(∀ x ox,ops[x]?=some ox->bit b i x=true->ox.dst ≠ some t)->G t=ρ0 t) /\
    ∃ v,(∀ d,o.dst=some d->ρ d=v) /\
      ((gst ops G o=some false/\v=undef) \/
       (gst ops G o=some true /\
          ((X7y P o.op=true/\evOp P (opd G) m o=some (v,m))\/(isRead P o.op=true/\X7y P o.op=false/\evOp P (opd G) m o=some (v,m)) \/
            (∃ ob nv bk,aOf P (opd G) o=some (ob,nv)/\v=nv.val bk/\φ bk=none/\m.get bk=some ob/\(i,bk) ∈ al/\m0.next <= bk))))
def lst (listed:Array Bool) (i:Nat):Prop:=listed.getD i false=true
structure DInv (D:List Deferred) (P:Program) (W0:World) (n:Nat) (ops:Array Oper) (b:List Nat) (ρ0:Env) (φ0:Pmap) (m0:Mem) (w0:World) (done:List Nat) (al:List (Nat × Nat)) (listed:Array Bool) (φ:Pmap) (ρ:Env) (m:Mem) (a:Act) (w:World):Prop where
 rel0:Rel W0.heap.size φ0 m0 w0
 below0:Below W0.heap.size W0 w0
 rel:Rel W0.heap.size φ m w
 below:Below W0.heap.size W0 w
 size:a.tmps.size=n
 defers:a.defers=D
 low:m.low <= m.next
 stp:Stp φ0 m0 w0 φ m w
 lsz:listed.size=ops.size
 ld:∀ i,lst listed i->i ∈ done
 ldown:∀ i x,lst listed i->bit b i x=true->lst listed x
 ddown:∀ i x,i ∈ done->bit b i x=true->x ∈ done
 env1:∀ x o t,lst listed x->ops[x]?=some o->o.dst=some t->VRel φ (ρ t) (a.tmps.getD t undef)
 env0:∀ t,(∀ x o,lst listed x->ops[x]?=some o->o.dst ≠ some t)->VRel φ (ρ0 t) (a.tmps.getD t undef)
 old:∀ t,(∀ x o,x ∈ done->ops[x]?=some o->o.dst ≠ some t)->ρ t=ρ0 t
 pend:∀ i,i ∈ done->¬ lst listed i->Pend P ops b ρ0 m0 al φ ρ m i
 alin:∀ p q,p ∈ al->q ∈ al->p.2=q.2->p=q
 allt:∀ p,p ∈ al->p.2 < m.next
theorem Xbg {n:Nat} {t:Nat} (h:dst ≠ some t):put n ρ dst v t=ρ t:=by
 cases dst with
 | none=>rfl
 | some d =>
  simp only [put,upd];cases hb:Nat.beq t d && Nat.blt d n
  ·rfl
  simp_all
theorem Xlo {n:Nat} (h:d < n):put n ρ (some d) v d=v:=by
 simp only [put,upd];have:(Nat.beq d d && Nat.blt d n)=true:=by
  simp only [Bool.and_eq_true];exact ⟨Nat.beq_refl d,by simp_all⟩
 grind
theorem X4o (hS:St n ops b) (hi:i < ops.size) (h:X6p ops b done i=true):∀ x,bit b i x=true->x ∈ done:=by
 intro x hx;have hxs:x < i:=by
  have key:∀ k i,i <= k->bit b i x=true->x < i:=by
   intro k
   induction k with
   | zero =>
    intro i hi hx;obtain ⟨o,_,e,_,_,h3,_⟩:=hS.clo i x hx;omega
   | succ k ih =>
    intro i hi hx;obtain ⟨o,_,e,_,_,h3,h4⟩:=hS.clo i x hx
    grind
  exact key i i (Nat.le_refl _) hx
 unfold X6p at h
 grind
theorem Pend.looks {D:List Deferred} {m0:Mem} {al:List (Nat × Nat)} {m:Mem} (hS:St n ops b) (h:DInv D P W0 n ops b ρ0 φ0 m0 w0 done al listed φ ρ m a w) (ho:ops[i]?=some o) (hi:¬ lst listed i) (hpre:∀ x,bit b i x=true->lst listed x) (h1:∀ t ∈ Oper.looksAt ops o,∀ x ox,ops[x]?=some ox->ox.dst=some t->bit b i x=true->G t=ρ t) (h0:∀ t ∈ Oper.looksAt ops o,(∀ x ox,ops[x]?=some ox->bit b i x=true->ox.dst ≠ some t)->G t=ρ0 t):∀ t ∈ Oper.looksAt ops o,VRel φ (G t) (a.tmps.getD t undef):=by
 intro t ht;by_cases hx:∃ x ox,ops[x]?=some ox/\ox.dst=some t/\bit b i x=true
 ·obtain ⟨x,ox,q1,q2,q3⟩:=hx;rw [h1 t ht x ox q1 q2 q3];exact h.env1 x ox t (hpre x q3) q1 q2
 ·have hno:∀ x ox,ops[x]?=some ox->bit b i x=true->ox.dst ≠ some t:=fun x ox q1 q2 q3=>hx ⟨x,ox,q1,q3,q2⟩;rw [h0 t ht hno];refine h.env0 t fun x ox q1 q2 q3=>?_;have hne:x ≠ i:=fun e=>hi (e ▸ q1);rcases hS.look i o t x ox ho ht q2 q3 hne with q | q
  ·grind
  ·exact hi (h.ldown x i q1 q)
theorem X9y (h:∀ t ∈ Oper.looksAt ops o,VRel φ (G t) (a.tmps.getD t undef)) (hok:o.op.operands.toList.all Xmf=true):∀ x ∈ o.op.operands.toList,VRel φ (opd G x) (a.eval x):=by
 intro x hx;have:=List.all_eq_true.1 hok x hx;cases x with
 | tmp t=>exact h t (by unfold Oper.looksAt; grind)
 | const v=>exact X1d this
 | global g=>trivial
 | func f=>exact .func _ _ _ _ _ .nil .nil
theorem X7p (h:∀ t ∈ Oper.looksAt ops o,VRel φ (G t) (a.tmps.getD t undef)) (hg:gst ops G o=some c):Region.wanted o (yielded ops a.tmps)=c:=by
 unfold gst at hg;unfold Region.wanted;cases hgd:o.guard with
 | none=>grind
 | some jw =>
  obtain ⟨j,want⟩:=jw;rw [hgd] at hg;simp only at hg ⊢;cases hd:(ops[j]?).bind (·.dst) with
  | none=>grind
  | some d =>
   rw [hd] at hg;simp only at hg;have hr:=h d (by simp [Oper.looksAt,hgd,hd]);unfold gsv at hg;split at hg
   ·rename_i bb hb;cases hg;rw [hb] at hr;generalize hc:a.tmps.getD d _=c at hr;cases hr;have:a.tmps[d]?=some (.bool bb):=by
     rw [Array.getD_eq_getD_getElem?] at hc;cases hx:a.tmps[d]? with
     | none=>rw [hx] at hc; cases hc
     | some y=>grind
    have hy:yielded ops a.tmps j=some bb:=by simp [yielded,hd,this]
    grind
   ·rename_i hb;cases hg;rw [hb] at hr;generalize hc:a.tmps.getD d _=c at hr;have hy:yielded ops a.tmps j=none:=by
     cases hr with
     | tuple _ a' hl =>
      cases a' with
      | mk l =>
       simp only at hl;cases hl;rw [Array.getD_eq_getD_getElem?] at hc;cases hx:a.tmps[d]? with
       | none=>simp [yielded,hd,hx]
       | some y=>rw [hx] at hc; simp at hc; simp [yielded,hd,hx,hc]
    grind
   grind
variable {D:List Deferred}
variable {P:Program} {W0:World} {g:Tab} {n:Nat} {ops:Array Oper} {b:List Nat}
theorem X2l {x:Nat} (hi:i < listed.size):lst (listed.setIfInBounds i true) x ↔ x=i\/lst listed x:=by
 unfold lst;by_cases hx:x=i
 ·simp_all
 ·have:(listed.setIfInBounds i _).getD x _=listed.getD x _:=getD_set_ne false (Ne.symm hx)
  grind
theorem lt_of_some (h:ops[i]?=some o):i < ops.size:=(Array.getElem?_eq_some_iff.1 h).1
theorem Xmj {m0:Mem} {al:List (Nat × Nat)} {m:Mem} (hS:St n ops b) (h:DInv D P W0 n ops b ρ0 φ0 m0 w0 done al listed φ ρ m a w) {k:Env->Mem->Option Rs} {r:Rs} (hn:i ∉ done) (hpre:∀ x,bit b i x=true->x ∈ done) (hk:kindOk P ops i=true) (hr:Xu P n ops (i :: is) ρ m k=some r):∃ al' ρ' m',DInv D P W0 n ops b ρ0 φ0 m0 w0 (i :: done) al' listed φ ρ' m' a w/\Xu P n ops is ρ' m' k=some r:=by
 obtain ⟨o,ho⟩:∃ o,ops[i]?=some o:=by
  unfold kindOk at hk
  grind
 rw [Xfy ho] at hr
 -- what stays the same whatever has come
 have main:∀ (v:Value) (m':Mem) (al':List (Nat × Nat)),Rel W0.heap.size φ m' w->m'.low <= m'.next->Stp φ0 m0 w0 φ m' w->m.sub m'->m.next <= m'.next->(∀ p,p ∈ al->p ∈ al')->(∀ p q,p ∈ al'->q ∈ al'->p.2=q.2->p=q)->(∀ p,p ∈ al'->p.2 < m'.next) ->
   ((gst ops ρ o=some false/\v=undef)\/(gst ops ρ o=some true /\
     ((X7y P o.op=true/\evOp P (opd ρ) m' o=some (v,m'))\/(isRead P o.op=true/\X7y P o.op=false/\evOp P (opd ρ) m' o=some (v,m')) \/
      (∃ ob nv bk,aOf P (opd ρ) o=some (ob,nv)/\v=nv.val bk/\φ bk=none/\m'.get bk=some ob/\(i,bk) ∈ al'/\m0.next <= bk)))) ->
   DInv D P W0 n ops b ρ0 φ0 m0 w0 (i :: done) al' listed φ (put n ρ o.dst v) m' a w:=by
  intro v m' al' q1 q2 q3 q4 q5 q6 q7 q8 q9
  -- slots that were written ahead keep their values
  have keep:∀ (x:Nat) (ox:Oper) (t:Nat),x ∈ done->ops[x]?=some ox->ox.dst=some t->put n ρ o.dst v t=ρ t:=by
   intro x ox t hx hox ht;refine Xbg fun e=>hn ?_;rw [hS.dst i x o ox t ho hox e ht];exact hx
  refine ⟨h.rel0,h.below0,q1,h.below,h.size,h.defers,q2,q3,h.lsz,fun j hj=>List.mem_cons_of_mem _ (h.ld j hj),h.ldown,?_,?_,h.env0,?_,?_,q7,q8⟩
  ·intro j x hj hx;rcases List.mem_cons.1 hj with rfl | hj
   ·grind
   ·exact List.mem_cons_of_mem _ (h.ddown j x hj hx)
  ·intro x ox t hx hox ht;rw [keep x ox t (h.ld x hx) hox ht];exact h.env1 x ox t hx hox ht
  ·intro t ht;rw [Xbg (ht i o List.mem_cons_self ho)];exact h.old t fun x ox hx hox=>ht x ox (List.mem_cons_of_mem _ hx) hox
  ·intro j hj hjl;rcases List.mem_cons.1 hj with rfl | hj
   ·refine ⟨o,ρ,ho,?_,?_,v,?_,q9⟩
    ·grind
    ·intro t ht hno;refine h.old t fun x ox hx hox hd=>?_;have hne:x ≠ j:=fun e=>hn (e ▸ hx);rcases hS.look j o t x ox ho ht hox hd hne with q | q
     ·grind
     ·exact hn (h.ddown x j hx q)
    ·intro d hd;rw [hd];exact Xlo (hS.dlt j o d ho hd)
   ·obtain ⟨oj,G,p1,p2,p3,u,p4,p5⟩:=h.pend j hj hjl;refine ⟨oj,G,p1,?_,p3,u,?_,?_⟩
    ·intro t ht x ox hox hd hb;rw [keep x ox t (h.ddown j x hj hb) hox hd]
     grind
    ·grind
    ·rcases p5 with p5 | ⟨p5,p6 | p6 | p6⟩
     ·exact .inl p5
     ·exact .inr ⟨p5,.inl ⟨p6.1,(Xcd p6.1 p6.2).2 m'⟩⟩
     ·exact .inr ⟨p5,.inr (.inl ⟨p6.1,p6.2.1,Xsm q4 p6.1 p6.2.2⟩)⟩
     ·obtain ⟨ob,nv,bk,s1,s2,s3,s4,s5,s6⟩:=p6;exact .inr ⟨p5,.inr (.inr ⟨ob,nv,bk,s1,s2,s3,q4 _ _ s4,q6 _ s5,s6⟩)⟩
 unfold brg at hr;split at hr
 ·cases hr
 ·rename_i hg;obtain ⟨v,m',e1,e2⟩:=Xgp hr;unfold kindOk at hk;rw [ho] at hk;simp at hk;by_cases hp:X7y P o.op=true
  ·obtain ⟨rfl,_⟩:=Xcd hp e1;exact ⟨al,_,_,main v m' al h.rel h.low h.stp (fun _ _ q=>q) (Nat.le_refl _) (fun _ q=>q) h.alin h.allt (.inr ⟨hg,.inl ⟨hp,e1⟩⟩),e2⟩
  ·by_cases hrd:isRead P o.op=true
   ·have:=Xi4 hrd e1;subst this;exact ⟨al,_,_,main v m' al h.rel h.low h.stp (fun _ _ q=>q) (Nat.le_refl _) (fun _ q=>q) h.alin h.allt (.inr ⟨hg,.inr (.inl ⟨hrd,by grind,e1⟩)⟩),e2⟩
   ·have hal:Xf1 P o.op=true:=by
     rcases hk with (hk | hk) | hk
     ·grind
     ·grind
     ·exact hk
    obtain ⟨ob,nv,s1,rfl,rfl⟩:=Xyz hal e1;obtain ⟨t1,t2,t3⟩:=Xp5 h.rel ob;have hmn:=h.stp.next;refine ⟨(i,m.next) :: al,_,_,main _ _ _ t1 (by have:=h.low; simp; omega) (t3 _ _ _ h.stp) (Xtk h.rel ob) (by simp) (fun _ q=>List.mem_cons_of_mem _ q) ?_ ?_ (.inr ⟨hg,.inr (.inr ⟨ob,nv,m.next,s1,rfl,t2,by rw [Mem.get_push,if_pos rfl],List.mem_cons_self,hmn⟩)⟩),e2⟩
    ·intro p q hp hq e;rcases List.mem_cons.1 hp with rfl | hp <;> rcases List.mem_cons.1 hq with rfl | hq
     ·rfl
     ·have:=h.allt q hq; grind
     ·have:=h.allt p hp; grind
     ·exact h.alin p q hp hq e
    ·intro p hp;rcases List.mem_cons.1 hp with rfl | hp
     ·simp
     ·have:=h.allt p hp; simp; omega
 ·rename_i hg;exact ⟨al,_,_,main undef m al h.rel h.low h.stp (fun _ _ q=>q) (Nat.le_refl _) (fun _ q=>q) h.alin h.allt (.inl ⟨hg,rfl⟩),hr⟩
theorem X4k {ρ0:Env} {φ0:Pmap} {m0:Mem} {w0:World} {listed:Array Bool} {φ:Pmap} {a:Act} {w:World} (hS:St n ops b) {k:Env->Mem->Option Rs} {r:Rs} :
  ∀ (is:List Nat) (done:List Nat) (al:List (Nat × Nat)) (ρ:Env) (m:Mem),DInv D P W0 n ops b ρ0 φ0 m0 w0 done al listed φ ρ m a w->X69 P ops b done is=true->Xu P n ops is ρ m k=some r ->
   ∃ al' ρ' m',DInv D P W0 n ops b ρ0 φ0 m0 w0 (is.reverse ++ done) al' listed φ ρ' m' a w/\k ρ' m'=some r
 | [],done,al,ρ,m,h,_,hr=>⟨al,ρ,m,h,hr⟩
 | i :: is,done,al,ρ,m,h,hok,hr=>by
  simp only [X69,Bool.and_eq_true] at hok;obtain ⟨⟨⟨⟨k1,k2⟩,k3⟩,k4⟩,k5⟩:=hok;have hi:i < ops.size:=by simp [Nat.blt,Nat.ble_eq] at k1; omega
  obtain ⟨al1,ρ1,m1,h1,hr1⟩:=Xmj hS h (by simpa using k2) (X4o hS hi k3) k4 hr;obtain ⟨al2,ρ2,m2,h2,hr2⟩:=X4k hS is _ al1 ρ1 m1 h1 k5 hr1
  grind
variable {D:List Deferred}
variable {P:Program} {W0:World} {g:Tab} {n:Nat} {ops:Array Oper} {b:List Nat}
theorem Xij {m0:Mem} {al:List (Nat × Nat)} {m:Mem} {Q:Exit->Act->World->Prop} (hS:St n ops b) (h:DInv D P W0 n ops b ρ0 φ0 m0 w0 done al listed φ ρ m a w) (hi:i ∈ done) (hnl:¬ lst listed i) (hpre:∀ x,bit b i x=true->lst listed x) {K:Act->World->Prop} (hK:∀ φ' a' w',DInv D P W0 n ops b ρ0 φ0 m0 w0 done al (listed.setIfInBounds i true) φ' ρ m a' w'->K a' w'):wpOp P ops Q i K a w:=by
 obtain ⟨o,G,ho,p2,p3,v,p4,p5⟩:=h.pend i hi hnl;have his:=lt_of_some ho;have hls:i < listed.size:=by rw [h.lsz]; exact his
 have hlk:=Pend.looks hS h ho hnl hpre p2 p3;have hop:=X9y hlk (hS.opd i o ho)
 -- behind it
 have fin:∀ (φ':Pmap) (cv:Value) (w':World),Rel W0.heap.size φ' m w'->Below W0.heap.size W0 w'->VRel φ' v cv->φ.le φ'->Stp φ0 m0 w0 φ' m w'->(∀ j bk,(j,bk) ∈ al->j ≠ i->φ bk=none->φ' bk=none)->K (a.put o.dst cv) w':=by
  intro φ' cv w' q1 qb q2 q3 q4 q5;have tm:∀ t,o.dst ≠ some t->(a.put o.dst cv).tmps.getD t undef=a.tmps.getD t undef:=by
   intro t ht;cases hd:o.dst with
   | none=>rfl
   | some d =>
    have hne:d ≠ t:=fun e=>ht (by rw [hd,e]);simp only [Act.put,Array.getD_eq_getD_getElem?];rw [Array.getElem?_setIfInBounds_ne hne]
  have td:∀ d,o.dst=some d->(a.put o.dst cv).tmps.getD d undef=cv:=by
   intro d hd;rw [hd];have:=hS.dlt i o d ho hd;simp only [Act.put,Array.getD_eq_getD_getElem?];rw [Array.getElem?_setIfInBounds_self_of_lt (by rw [h.size]; exact this)];rfl
  refine hK φ' _ w' ⟨h.rel0,h.below0,q1,qb,by rw [Xbq]; exact h.size,by rw [Ab.put_defers]; exact h.defers,h.low,q4,by simp [h.lsz],?_,?_,h.ddown,?_,?_,h.old,?_,h.alin,h.allt⟩
  ·intro x hx;rcases (X2l hls).1 hx with rfl | hx
   ·exact hi
   ·exact h.ld x hx
  ·intro x y hx hy;refine (X2l hls).2 ?_;rcases (X2l hls).1 hx with rfl | hx
   ·grind
   ·exact .inr (h.ldown x y hx hy)
  ·intro x ox t hx hox ht;rcases (X2l hls).1 hx with rfl | hx2
   ·grind
   ·have hne:o.dst ≠ some t:=fun e=>by
     have:=hS.dst x i ox o t hox ho ht e
     grind
    rw [tm t hne];exact (h.env1 x ox t hx2 hox ht).mono q3
  ·intro t ht;have hne:o.dst ≠ some t:=ht i o ((X2l hls).2 (.inl rfl)) ho;rw [tm t hne];exact (h.env0 t fun x ox hx hox=>ht x ox ((X2l hls).2 (.inr hx)) hox).mono q3
  ·intro j hj hjl;have hji:j ≠ i:=fun e=>hjl ((X2l hls).2 (.inl e));have hjl':¬ lst listed j:=fun e=>hjl ((X2l hls).2 (.inr e));obtain ⟨oj,Gj,s1,s2,s3,u,s4,s5⟩:=h.pend j hj hjl';refine ⟨oj,Gj,s1,s2,s3,u,s4,?_⟩;rcases s5 with s5 | ⟨s5,s6 | s6 | s6⟩
   ·exact .inl s5
   ·exact .inr ⟨s5,.inl s6⟩
   ·exact .inr ⟨s5,.inr (.inl s6)⟩
   ·obtain ⟨ob,nv,bk,r1,r2,r3,r4,r5,r6⟩:=s6;exact .inr ⟨s5,.inr (.inr ⟨ob,nv,bk,r1,r2,q5 j bk r5 hji r3,r4,r5,r6⟩)⟩
 unfold wpOp;simp only [ho];rcases p5 with ⟨p5,rfl⟩ | ⟨p5,p6⟩
 ·rw [X7p hlk p5];simp only [Bool.false_eq_true,if_false];exact fin φ undef w h.rel h.below X2u (.refl φ) h.stp (fun _ _ _ _ e=>e)
 ·rw [X7p hlk p5];simp only [if_true];refine .inl ?_;have simple:evOp P (opd G) m o=some (v,m)->o.wp P a w K Q:=fun he=>by
   obtain ⟨cv,w',φ',h1,h2,h3,h4⟩:=Xiu h.rel o hop he;have hk:=fin φ' cv w' h2 (X7b h.rel h.below h4) h3 h4.le (h.stp.trans h4) (fun j bk hj _ e=>(h4.un bk (h.allt _ hj) e).1);unfold Oper.wp;rcases h1 with h1 | ⟨rfl,h1⟩
   ·rw [h1]; exact hk
   ·rw [h1]; exact hk
  rcases p6 with p6 | p6 | p6
  ·grind
  ·grind
  ·obtain ⟨ob,nv,bk,r1,r2,r3,r4,r5,r6⟩:=p6;obtain ⟨cv,w',pl,k1,k2,k3,k4,k5⟩:=Xnh h.rel o hop r1 r3 r4 (h.allt _ r5);have hst:=k5 φ0 m0 w0 h.stp r6;have hbl:=X7b h.rel0 h.below0 hst;have hk:=fin _ cv w' k2 hbl (by grind) k4 hst (fun j bk' hj hji e=>by
    have hne:bk' ≠ bk:=fun e'=>by
     have:=h.alin _ _ hj r5 e'
     grind
    rw [Pmap.upd_other pl hne];exact e)
   unfold Oper.wp;rcases k1 with k1 | ⟨rfl,k1⟩
   ·rw [k1]; exact hk
   ·rw [k1]; exact hk
theorem Xek:∀ {cs:List Nat} {ρ:Env} {m:Mem},Xd3 P ops cs ρ m=true->∀ i ∈ cs,∀ o,ops[i]?=some o->gst ops ρ o ≠ none/\(gst ops ρ o=some true->∃ d u m1,o.dst=some d/\evOp P (opd ρ) m o=some (u,m1)/\u=ρ d)
 | [],_,_,_,i,hi,_,_=>by cases hi
 | c :: cs,ρ,m,h,i,hi,o,ho=>by
  simp only [Xd3] at h;split at h
  ·cases h
  rename_i oc hoc;unfold brc at h;have rest:Xd3 P ops cs ρ m=true:=by
   split at h
   ·cases h
   ·grind
   ·exact h
  rcases List.mem_cons.1 hi with rfl | hi
  ·rw [ho] at hoc;cases hoc;split at h
   ·cases h
   ·rename_i hg;refine ⟨by grind,fun _=>?_⟩;simp at h;have h1:=h.1;split at h1
    ·rename_i d hd;unfold again at h1;split at h1
     ·rename_i u m1 he;exact ⟨d,u,m1,hd,he,Xs4 _ _ _ h1⟩
     grind
    grind
   grind
  ·exact Xek rest i hi o ho
theorem Xon (h:∀ t ∈ Oper.looksAt ops o,ρ t=ρ' t):gst ops ρ o=gst ops ρ' o:=by
 unfold gst;cases hg:o.guard with
 | none=>rfl
 | some jw =>
  obtain ⟨j,want⟩:=jw;simp only;cases hd:(ops[j]?).bind (·.dst) with
  | none=>rfl
  | some d =>
   simp only;rw [h d (by unfold Oper.looksAt; grind)]
theorem Xpo (h:∀ t ∈ Oper.looksAt ops o,ρ t=ρ' t):∀ x ∈ o.op.operands.toList,opd ρ x=opd ρ' x:=by
 intro x hx;cases x with
 | tmp t=>exact h t (by unfold Oper.looksAt; grind)
 | const v=>rfl
 | global g=>rfl
 | func f=>rfl
theorem Xgc (hT:X1f P W0 g) {m0:Mem} {al:List (Nat × Nat)} {m:Mem} {Q:Exit->Act->World->Prop} (hS:St n ops b) (h:DInv D P W0 n ops b ρ0 φ0 m0 w0 done al listed φ ρ m a w) (ho:ops[e]?=some o) (hn:e ∉ done) (hpre:∀ x,bit b e x=true->lst listed x) (hpd:∀ x,bit b e x=true->x ∈ done) (hcs:∀ i ∈ done,X6o P ops i=true->bit b e i=false->i ∈ cs) (hca:∀ i ∈ cs,Xco ops b i=true) {kk:Env->Mem->Option Rs} {r:Rs} (hr:brg (gst ops ρ o) (bp (X6j P g (opd ρ) m o) fun v m=>bif Xd3 P ops cs (put n ρ o.dst v) m then Xu P n ops es (put n ρ o.dst v) m kk else none)
   (Xu P n ops es (put n ρ o.dst undef) m kk)=some r) {K:Act->World->Prop} (hK:∀ φ' ρ' m' a' w',DInv D P W0 n ops b ρ0 φ0 m0 w0 (e :: done) al (listed.setIfInBounds e true) φ' ρ' m' a' w'->Xu P n ops es ρ' m' kk=some r->K a' w'):wpOp P ops Q e K a w:=by
 have hel:¬ lst listed e:=fun x=>hn (h.ld e x);have hls:e < listed.size:=by rw [h.lsz]; exact lt_of_some ho
 -- its operands
 have hρ:∀ t ∈ Oper.looksAt ops o,VRel φ (ρ t) (a.tmps.getD t undef):=by
  refine Pend.looks hS h ho hel hpre (fun _ _ _ _ _ _ _=>rfl) fun t ht hno=>h.old t fun x ox hx hox hd=>?_;have hne:x ≠ e:=fun y=>hn (y ▸ hx);rcases hS.look e o t x ox ho ht hox hd hne with q | q
  ·grind
  ·exact hn (h.ddown x e hx q)
 have hop:=X9y hρ (hS.opd e o ho)
 -- behind it
 have fin:∀ (φ':Pmap) (v cv:Value) (m':Mem) (w':World),Rel W0.heap.size φ' m' w'->Below W0.heap.size W0 w'->VRel φ' v cv->Stp φ m w φ' m' w' ->
   (∀ i ∈ done,¬ lst listed i->∀ oi G u,ops[i]?=some oi->isRead P oi.op=true->X7y P oi.op=false->(∀ t ∈ Oper.looksAt ops oi,∀ x ox,ops[x]?=some ox->ox.dst=some t->bit b i x=true->G t=ρ t) ->
    (∀ t ∈ Oper.looksAt ops oi,(∀ x ox,ops[x]?=some ox->bit b i x=true->ox.dst ≠ some t)->G t=ρ0 t)->gst ops G oi=some true->(∀ d,oi.dst=some d->ρ d=u)->evOp P (opd G) m oi=some (u,m)->evOp P (opd G) m' oi=some (u,m')) ->
   Xu P n ops es (put n ρ o.dst v) m' kk=some r->K (a.put o.dst cv) w':=by
  intro φ' v cv m' w' q1 qb q2 q3 q4 q5;have keep:∀ (x:Nat) (ox:Oper) (t:Nat),x ∈ done->ops[x]?=some ox->ox.dst=some t->put n ρ o.dst v t=ρ t:=by
   intro x ox t hx hox ht;refine Xbg fun y=>hn ?_;rw [hS.dst e x o ox t ho hox y ht];exact hx
  have tm:∀ t,o.dst ≠ some t->(a.put o.dst cv).tmps.getD t undef=a.tmps.getD t undef:=by
   intro t ht;cases hd:o.dst with
   | none=>rfl
   | some d =>
    have hne:d ≠ t:=fun y=>ht (by grind);simp only [Act.put,Array.getD_eq_getD_getElem?];rw [Array.getElem?_setIfInBounds_ne hne]
  refine hK φ' _ m' _ w' ⟨h.rel0,h.below0,q1,qb,by rw [Xbq]; exact h.size,by rw [Ab.put_defers]; exact h.defers,Nat.le_trans q3.low (Nat.le_trans h.low q3.next),h.stp.trans q3,by simp [h.lsz],?_,?_,?_,?_,?_,?_,?_,h.alin,fun p hp=>Nat.lt_of_lt_of_le (h.allt p hp) q3.next⟩ q5
  ·intro x hx;rcases (X2l hls).1 hx with rfl | hx
   ·simp
   ·exact List.mem_cons_of_mem _ (h.ld x hx)
  ·intro x y hx hy;refine (X2l hls).2 ?_;rcases (X2l hls).1 hx with rfl | hx
   ·grind
   ·exact .inr (h.ldown x y hx hy)
  ·intro x y hx hy;rcases List.mem_cons.1 hx with rfl | hx
   ·grind
   ·exact List.mem_cons_of_mem _ (h.ddown x y hx hy)
  ·intro x ox t hx hox ht;rcases (X2l hls).1 hx with rfl | hx2
   ·rw [ho] at hox;cases hox;have hlt:=hS.dlt x o t ho ht;rw [ht,Xlo hlt];simp only [Act.put,Array.getD_eq_getD_getElem?];rw [Array.getElem?_setIfInBounds_self_of_lt (by rw [h.size]; exact hlt)];exact q2
   ·have hne:o.dst ≠ some t:=fun y=>by
     have:=hS.dst x e ox o t hox ho ht y
     grind
    rw [tm t hne,Xbg hne];exact (h.env1 x ox t hx2 hox ht).mono q3.le
  ·intro t ht;have hne:o.dst ≠ some t:=ht e o ((X2l hls).2 (.inl rfl)) ho;rw [tm t hne];exact (h.env0 t fun x ox hx hox=>ht x ox ((X2l hls).2 (.inr hx)) hox).mono q3.le
  ·intro t ht;rw [Xbg (ht e o List.mem_cons_self ho)];exact h.old t fun x ox hx hox=>ht x ox (List.mem_cons_of_mem _ hx) hox
  ·intro j hj hjl;have hje:j ≠ e:=fun y=>hjl ((X2l hls).2 (.inl y));have hjl':¬ lst listed j:=fun y=>hjl ((X2l hls).2 (.inr y));have hjd:j ∈ done:=by
    grind
   obtain ⟨oj,Gj,s1,s2,s3,u,s4,s5⟩:=h.pend j hjd hjl';refine ⟨oj,Gj,s1,?_,s3,u,?_,?_⟩
   ·intro t ht x ox hox hd hb;rw [keep x ox t (h.ddown j x hjd hb) hox hd]
    grind
   ·grind
   ·rcases s5 with s5 | ⟨s5,s6 | s6 | s6⟩
    ·exact .inl s5
    ·exact .inr ⟨s5,.inl ⟨s6.1,(Xcd s6.1 s6.2).2 m'⟩⟩
    ·exact .inr ⟨s5,.inr (.inl ⟨s6.1,s6.2.1,q4 j hjd hjl' oj Gj u s1 s6.1 s6.2.1 s2 s3 s5 s4 s6.2.2⟩)⟩
    ·obtain ⟨ob,nv,bk,r1,r2,r3,r4,r5,r6⟩:=s6;obtain ⟨y1,y2⟩:=q3.un bk (h.allt _ r5) r3;exact .inr ⟨s5,.inr (.inr ⟨ob,nv,bk,r1,r2,y1,by grind,r5,r6⟩)⟩
 unfold wpOp;simp only [ho];unfold brg at hr;split at hr
 ·cases hr
 ·rename_i hg;rw [X7p hρ hg];simp only [if_true];obtain ⟨v,m',e1,e2⟩:=Xgp hr;refine .inl (Xgm hT h.rel h.below o hop e1 fun cv w' hafter=>?_);obtain ⟨φ',t1,t2,t3⟩:=hafter;cases hc:Xd3 P ops cs (put n ρ o.dst v) m'
  ·grind
  ·rw [hc] at e2;simp at e2;refine fin φ' v cv m' w' t1 (X7b h.rel h.below t3) t2 t3 ?_ e2;intro i hid hil oi G u hoi hrd hnp l1 l0 hgi hu hev;have hbe:bit b e i=false:=by
    cases hb:bit b e i
    ·rfl
    ·grind
   have hin:=hcs i hid (by simp [X6o,hoi,hrd,hnp]) hbe
   -- what it looks at reads now as it read then
   have hsame:∀ t ∈ Oper.looksAt ops oi,put n ρ o.dst v t=G t:=by
    intro t ht;have hab:=hca i hin;simp only [Xco,hoi,List.all_eq_true,List.mem_range] at hab;by_cases hx:∃ (x:Nat) (ox:Oper),ops[x]?=some ox/\ox.dst=some t
    ·obtain ⟨x,ox,hox,hd⟩:=hx;have h1:=hab t ht x (lt_of_some hox);simp only [hox,hd,bne_self_eq_false,Bool.false_or] at h1;rw [l1 t ht x ox hox hd h1];have hxd:=h.ddown i x hid h1;refine Xbg fun y=>hn ?_;rw [hS.dst e x o ox t ho hox y hd];exact hxd
    ·have hno:∀ (x:Nat) (ox:Oper),ops[x]?=some ox->ox.dst ≠ some t:=fun x ox q1 q2=>hx ⟨x,ox,q1,q2⟩;rw [l0 t ht (fun x ox q1 _=>hno x ox q1),Xbg (hno e o ho)];exact h.old t fun x ox _ q=>hno x ox q
   obtain ⟨_,k2⟩:=Xek hc i hin oi hoi;rw [Xon hsame] at k2;obtain ⟨d,u',m1,r1,r2,r3⟩:=k2 hgi;rw [Xnd (Xpo hsame)] at r2;have:=Xi4 hrd r2;subst this;have hud:put n ρ o.dst v d=ρ d:=by
    refine Xbg fun y=>hn ?_;rw [hS.dst e i o oi d ho hoi y r1];exact hid
   grind
 ·rename_i hg;rw [X7p hρ hg];simp only [Bool.false_eq_true,if_false];exact fin φ _ _ m w h.rel h.below X2u (.refl _ _ _) (fun _ _ _ _ _ _ _ _ _ _ _ _ _ e=>e) hr
variable {D:List Deferred}
section
variable {P:Program} {W0:World} {g:Tab} {n:Nat} {ops:Array Oper} {b:List Nat}
def cnt (N:Nat) (listed:Array Bool):Nat:=(List.range N).countP fun i=>!listed.getD i false
theorem Xh7 {p q:Nat->Bool}:∀ {l:List Nat},(∀ x ∈ l,q x=true->p x=true)->(∃ x ∈ l,p x=true/\q x=false)->l.countP q < l.countP p
 | [],_,h=>by grind
 | a :: l,h1,h2=>by
  have hle:=List.countP_mono_left fun x hx=>h1 x (List.mem_cons_of_mem _ hx);rw [List.countP_cons,List.countP_cons];by_cases ha:p a=true/\q a=false
  ·grind
  ·obtain ⟨x,hx,hp,hq⟩:=h2;rcases List.mem_cons.1 hx with rfl | hx
   ·grind
   ·have ih:=Xh7 (fun y hy=>h1 y (List.mem_cons_of_mem _ hy)) ⟨x,hx,hp,hq⟩
    grind
theorem Xnu (hs:listed.size=N) (hi:i < N) (hn:¬ lst listed i):cnt N (listed.setIfInBounds i true) < cnt N listed:=by
 unfold cnt;refine Xh7 (fun x _ hx=>?_) ⟨i,List.mem_range.2 hi,?_,?_⟩
 ·simp only [Bool.not_eq_true'] at hx ⊢;cases hl:listed.getD x false
  ·rfl
  ·have:lst (listed.setIfInBounds i _) x:=(X2l (by omega)).2 (.inr hl);unfold lst at this
   grind
 ·unfold lst at hn
  grind
 simp_all
theorem Xgf:∀ {ph:List (Nat × List Nat × List Nat)} {done:List Nat},okPh P ops b done ph=true->∀ i,i < ops.size->i ∈ done\/i ∈ X7t ph
 | [],done,h,i,hi=>by
  simp only [okPh,List.all_eq_true] at h;simp_all
 | (e,cs,es) :: r,done,h,i,hi=>by
  simp only [okPh,Bool.and_eq_true] at h;rcases Xgf h.2 i hi with q | q
  ·rcases List.mem_append.1 q with q | q
   ·exact .inr (by grind [X7t,List.mem_cons_of_mem,List.mem_append_left,List.mem_reverse.1])
   ·rcases List.mem_cons.1 q with rfl | q
    ·exact .inr (by simp [X7t])
    grind
  ·exact .inr (by grind [X7t,List.mem_cons_of_mem,List.mem_append_right])
theorem Xxs (hS:St n ops b):∀ (k i x:Nat),i <= k->bit b i x=true->x < i:=by
 intro k
 induction k with
 | zero =>
  intro i x hi hx;obtain ⟨o,_,e,_,_,h3,_⟩:=hS.clo i x hx;omega
 | succ k ih =>
  intro i x hi hx;obtain ⟨o,_,e,_,_,h3,h4⟩:=hS.clo i x hx
  grind
theorem Xb9 (hS:St n ops b) (hs:listed.size=ops.size) (h:Region.ready .any ops listed=[]):∀ i,i < ops.size->lst listed i:=by
 intro i
 induction i using Nat.strongRecOn with
 | ind i ih =>
  intro hi;cases hl:listed.getD i false
  ·exfalso;have hmem:i ∈ Region.ready .any ops listed:=by
    rw [mem_ready];refine ⟨?_,ops[i],by simp [],fun e he hb=>?_⟩
    ·grind
    ·have hbit:=hS.edg i _ (by simp [hi]) e he hb;have hlt:=Xxs hS i i _ (Nat.le_refl _) hbit;exact ih _ hlt (by omega)
   grind
  trivial
theorem any_ok (hT:X1f P W0 g) (hS:St n ops b) {m0:Mem} {Q:Exit->Act->World->Prop} {k:Env->Mem->Option Rs} {r:Rs} (hQ:∀ φ ρ m a w,Cfg D W0 n φ ρ m a w->Stp φ0 m0 w0 φ m w->k ρ m=some r->Q .normal a w) :
  ∀ (fuel:Nat) (listed:Array Bool) (done:List Nat) (al:List (Nat × Nat)) (φ:Pmap) (ρ:Env) (m:Mem) (a:Act) (w:World) (ph:List (Nat × List Nat × List Nat)),
   DInv D P W0 n ops b ρ0 φ0 m0 w0 done al listed φ ρ m a w->okPh P ops b done ph=true->X3y P g n ops ph ρ m k=some r->cnt ops.size listed <= fuel->wpAny P .any ops Q fuel listed a w:=by
 -- the end
 have fin:∀ (listed:Array Bool) (done:List Nat) (al:List (Nat × Nat)) (φ:Pmap) (ρ:Env) (m:Mem) (a:Act) (w:World) (ph:List (Nat × List Nat × List Nat)),
   DInv D P W0 n ops b ρ0 φ0 m0 w0 done al listed φ ρ m a w->okPh P ops b done ph=true->X3y P g n ops ph ρ m k=some r->(∀ i,i < ops.size->lst listed i)->Q .normal a w:=by
  intro listed done al φ ρ m a w ph h hok hr hall;cases ph with
  | cons p ph =>
   obtain ⟨e,cs,es⟩:=p;simp only [okPh,Bool.and_eq_true] at hok;obtain ⟨⟨⟨⟨⟨⟨⟨k1,k2⟩,_⟩,_⟩,_⟩,_⟩,_⟩,_⟩:=hok;have he:e < ops.size:=by simp [Nat.blt,Nat.ble_eq] at k1; omega
   have:=h.ld e (hall e he);simp at k2;exact absurd this k2
  | nil =>
   simp only [X3y] at hr;refine hQ φ ρ m a w ⟨h.rel,h.below,fun t=>?_,h.size,h.defers,h.low⟩ h.stp hr;by_cases hx:∃ (x:Nat) (o:Oper),ops[x]?=some o/\o.dst=some t
   ·obtain ⟨x,o,ho,hd⟩:=hx;exact h.env1 x o t (hall x (lt_of_some ho)) ho hd
   ·have hno:∀ (x:Nat) (o:Oper),ops[x]?=some o->o.dst ≠ some t:=fun x o q1 q2=>hx ⟨x,o,q1,q2⟩;rw [h.old t fun x o _ q=>hno x o q];exact h.env0 t fun x o _ q=>hno x o q
 intro fuel
 induction fuel with
 | zero =>
  intro listed done al φ ρ m a w ph h hok hr hc;have hall:∀ i,i < ops.size->lst listed i:=fun i hi=>by
   unfold cnt at hc;have h0:=Nat.le_zero.1 hc;rw [List.countP_eq_zero] at h0;have:=h0 i (List.mem_range.2 hi);simpa [lst] using this
  refine ⟨?_,fin _ _ al φ ρ m a w ph h hok hr hall⟩;cases hrd:Region.ready .any ops listed with
  | nil=>rfl
  | cons i l =>
   exfalso;have hi:i ∈ Region.ready .any ops listed:=by grind
   obtain ⟨q1,o,q2,_⟩:=mem_ready.1 hi;have:=hall i (lt_of_some q2);unfold lst at this
   grind
 | succ fuel ih =>
  intro listed done al φ ρ m a w ph h hok hr hc;refine ⟨fun hrd=>fin _ _ al φ ρ m a w ph h hok hr (Xb9 hS h.lsz hrd),fun i hi=>?_⟩;obtain ⟨q1,o,ho,q3⟩:=mem_ready.1 hi;have his:=lt_of_some ho;have hnl:¬ lst listed i:=fun hl=>by
   unfold lst at hl
   grind
  have hpre:∀ x,bit b i x=true->lst listed x:=fun x hx=>by
   obtain ⟨o',ho',e,he,hb,_,h4⟩:=hS.clo i x hx;rw [ho] at ho';cases ho';have hle:lst listed e.on:=q3 e he hb;rcases h4 with rfl | h4
   ·exact hle
   ·exact h.ldown e.on x hle h4
  have hcnt:=Xnu h.lsz his hnl;by_cases hid:i ∈ done
  ·exact Xij hS h hid hnl hpre fun φ' a' w' h'=>ih _ _ al φ' ρ m a' w' ph h' hok hr (by omega)
  ·rcases Xgf hok i his with q | q
   ·grind
   cases ph with
   | nil=>trivial
   | cons p ph =>
    obtain ⟨e,cs,es⟩:=p;have hok':=hok;simp only [okPh,Bool.and_eq_true] at hok';obtain ⟨⟨⟨⟨⟨⟨⟨k1,k2⟩,k3⟩,k4⟩,k5⟩,k6⟩,k7⟩,k8⟩:=hok';have he:e < ops.size:=by simp [Nat.blt,Nat.ble_eq] at k1; omega
    have hne:e ∉ done:=by simpa using k2
    have hie:i=e:=by
     simp only [X7t] at q;rcases List.mem_cons.1 q with q | q
     ·exact q
     ·exfalso;rw [List.all_eq_true] at k4;exact hne (h.ld e (hpre e (k4 i q)))
    subst hie;have hoe:=ho;rw [X7m ho] at hr;refine Xgc hT hS h ho hid hpre (X4o hS he k3) (fun j hj hn hb=>?_) (fun j hj=>List.all_eq_true.1 k6 j hj) hr ?_
    ·grind
    ·intro φ' ρ' m' a' w' h' hr';obtain ⟨al2,ρ2,m2,h2,hr2⟩:=X4k hS es _ al ρ' m' h' k7 hr'
     grind
theorem Xnl (N:Nat):cnt N (Array.replicate N false) <= N:=by
 unfold cnt;have:=List.countP_le_length (p:=fun i=>!(Array.replicate N false).getD i false) (l:=List.range N)
 grind
theorem Xef (hS:St n ops b) {m:Mem} (hc:Cfg D W0 n φ ρ m a w):DInv D P W0 n ops b ρ φ m w [] [] (Array.replicate ops.size false) φ ρ m a { w with drawn:=w.drawn + 1 }:=by
 have nolst:∀ i,¬ lst (Array.replicate ops.size false) i:=fun i hi=>by
  unfold lst at hi;simp only [Array.getD_eq_getD_getElem?,Array.getElem?_replicate] at hi;split at hi <;> simp at hi
 refine ⟨hc.rel,hc.below,hc.rel.of_heap rfl,⟨hc.below.os,hc.below.tape,hc.below.output,hc.below.size,hc.below.block⟩,hc.size,hc.defers,hc.low,(Stp.refl φ m w).of_heap rfl rfl rfl rfl rfl rfl rfl rfl,by simp,fun i hi=>absurd hi (nolst i),fun i x hi=>absurd hi (nolst i),(fun i x hi=>nomatch hi),fun x o t hx=>absurd hx (nolst x),fun t _=>hc.env t,fun t _=>rfl,(fun i hi=>nomatch hi),(fun p q hp=>nomatch hp),(fun p hp=>nomatch hp)⟩
theorem Xtj (hm:P.follows .mixedOrders=true) (hT:X1f P W0 g) (hS:St n ops b) {s:Sch} (hs:Xsl P ops b s=true) {m:Mem} {k:Env->Mem->Option Rs} {r:Rs} {Q:Exit->Act->World->Prop} (hc:Cfg D W0 n φ ρ m a w) (hr:Xx1 P g n ops s ρ m k=some r) (hQ:∀ φ' ρ' m' a' w',Cfg D W0 n φ' ρ' m' a' w'->Stp φ m w φ' m' w'->k ρ' m'=some r->Q .normal a' w'):(Code.region id ops true).wp P Q a w:=by
 refine wp_region_any hm ?_;unfold Xsl at hs;simp at hs;have h0:=Xef (P:=P) (ops:=ops) (b:=b) hS hc;unfold Xx1 at hr;obtain ⟨al,ρ1,m1,h1,hr1⟩:=X4k hS s.e0 [] [] ρ m h0 hs.1 hr;exact any_ok hT hS hQ _ _ _ al φ ρ1 m1 a _ _ h1 (by simpa using hs.2) hr1 (Xnl _)
end
variable {D:List Deferred}
theorem Tr.put_comm {α:Type}:∀ (f g:Nat) (t:Tr α) (p q:Nat) (x y:α),p <= f->q <= g->1 <= p->1 <= q->p ≠ q->Tr.put f (Tr.put g t q y) p x=Tr.put g (Tr.put f t p x) q y
  | 0,_,_,_,_,_,_,h,_,h1,_,_=>by omega
  | f + 1,0,_,_,_,_,_,_,h,_,h1,_=>by omega
  | f + 1,g + 1,t,p,q,x,y,hp,hq,h1,h2,hne=>by
    have ih:=fun t h3 h4 h5 h6 h7=>Tr.put_comm f g t (p / 2) (q / 2) x y h3 h4 h5 h6 h7;cases t with
    | nil =>
      simp only [Tr.put_nil,X4s];by_cases p1:p=1 <;> by_cases q1:q=1 <;> by_cases pm:p % 2=0 <;> by_cases qm:q % 2=0 <;> simp only [p1,q1,pm,qm,if_true,if_false,Tr.put_node,X4s] <;>
    first
     | omega
     | rfl
          | (rw [ih _ (by omega) (by omega) (by omega) (by omega) (by omega)])
    | node v l r =>
      simp only [ Tr.put_node,X4s];by_cases p1:p=1 <;> by_cases q1:q=1 <;> by_cases pm:p % 2=0 <;> by_cases qm:q % 2=0 <;> simp only [p1,q1,pm,qm,if_true,if_false,Tr.put_node,X4s] <;>
    first
     | omega
     | rfl
          | (rw [ih _ (by omega) (by omega) (by omega) (by omega) (by omega)])
theorem Mem.put_comm (m:Mem) {b c:Nat} (h:b ≠ c) (o u:Raw):(m.putR b o).putR c u=(m.putR c u).putR b o:=by
 simp only [Mem.putR_def];simp only [Mem.mk.injEq,true_and];exact ⟨by omega,Tr.put_comm _ _ _ _ _ _ _ (Nat.le_refl _) (Nat.le_refl _) (by omega) (by omega) (by omega)⟩
theorem Xeo {a:Addr} {m m':Mem} (h:Xd size (.pointer (some a)) v m=some m'):∃ o,m'=m.putR a.block o/\∀ m2:Mem,m2.tr.get (a.block + 1)=m.tr.get (a.block + 1)->Xd size (.pointer (some a)) v m2=some (m2.putR a.block o):=by
 rw [X9r] at h; unfold Xa4 at h;simp only at h;split at h
 ·rename_i hs;obtain ⟨r,r',h1,h2,h3⟩:=Xbl h;refine ⟨r',h3,fun m2 e=>?_⟩;rw [X9r]; unfold Xa4;simp only;rw [if_pos hs];show (Option.rec _ (fun r=>Option.rec none (fun r'=>some (m2.putR a.block r')) (X9m r a.off a.spot v.cells.toList)) (m2.tr.get (a.block + 1)):Option Mem)=_;simp_all
 grind
theorem Mem.tr_putR (m:Mem) {b c:Nat} (h:b ≠ c) (o:Raw):(m.putR b o).tr.get (c + 1)=m.tr.get (c + 1):=by
 rw [Mem.putR_def];show Tr.get (Tr.put (b + 1) _ _ o) _=_;rw [Tr.get_put _ _ _ _ _ (by omega) (by omega) (Nat.le_refl _),if_neg (by omega)]
theorem Xmt {s1 s2:Nat} {a1 a2:Addr} {v1 v2:Value} {m m1 m2:Mem} (hne:a1.block ≠ a2.block) (h1:Xd s1 (.pointer (some a1)) v1 m=some m1) (h2:Xd s2 (.pointer (some a2)) v2 m1=some m2) :
  ∃ n1,Xd s2 (.pointer (some a2)) v2 m=some n1/\Xd s1 (.pointer (some a1)) v1 n1=some m2:=by
 obtain ⟨o1,rfl,k1⟩:=Xeo h1;obtain ⟨o2,rfl,k2⟩:=Xeo h2;refine ⟨m.putR _ o2,k2 m (Mem.tr_putR m hne o1).symm,?_⟩;rw [k1 _ (Mem.tr_putR m (Ne.symm hne) o2),Mem.put_comm m hne]
def X5g (o:Oper):Option (TypeId × Operand × Operand):=match o with
 | { dst:=none,op:=.store t a v,guard:=none,.. }=>some (t,a,v)
 | _=>none
theorem Xc7 {a v:Operand} (h:X5g o=some (t,a,v)):o.dst=none/\o.op=.store t a v/\o.guard=none:=by
 unfold X5g at h
 grind
def dfB {α:Type} (x y:Value) (r:Option α):Option α:=match x,y with
 | .pointer (some a),.pointer (some b)=>(match Nat.beq a.block b.block with | true=>noB | false=>r)
 | _,_=>noB
section
variable {P:Program} {W0:World} {g:Tab} {n:Nat} {ops:Array Oper} {b:List Nat}
def Xm3 (ops:Array Oper) (e1 e2:Nat):Option (Operand × Operand):=match ops[e1]?,ops[e2]? with
 | some o1,some o2=>(match X5g o1,X5g o2 with
  | some (_,a1,_),some (_,a2,_)=>some (a1,a2)
  | _,_=>none)
 | _,_=>none
def Xfw (P:Program) (g:Tab) (n:Nat) (ops:Array Oper) (e1 e2:Nat) (ρ:Env) (m:Mem) (k:Env->Mem->Option Rs):Option Rs:=match Xm3 ops e1 e2 with
 | some (a1,a2)=>dfB (opd ρ a1) (opd ρ a2) (X3y P g n ops [(e1,[],[]),(e2,[],[])] ρ m k)
 | none=>none
theorem X61 {x v:Operand} (ho:ops[e]?=some o) (hs:X5g o=some (t,x,v)) (r:List (Nat × List Nat × List Nat)) (ρ:Env) (m:Mem) (k:Env->Mem->Option Rs) :
  X3y P g n ops ((e,[],[]) :: r) ρ m k=(match P.info? t with | some i=>(match Xd i.size (opd ρ x) (opd ρ v) m with | some m1=>X3y P g n ops r ρ m1 k | none=>none) | none=>none):=by
 obtain ⟨h1,h2,h3⟩:=Xc7 hs;obtain ⟨dst,op,ty,pos,after,guard⟩:=o;simp only at h1 h2 h3;subst h1; subst h2; subst h3;rw [X7m ho];simp only [gst,brg,X6j,evOp];cases P.info? t with
 | none=>rfl
 | some i =>
  simp only;cases hm:Xd i.size (opd ρ x) (opd ρ v) m with
  | none=>rfl
  | some m1=>rfl
theorem Xhj {m:Mem} {k:Env->Mem->Option Rs} {r:Rs} (h:Xfw P g n ops e1 e2 ρ m k=some r) :
  X3y P g n ops [(e1,[],[]),(e2,[],[])] ρ m k=some r/\X3y P g n ops [(e2,[],[]),(e1,[],[])] ρ m k=some r:=by
 unfold Xfw at h;split at h
 ·rename_i a1 a2 hst;unfold dfB at h;split at h
  ·rename_i p q hp hq;split at h
   ·cases h
   ·rename_i hb;have hne:=Nat.ne_of_beq_eq_false hb;refine ⟨h,?_⟩;unfold Xm3 at hst;split at hst
    ·rename_i o1 o2 ho1 ho2;split at hst
     ·rename_i t1 x1 v1 t2 x2 v2 hs1 hs2;cases hst;rw [X61 ho1 hs1] at h;rw [X61 ho2 hs2];split at h
      ·rename_i i1 hi1;split at h
       ·rename_i m1 hm1;rw [X61 ho2 hs2] at h;split at h
        ·rename_i i2 hi2;split at h
         ·rename_i m2 hm2;rw [hp] at hm1;rw [hq] at hm2;obtain ⟨n1,q1,q2⟩:=Xmt hne hm1 hm2;rw [hq,q1];simp only;rw [X61 ho1 hs1,hi1]
          grind
         grind
        omega
       grind
      grind
     grind
    grind
  trivial
 grind
def Xi6 (P:Program) (ops:Array Oper) (b:List Nat) (done:List Nat) (e:Nat):Bool:=
 Nat.blt e ops.size && !done.contains e && X6p ops b done e && (done.all fun i=>!X6o P ops i || bit b e i)
def Xkn (P:Program) (ops:Array Oper) (b:List Nat) (done:List Nat) (e1 e2:Nat):Bool:=
 Xi6 P ops b done e1 && Xi6 P ops b done e2 && okPh P ops b (e1 :: done) [(e2,[],[])] && okPh P ops b (e2 :: done) [(e1,[],[])]
def Xcz (P:Program) (ops:Array Oper) (b:List Nat) (e1 e2:Nat):List Nat->List (Nat × List Nat × List Nat)->Bool
 | done,[]=>Xkn P ops b done e1 e2
 | done,(e,cs,es) :: r=>Nat.blt e ops.size && !done.contains e && X6p ops b done e && ((es ++ (X7t r ++ [e1,e2])).all fun i=>bit b i e) &&
   (done.all fun i=>!X6o P ops i || bit b e i || cs.contains i) && (cs.all fun i=>Xco ops b i) && X69 P ops b (e :: done) es && Xcz P ops b e1 e2 (es.reverse ++ e :: done) r
theorem Xhu {e1 e2:Nat}:∀ {ph:List (Nat × List Nat × List Nat)} {done:List Nat},Xcz P ops b e1 e2 done ph=true->∀ i,i < ops.size->i ∈ done\/i ∈ X7t ph ++ [e1,e2]
 | [],done,h,i,hi=>by
  simp only [Xcz,Xkn,Bool.and_eq_true] at h;rcases Xgf h.1.2 i hi with q | q
  ·grind
  ·simp only [X7t,List.nil_append] at q
   grind
 | (e,cs,es) :: r,done,h,i,hi=>by
  simp only [Xcz,Bool.and_eq_true] at h;rcases Xhu h.2 i hi with q | q
  ·rcases List.mem_append.1 q with q | q
   ·exact .inr (by grind [X7t,List.mem_append_left,List.mem_cons_of_mem,List.mem_reverse.1])
   ·rcases List.mem_cons.1 q with rfl | q
    ·exact .inr (by simp [X7t])
    grind
  ·refine .inr ?_;rcases List.mem_append.1 q with q | q
   ·exact List.mem_append_left _ (by grind [X7t,List.mem_cons_of_mem,List.mem_append_right])
   ·grind
theorem Xw1 (hT:X1f P W0 g) (hS:St n ops b) {m0:Mem} {Q:Exit->Act->World->Prop} {k:Env->Mem->Option Rs} {r:Rs} (hQ:∀ φ ρ m a w,Cfg D W0 n φ ρ m a w->Stp φ0 m0 w0 φ m w->k ρ m=some r->Q .normal a w) :
  ∀ (fuel:Nat) (listed:Array Bool) (done:List Nat) (al:List (Nat × Nat)) (φ:Pmap) (ρ:Env) (m:Mem) (a:Act) (w:World) (ph:List (Nat × List Nat × List Nat)),
   DInv D P W0 n ops b ρ0 φ0 m0 w0 done al listed φ ρ m a w->Xcz P ops b e1 e2 done ph=true->X3y P g n ops ph ρ m (fun ρ m=>Xfw P g n ops e1 e2 ρ m k)=some r->cnt ops.size listed <= fuel->wpAny P .any ops Q fuel listed a w:=by
 have notall:∀ (listed:Array Bool) (done:List Nat) (al:List (Nat × Nat)) (φ:Pmap) (ρ:Env) (m:Mem) (a:Act) (w:World) (ph:List (Nat × List Nat × List Nat)),
   DInv D P W0 n ops b ρ0 φ0 m0 w0 done al listed φ ρ m a w->Xcz P ops b e1 e2 done ph=true->(∀ i,i < ops.size->lst listed i)->False:=by
  intro listed done al φ ρ m a w ph h hok hall;cases ph with
  | cons p ph =>
   obtain ⟨e,cs,es⟩:=p;simp only [Xcz,Bool.and_eq_true] at hok;obtain ⟨⟨⟨⟨⟨⟨⟨k1,k2⟩,_⟩,_⟩,_⟩,_⟩,_⟩,_⟩:=hok;have he:e < ops.size:=by simp_all
   have:=h.ld e (hall e he)
   grind
  | nil =>
   simp only [Xcz,Xkn,Xi6,Bool.and_eq_true] at hok;obtain ⟨⟨⟨⟨⟨⟨k1,k2⟩,_⟩,_⟩,_⟩,_⟩,_⟩:=hok;have he:e1 < ops.size:=by simp_all
   have:=h.ld e1 (hall e1 he);simp at k2;exact absurd this k2
 intro fuel
 induction fuel with
 | zero =>
  intro listed done al φ ρ m a w ph h hok hr hc;have hall:∀ i,i < ops.size->lst listed i:=fun i hi=>by
   unfold cnt at hc;have h0:=Nat.le_zero.1 hc;rw [List.countP_eq_zero] at h0;have:=h0 i (List.mem_range.2 hi);simpa [lst] using this
  grind
 | succ fuel ih =>
  intro listed done al φ ρ m a w ph h hok hr hc;refine ⟨fun hrd=>(notall _ _ al φ ρ m a w ph h hok (Xb9 hS h.lsz hrd)).elim,fun i hi=>?_⟩;obtain ⟨q1,o,ho,q3⟩:=mem_ready.1 hi;have his:=lt_of_some ho;have hnl:¬ lst listed i:=fun hl=>by
   unfold lst at hl
   grind
  have hpre:∀ x,bit b i x=true->lst listed x:=fun x hx=>by
   obtain ⟨o',ho',e,he,hb,_,h4⟩:=hS.clo i x hx;rw [ho] at ho';cases ho';have hle:lst listed e.on:=q3 e he hb;rcases h4 with rfl | h4
   ·exact hle
   ·exact h.ldown e.on x hle h4
  have hcnt:=Xnu h.lsz his hnl;by_cases hid:i ∈ done
  ·exact Xij hS h hid hnl hpre fun φ' a' w' h'=>ih _ _ al φ' ρ m a' w' ph h' hok hr (by omega)
  ·rcases Xhu hok i his with q | q
   ·grind
   cases ph with
   | nil =>
    simp only [Xcz,Xkn,Bool.and_eq_true] at hok;obtain ⟨⟨⟨o1,o2⟩,n1⟩,n2⟩:=hok;simp only [X3y] at hr;obtain ⟨r1,r2⟩:=Xhj hr;have go:∀ (f1 f2:Nat),i=f1->Xi6 P ops b done f1=true->okPh P ops b (f1 :: done) [(f2,[],[])]=true->X3y P g n ops [(f1,[],[]),(f2,[],[])] ρ m k=some r->wpOp P ops Q i (wpAny P .any ops Q fuel (listed.setIfInBounds i true)) a w:=by
     intro f1 f2 hif ok1 okn hrr;subst hif;simp only [Xi6,Bool.and_eq_true] at ok1;obtain ⟨⟨⟨k1,k2⟩,k3⟩,k5⟩:=ok1;rw [X7m ho] at hrr;refine Xgc hT hS h ho hid hpre (X4o hS his k3) (fun j hj hn hb=>?_) (fun j hj=>by cases hj) hrr ?_
     ·grind
     ·intro φ' ρ' m' a' w' h' hr';simp only [Xu] at hr';exact any_ok hT hS hQ _ _ _ al φ' ρ' m' a' w' _ h' okn hr' (by omega)
    simp only [X7t,List.nil_append,List.mem_cons,List.not_mem_nil,or_false] at q
    grind
   | cons p ph =>
    obtain ⟨e,cs,es⟩:=p;have hok':=hok;simp only [Xcz,Bool.and_eq_true] at hok';obtain ⟨⟨⟨⟨⟨⟨⟨k1,k2⟩,k3⟩,k4⟩,k5⟩,k6⟩,k7⟩,k8⟩:=hok';have he:e < ops.size:=by simp [Nat.blt,Nat.ble_eq] at k1; omega
    have hne:e ∉ done:=by simpa using k2
    have hie:i=e:=by
     simp only [X7t,List.cons_append] at q;rcases List.mem_cons.1 q with q | q
     ·exact q
     ·exfalso;rw [List.all_eq_true] at k4;rw [List.append_assoc] at q;exact hne (h.ld e (hpre e (k4 i q)))
    subst hie;have hoe:=ho;rw [X7m ho] at hr;refine Xgc hT hS h ho hid hpre (X4o hS he k3) (fun j hj hn hb=>?_) (fun j hj=>List.all_eq_true.1 k6 j hj) hr ?_
    ·grind
    ·intro φ' ρ' m' a' w' h' hr';obtain ⟨al2,ρ2,m2,h2,hr2⟩:=X4k hS es _ al ρ' m' h' k7 hr';exact ih _ _ al2 φ' ρ2 m2 a' w' ph h2 k8 hr2 (by omega)
def Xo2 (P:Program) (ops:Array Oper) (b:List Nat) (s:Sch) (e1 e2:Nat):Bool:=X69 P ops b [] s.e0 && Xcz P ops b e1 e2 s.e0.reverse s.ph
def Xo7 (P:Program) (g:Tab) (n:Nat) (ops:Array Oper) (s:Sch) (e1 e2:Nat) (ρ:Env) (m:Mem) (k:Env->Mem->Option Rs):Option Rs:=
 Xu P n ops s.e0 ρ m fun ρ m=>X3y P g n ops s.ph ρ m fun ρ m=>Xfw P g n ops e1 e2 ρ m k
theorem Xpy (hm:P.follows .mixedOrders=true) (hT:X1f P W0 g) (hS:St n ops b) {s:Sch} (hs:Xo2 P ops b s e1 e2=true) {m:Mem} {k:Env->Mem->Option Rs} {r:Rs} {Q:Exit->Act->World->Prop} (hc:Cfg D W0 n φ ρ m a w) (hr:Xo7 P g n ops s e1 e2 ρ m k=some r) (hQ:∀ φ' ρ' m' a' w',Cfg D W0 n φ' ρ' m' a' w'->Stp φ m w φ' m' w'->k ρ' m'=some r->Q .normal a' w'):(Code.region id ops true).wp P Q a w:=by
 refine wp_region_any hm ?_;unfold Xo2 at hs;simp at hs;have h0:=Xef (P:=P) (ops:=ops) (b:=b) hS hc;unfold Xo7 at hr;obtain ⟨al,ρ1,m1,h1,hr1⟩:=X4k hS s.e0 [] [] ρ m h0 hs.1 hr;exact Xw1 hT hS hQ _ _ _ al φ ρ1 m1 a _ _ h1 (by simpa using hs.2) hr1 (Xnl _)
end
def force {α:Type} (n:Nat) (f:Nat->α):α:=match n with | 0=>f 0 | k + 1=>f (k + 1)
theorem force_eq {α:Type} (n:Nat) (f:Nat->α):force n f=f n:=by cases n <;> rfl
def rowB (i:Nat) (acc:List Nat):List Edge->Nat->Nat
 | [],s=>s
 | e :: r,s=>bif Region.binds .any e then rowB i acc r (s ||| 2 ^ e.on ||| acc.getD (i - 1 - e.on) 0) else rowB i acc r s
def Xn5:List Oper->Nat->List Nat->List Nat
 | [],_,acc=>acc
 | o :: os,i,acc=>force (rowB i acc o.after.toList 0) fun r=>Xn5 os (i + 1) (r :: acc)
def rowsOf (ops:Array Oper):List Nat:=(Xn5 ops.toList 0 []).reverse
theorem Xge (i:Nat) (acc:List Nat) (x:Nat):∀ (l:List Edge) (s:Nat),(rowB i acc l s).testBit x=true ↔ s.testBit x=true\/∃ e ∈ l,Region.binds .any e=true/\(e.on=x\/(acc.getD (i - 1 - e.on) 0).testBit x=true)
 | [],s=>by simp [rowB]
 | e :: r,s=>by
  simp only [rowB];cases hb:Region.binds .any e
  ·simp only [cond_false];rw [Xge i acc x r s];simp [hb]
  ·simp only [cond_true];rw [Xge i acc x r _];simp only [Nat.testBit_or,Bool.or_eq_true,Nat.testBit_two_pow,decide_eq_true_eq,List.mem_cons,exists_eq_or_imp,hb,true_and];constructor
   ·rintro ((h | h) | h)
    ·grind
    ·grind
    grind
   ·rintro (h | (h | h) | h)
    ·grind
    ·omega
    ·grind
    grind
theorem Xac:∀ (os:List Oper) (i:Nat) (acc:List Nat),acc.length=i->∃ l,Xn5 os i acc=l ++ acc/\l.length=os.length /\
  ∀ j o,os[j]?=some o->(Xn5 os i acc).reverse.getD (i + j) 0=rowB (i + j) (((Xn5 os i acc).reverse.take (i + j)).reverse) o.after.toList 0
 | [],i,acc,h=>⟨[],by rfl,rfl,fun j o hj=>by grind⟩
 | o :: os,i,acc,h=>by
  simp only [Xn5,force_eq];obtain ⟨l,h1,h2,h3⟩:=Xac os (i + 1) (rowB i acc o.after.toList 0 :: acc) (by simp [h]);refine ⟨l ++ [rowB i acc o.after.toList 0],by grind,by simp [h2],fun j p hj=>?_⟩;cases j with
  | succ j =>
   grind
  | zero =>
   simp_all
theorem X5s (ops:Array Oper):(rowsOf ops).length=ops.size:=by
 obtain ⟨l,h1,h2,_⟩:=Xac ops.toList 0 [] rfl;unfold rowsOf
 grind
theorem Xd2 {ops:Array Oper} (ho:ops[i]?=some o) (hlt:∀ e ∈ o.after,Region.binds .any e=true->e.on < i) (x:Nat) :
  bit (rowsOf ops) i x=true ↔ ∃ e ∈ o.after,Region.binds .any e=true/\(e.on=x\/bit (rowsOf ops) e.on x=true):=by
 obtain ⟨l,_,_,h3⟩:=Xac ops.toList 0 [] rfl;have h:=h3 i o (by grind);simp only [Nat.zero_add] at h;have hi:=lt_of_some ho;unfold bit;rw [show (rowsOf ops).getD i 0=_ from h,Xge];simp only [Nat.zero_testBit,Bool.false_eq_true,false_or];constructor
 ·rintro ⟨e,he,hb,h4⟩
  have hle:=hlt e (by grind) hb;refine ⟨e,by grind,hb,?_⟩;rcases h4 with h4 | h4
  ·omega
  ·right;have hlen:((rowsOf ops).take i).length=i:=by rw [List.length_take,X5s]; omega
   change ((List.take i (rowsOf ops)).reverse.getD _ 0).testBit x=true at h4
   grind
 ·rintro ⟨e,he,hb,h4⟩
  have hle:=hlt e he hb;refine ⟨e,by grind,hb,?_⟩;rcases h4 with h4 | h4
  ·omega
  ·right;have hlen:((rowsOf ops).take i).length=i:=by rw [List.length_take,X5s]; omega
   change ((List.take i (rowsOf ops)).reverse.getD _ 0).testBit x=true
   grind
def wrOf:List Oper->Nat->List (Nat × Nat)
 | [],_=>[]
 | o :: r,i=>match o.dst with | some d=>(d,i) :: wrOf r (i + 1) | none=>wrOf r (i + 1)
def Xqf:List (Nat × Nat)->Nat->Option Nat
 | [],_=>none
 | (d,i) :: r,t=>bif Nat.beq d t then some i else Xqf r t
def Xb8:List (Nat × Nat)->Bool
 | []=>true
 | (d,_) :: r=>(r.all fun p=>!Nat.beq p.1 d) && Xb8 r
theorem Xg7:∀ (l:List Oper) (i d x:Nat),(d,x) ∈ wrOf l i ↔ ∃ j o,l[j]?=some o/\o.dst=some d/\x=i + j
 | [],i,d,x=>by simp [wrOf]
 | o :: r,i,d,x=>by
  simp only [wrOf];have ih:=Xg7 r (i + 1) d x;cases ho:o.dst with
  | none =>
   simp only;rw [ih];constructor
   ·rintro ⟨j,p,h1,h2,h3⟩
    exact ⟨j + 1,p,by grind,h2,by omega⟩
   grind
  | some d' =>
   simp;rw [ih];constructor
   ·rintro (⟨rfl,rfl⟩ | ⟨j,p,h1,h2,h3⟩)
    ·grind
    ·exact ⟨j + 1,p,by grind,h2,by omega⟩
   grind
theorem Xd7:∀ {l:List (Nat × Nat)},Xb8 l=true->∀ d x y,(d,x) ∈ l->(d,y) ∈ l->x=y
 | [],_,d,x,y,h,_=>by cases h
 | (d',i) :: r,hn,d,x,y,h,k=>by
  simp only [Xb8,Bool.and_eq_true,List.all_eq_true] at hn;rcases List.mem_cons.1 h with h | h <;> rcases List.mem_cons.1 k with k | k
  ·grind
  ·cases h;have:=hn.1 _ k;simp_all
  ·cases k;have:=hn.1 _ h;simp_all
  ·exact Xd7 hn.2 d x y h k
theorem Xab:∀ {l:List (Nat × Nat)} {t x:Nat},Xb8 l=true->(t,x) ∈ l->Xqf l t=some x
 | [],t,x,_,h=>by cases h
 | (d,i) :: r,t,x,hn,h=>by
  simp only [Xqf];simp only [Xb8,Bool.and_eq_true,List.all_eq_true] at hn;rcases List.mem_cons.1 h with h | h
  ·simp_all
  ·have:=hn.1 _ h;simp at this;have hne:Nat.beq d t=false:=by
    cases hb:Nat.beq d t
    ·rfl
    ·simp_all
   rw [hne];exact Xab hn.2 h
def Xk7 (n:Nat) (ops:Array Oper) (bs:List Nat) (wr:List (Nat × Nat)) (i:Nat) (o:Oper):Bool:=
 (o.after.toList.all fun e=>!Region.binds .any e || Nat.blt e.on i) && o.op.operands.toList.all Xmf && (match o.dst with | some d=>Nat.blt d n | none=>true) &&
  (Oper.looksAt ops o).all fun t=>match Xqf wr t with | none=>true | some w=>Nat.beq w i || bit bs i w || bit bs w i
def Xs9 (n:Nat) (ops:Array Oper) (bs:List Nat) (wr:List (Nat × Nat)):List Oper->Nat->Bool
 | [],_=>true
 | o :: r,i=>Xk7 n ops bs wr i o && Xs9 n ops bs wr r (i + 1)
def Xow (n:Nat) (ops:Array Oper):Bool:=Xb8 (wrOf ops.toList 0) && Xs9 n ops (rowsOf ops) (wrOf ops.toList 0) ops.toList 0
theorem Xe6 {n:Nat} {ops:Array Oper} {bs:List Nat} {wr:List (Nat × Nat)}:∀ {l:List Oper} {i:Nat},Xs9 n ops bs wr l i=true->∀ j o,l[j]?=some o->Xk7 n ops bs wr (i + j) o=true
 | [],i,_,j,o,hj=>by grind
 | p :: r,i,h,j,o,hj=>by
  simp only [Xs9,Bool.and_eq_true] at h;cases j with
  | zero=>simp at hj; subst hj; exact h.1
  | succ j =>
   have:=Xe6 h.2 j o (by grind);rw [show i + 1 + j=i + (j + 1) by omega] at this;exact this
theorem Xea {n:Nat} {ops:Array Oper} (h:Xow n ops=true):St n ops (rowsOf ops):=by
 unfold Xow at h;simp only [Bool.and_eq_true] at h;obtain ⟨h1,h2⟩:=h;have one:∀ i o,ops[i]?=some o->Xk7 n ops (rowsOf ops) (wrOf ops.toList 0) i o=true:=fun i o ho=>by
  have:=Xe6 h2 i o (by grind);rwa [Nat.zero_add] at this
 have mem:∀ i o d,ops[i]?=some o->o.dst=some d->(d,i) ∈ wrOf ops.toList 0:=fun i o d ho hd=>(Xg7 _ _ _ _).2 ⟨i,o,by simpa using ho,hd,by omega⟩;have lts:∀ i o,ops[i]?=some o->∀ e ∈ o.after,Region.binds .any e=true->e.on < i:=fun i o ho e he hb=>by
  have:=one i o ho;simp only [Xk7,Bool.and_eq_true,List.all_eq_true] at this;have:=this.1.1.1 e (by simpa using he);rw [hb] at this;simp only [Bool.not_true,Bool.false_or,Nat.blt,Nat.ble_eq] at this;omega
 refine ⟨fun i x hx=>?_,fun i o ho e he hb=>(Xd2 ho (lts i o ho) e.on).2 ⟨e,he,hb,.inl rfl⟩,fun i j o p d hi hj hd hd'=>Xd7 h1 d i j (mem i o d hi hd) (mem j p d hj hd'),fun i o d ho hd=>?_,fun i o t x ox ho ht hox hd hne=>?_,fun i o ho=>?_⟩
 ·have hi:i < ops.size:=by
   rcases Nat.lt_or_ge i ops.size with q | q
   ·exact q
   ·unfold bit at hx;rw [List.getD_eq_getElem?_getD,List.getElem?_eq_none (by rw [X5s]; exact q)] at hx;simp at hx
  have ho:ops[i]?=some ops[i]:=by simp [hi]
  obtain ⟨e,he,hb,h4⟩:=(Xd2 ho (lts i _ ho) x).1 hx
  grind
 ·have:=one i o ho;simp only [Xk7,Bool.and_eq_true,hd] at this;simp_all
 ·have:=one i o ho;simp only [Xk7,Bool.and_eq_true,List.all_eq_true] at this;have:=this.2 t ht;rw [Xab h1 (mem x ox t hox hd)] at this;simp_all
 ·have:=one i o ho;simp only [Xk7,Bool.and_eq_true] at this
  grind
def subB (a d:Nat):Bool:=Nat.beq (Nat.land a d) a
theorem Xi2 {a:Nat} (h:subB a d=true) (x:Nat) (hx:a.testBit x=true):d.testBit x=true:=by
 unfold subB at h;have h:=Nat.eq_of_beq_eq_true h;change a &&& d=a at h
 grind
def X5m (P:Program) (ops:Array Oper) (bs:List Nat):Nat->List Nat->Bool
 | _,[]=>true
 | D,i :: is=>Nat.blt i ops.size && !D.testBit i && subB (bs.getD i 0) D && kindOk P ops i && X5m P ops bs (D ||| 2 ^ i) is
def addB (D:Nat):List Nat->Nat
 | []=>D
 | i :: is=>addB (D ||| 2 ^ i) is
def Xlb (ops:Array Oper) (bs:List Nat) (wr:List (Nat × Nat)) (i:Nat):Bool:=match ops[i]? with
 | some o=>(Oper.looksAt ops o).all fun t=>match Xqf wr t with | none=>true | some w=>bit bs i w
 | none=>false
def Xqy (P:Program) (ops:Array Oper) (bs:List Nat) (wr:List (Nat × Nat)) (needs:List Nat):Nat->List (Nat × List Nat × List Nat)->Bool
 | D,[]=>(List.range ops.size).all fun i=>D.testBit i
 | D,(e,cs,es) :: r=>Nat.blt e ops.size && !D.testBit e && subB (bs.getD e 0) D && ((es ++ X7t r).all fun i=>bit bs i e) &&
   (needs.all fun i=>!D.testBit i || bit bs e i || cs.contains i) && (cs.all fun i=>Xlb ops bs wr i) && X5m P ops bs (D ||| 2 ^ e) es && force (addB (D ||| 2 ^ e) es) fun D=>Xqy P ops bs wr needs D r
def Xj2 (P:Program) (ops:Array Oper):List Nat:=(List.range ops.size).filter fun i=>X6o P ops i
theorem X8k {P:Program} {ops:Array Oper}:∀ {is:List Nat} {D:Nat} {done:List Nat},(∀ x,D.testBit x=true ↔ x ∈ done)->X5m P ops (rowsOf ops) D is=true ->
  X69 P ops (rowsOf ops) done is=true/\∀ x,(addB D is).testBit x=true ↔ x ∈ is.reverse ++ done
 | [],D,done,hD,_=>⟨rfl,by assumption⟩
 | i :: is,D,done,hD,h=>by
  simp only [X5m,Bool.and_eq_true] at h;obtain ⟨⟨⟨⟨k1,k2⟩,k3⟩,k4⟩,k5⟩:=h;have hD':∀ x,(D ||| 2 ^ i).testBit x=true ↔ x ∈ i :: done:=fun x=>by
   grind
  obtain ⟨q1,q2⟩:=X8k hD' k5;refine ⟨?_,fun x=>by rw [addB,q2]; simp⟩;simp only [X69,Bool.and_eq_true];refine ⟨⟨⟨⟨k1,?_⟩,?_⟩,k4⟩,q1⟩
  ·grind
  ·unfold X6p;rw [List.all_eq_true];intro x _;cases hb:bit (rowsOf ops) i x
   ·rfl
   ·have:=(hD x).1 (Xi2 k3 x hb)
    grind
theorem Xle {P:Program} {ops:Array Oper} {n:Nat} (hS:St n ops (rowsOf ops)) (hw:Xb8 (wrOf ops.toList 0)=true):∀ {ph:List (Nat × List Nat × List Nat)} {D:Nat} {done:List Nat},(∀ x,D.testBit x=true ↔ x ∈ done)->(∀ x ∈ done,x < ops.size) ->
  Xqy P ops (rowsOf ops) (wrOf ops.toList 0) (Xj2 P ops) D ph=true->okPh P ops (rowsOf ops) done ph=true
 | [],D,done,hD,_,h=>by
  simp only [Xqy,okPh,List.all_eq_true] at h ⊢
  grind
 | (e,cs,es) :: r,D,done,hD,hlt,h=>by
  simp only [Xqy,Bool.and_eq_true,force_eq] at h;obtain ⟨⟨⟨⟨⟨⟨⟨k1,k2⟩,k3⟩,k4⟩,k5⟩,k6⟩,k7⟩,k8⟩:=h;have hD':∀ x,(D ||| 2 ^ e).testBit x=true ↔ x ∈ e :: done:=fun x=>by
   grind
  obtain ⟨q1,q2⟩:=X8k hD' k7;have he:e < ops.size:=by simp_all
  have hes:∀ x ∈ es,x < ops.size:=by
   have key:∀ (is:List Nat) (D:Nat),X5m P ops (rowsOf ops) D is=true->∀ x ∈ is,x < ops.size:=by
    intro is
    induction is with
    | nil=>simp
    | cons i is ih =>
     intro D hk x hx;simp only [X5m,Bool.and_eq_true] at hk;rcases List.mem_cons.1 hx with rfl | hx
     ·simp_all
     grind
   exact key es _ k7
  have hlt':∀ x ∈ es.reverse ++ e :: done,x < ops.size:=fun x hx=>by
   grind
  have q3:=Xle hS hw q2 hlt' k8;simp only [okPh,Bool.and_eq_true];refine ⟨⟨⟨⟨⟨⟨⟨k1,?_⟩,?_⟩,k4⟩,?_⟩,?_⟩,q1⟩,q3⟩
  ·grind
  ·unfold X6p;rw [List.all_eq_true];intro x _;cases hb:bit (rowsOf ops) e x
   ·rfl
   ·have:=(hD x).1 (Xi2 k3 x hb)
    grind
  ·rw [List.all_eq_true] at k5 ⊢;intro x hx;cases hn:X6o P ops x
   ·rfl
   ·have:=k5 x (by unfold Xj2; grind)
    grind
  ·rw [List.all_eq_true] at k6 ⊢;intro x hx;have:=k6 x hx;unfold Xlb at this;unfold Xco;cases ho:ops[x]? with
   | none=>rw [ho] at this; trivial
   | some o =>
    rw [ho] at this;simp at this ⊢;intro t ht y hy;have h3:=this t ht;cases hoy:ops[y]? with
    | none=>rfl
    | some oy =>
     simp only;by_cases hd:oy.dst=some t
     ·rw [Xab hw ((Xg7 _ 0 t y).2 ⟨y,oy,by simpa using hoy,hd,(Nat.zero_add y).symm⟩)] at h3
      grind
     grind
def ecOf (b:List Nat) (effs:List Nat) (i:Nat):Nat:=effs.countP fun e=>bit b i e
def Xz0 (P:Program) (ops:Array Oper) (b:List Nat) (idx effs:List Nat):List Nat->Nat->List (Nat × List Nat × List Nat)
 | [],_=>[]
 | e :: r,j=>(e,idx.filter (fun i=>X6o P ops i && Nat.blt (ecOf b effs i) j && !bit b e i),idx.filter (fun i=>kindOk P ops i && Nat.beq (ecOf b effs i) j)) :: Xz0 P ops b idx effs r (j + 1)
def Xdv (P:Program) (ops:Array Oper) (b:List Nat):Sch:=
 let idx:=List.range ops.size;let effs:=idx.filter fun i=>!kindOk P ops i
 { e0:=idx.filter (fun i=>kindOk P ops i && Nat.beq (ecOf b effs i) 0),ph:=Xz0 P ops b idx effs effs 1 }
def okDr (P:Program) (n:Nat) (ops:Array Oper):Bool:=
 Xow n ops && X5m P ops (rowsOf ops) 0 (Xdv P ops (rowsOf ops)).e0 && Xqy P ops (rowsOf ops) (wrOf ops.toList 0) (Xj2 P ops) (addB 0 (Xdv P ops (rowsOf ops)).e0) (Xdv P ops (rowsOf ops)).ph
theorem Xnz {P:Program} {n:Nat} {ops:Array Oper} (h:okDr P n ops=true):St n ops (rowsOf ops)/\Xsl P ops (rowsOf ops) (Xdv P ops (rowsOf ops))=true:=by
 unfold okDr at h;simp at h;obtain ⟨⟨h1,h2⟩,h3⟩:=h;have hS:=Xea h1;have hw:Xb8 (wrOf ops.toList 0)=true:=by
  unfold Xow at h1;simp only [Bool.and_eq_true] at h1;exact h1.1
 obtain ⟨q1,q2⟩:=X8k (done:=[]) (fun x=>by simp) h2;have hlt:∀ x ∈ (Xdv P ops (rowsOf ops)).e0.reverse ++ [],x < ops.size:=fun x hx=>by
  simp only [List.append_nil,List.mem_reverse,Xdv,List.mem_filter,List.mem_range] at hx;omega
 have q3:=Xle hS hw q2 hlt h3;refine ⟨hS,?_⟩;unfold Xsl
 grind
def Xur:List (Nat × List Nat × List Nat)->Option (List (Nat × List Nat × List Nat) × Nat × Nat)
 | []=>none
 | [_]=>none
 | [(e1,[],[]),(e2,[],[])]=>some ([],e1,e2)
 | p :: r=>match Xur r with | some (l,e1,e2)=>some (p :: l,e1,e2) | none=>none
def schP (P:Program) (n:Nat) (ops:Array Oper):Option (Sch × Nat × Nat):=
 match Xow n ops with
 | false=>none
 | true=>match Xur (Xdv P ops (rowsOf ops)).ph with
  | none=>none
  | some (l,e1,e2)=>match Xo2 P ops (rowsOf ops) ⟨(Xdv P ops (rowsOf ops)).e0,l⟩ e1 e2 with
   | true=>some (⟨(Xdv P ops (rowsOf ops)).e0,l⟩,e1,e2)
   | false=>none
def drOf (P:Program) (g:Tab) (n:Nat):Xa8:=fun ops ρ m k=>match okDr P n ops with
 | true=>Xx1 P g n ops (Xdv P ops (rowsOf ops)) ρ m k
 | false=>match schP P n ops with
  | some (s,e1,e2)=>Xo7 P g n ops s e1 e2 ρ m k
  | none=>none
theorem Xv3 {P:Program} (hm:P.follows .mixedOrders=true) {W0:World} {g:Tab} (hT:X1f P W0 g) (n:Nat):Xf7 P W0 n (drOf P g n):=by
 intro D id ops φ ρ m a w k r Q hc hd hQ;unfold drOf at hd;cases hk:okDr P n ops
 ·rw [hk] at hd;simp only at hd;split at hd
  ·rename_i s e1 e2 hs;unfold schP at hs;split at hs
   ·cases hs
   ·rename_i h1;split at hs
    ·cases hs
    ·split at hs
     ·rename_i h2;cases hs;exact Xpy hm hT (Xea h1) h2 hc hd hQ
     grind
  grind
 ·rw [hk] at hd;simp only at hd;obtain ⟨h1,h2⟩:=Xnz hk;exact Xtj hm hT h1 h2 hc hd hQ
theorem step_ok {P:Program} (hm:P.follows .mixedOrders=true) {W0:World} {g:Tab} (hT:X1f P W0 g):X1f P W0 (Xg5 P R (drOf P) g):=Xnf hT fun n=>Xv3 hm hT n
end Go.Ab
end
