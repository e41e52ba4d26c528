/-
  An evaluator over abstract memories, and that what it answers the machine answers. No conditions.
-/
import Derived.Test.YteognfejlpbmoaaGreatDoorAb1
import Derived.IntWalk
import Derived.Lib.ConvBytes
import Derived.Laws.BytesString
import Derived.Lib.Builder
import Derived.Laws.StructEq
import Derived.ChangeKeysEq
import Derived.Lib.UnsafeStr
set_option linter.unusedSimpArgs false
set_option linter.unusedVariables false

set_option maxRecDepth 100000
noncomputable section
namespace Go.Ab
def Xep (v:Value):Bool:=
 match v with
 | .bool _ | .int _ _ | .float _ _ | .string _ | .pointer none | .slice none 0 0 | .map none | .nilFunc | .nilIface=>true
 | .func (.func _) ⟨[]⟩ ⟨[]⟩=>true
 | _=>false
def X4j (v:Value):Bool:=
 match v with
 | .agg cs=>cs.toList.all Xep
 | .tuple cs=>cs.toList.all Xep
 | v=>Xep v
theorem Xdz {φ:Pmap} {v:Value} (h:Xep v=true):VRel φ v v:=by
 unfold Xep at h;split at h <;> first | (constructor; done) | (cases h; done) | skip
 exact .func _ _ _ _ _ .nil .nil
theorem Xb4 {φ:Pmap}:∀ {l:List Value},l.all Xep=true->VRels φ l l
 | [],_=>.nil
 | v :: l,h=>by
  simp only [List.all_cons,Bool.and_eq_true] at h;exact .cons v v l l (Xdz h.1) (Xb4 h.2)
theorem X1d {φ:Pmap} {v:Value} (h:X4j v=true):VRel φ v v:=by
 unfold X4j at h;split at h
 ·exact .agg _ _ (Xb4 h)
 ·exact .tuple _ _ (Xb4 h)
 ·exact Xdz h
theorem X2a {φ:Pmap} {v cv:Value} (h:VRel φ v cv):VRels φ v.cells.toList cv.cells.toList:=by
 cases h with
 | agg a a' h=>exact h
 | _=>exact .cons _ _ _ _ (by first | assumption | (constructor <;> assumption) | constructor) .nil
theorem X9q {P:Program} {t:TypeId} {d:TypeDesc} (h:P.underlying t=some d) (w:World):(isAgg t).run P w=.ok (X5c d) w:=by
 simp only [isAgg,Sem.run_bind,run_underlying h,Result.andThen_ok];cases d <;> rfl
theorem run_sizeOf {P:Program} {t:TypeId} {i:TypeInfo} (h:P.info? t=some i) (w:World):(sizeOf t).run P w=.ok i.size w:=by
 simp [sizeOf,typeInfo,h]
theorem X1v {P:Program} {t:TypeId} {i:TypeInfo} {z:Value} (h:P.info? t=some i) (hz:i.zero=some z) (w:World):(zeroValue t).run P w=.ok z w:=by
 simp [zeroValue,typeInfo,h,hz]
theorem Xkb {P:Program} {B0:Nat} {φ:Pmap} {m:Mem} {w:World} (h:Rel B0 φ m w) {x cx v:Value} (hx:VRel φ x cx) {t:TypeId} {i:TypeInfo} {d:TypeDesc} (hi:P.info? t=some i) (hd:P.underlying t=some d)
  (hg:X8 (X5c d) i.size x m=some v):∃ cv,(Instr.loadAt t cx).run P w=.ok cv w/\VRel φ v cv:=by
 cases hx with
 | ptr b o r B O pl hb hr hp =>
  have hptr:VRel φ _ _:=.ptr b o r B O pl hb hr hp;rw [Xbv] at hg; unfold Xh0 at hg;simp only at hg;split at hg
  ·rename_i hagg;split at hg
   ·rename_i cs hcs;cases hg;obtain ⟨ccs,k1,k2,k3⟩:=X2z h hptr hcs;refine ⟨.agg ccs.toArray,?_,.agg _ _ (by omega)⟩;have hl:=run_loadCells_list (P:=P) w _ ccs k3;rw [k2] at hl;simp [Instr.loadAt,Instr.sureAddr,loadVar,X9q hd,hagg,run_sizeOf hi,hl]
   grind
  ·rename_i hagg;split at hg
   ·rename_i u hcs;cases hg;obtain ⟨ccs,k1,k2,k3⟩:=X2z h hptr hcs;cases k1 with
    | cons _ v' _ l' hv hl =>
    have:=k3 0 v' rfl;refine ⟨v',?_,hv⟩;simp [Instr.loadAt,Instr.sureAddr,loadVar,X9q hd,hagg];rw [Addr.add_none] at this;simp at this;simp [this]
   grind
 | _=>trivial
theorem Xr1 {P:Program} {B0:Nat} {φ:Pmap} {m m':Mem} {w:World} (h:Rel B0 φ m w) {x cx v cv:Value} (hx:VRel φ x cx) (hv:VRel φ v cv) {t:TypeId} {i:TypeInfo} (hi:P.info? t=some i)
  (hg:Xd i.size x v m=some m'):∃ w' φ',(Instr.storeAt t cx cv).run P w=.ok () w'/\Rel B0 φ' m' w'/\Stp φ m w φ' m' w':=by
 cases hx with
 | ptr b o r B O pl hb hr hp =>
  rw [X9r] at hg; unfold Xa4 at hg;simp only at hg;split at hg
  ·rename_i hs;have hc:=X2a hv;obtain ⟨w',φ',k1,k2,k3,_⟩:=X8j (P:=P) h (.ptr b o r B O pl hb hr hp) hc hg;refine ⟨w',φ',?_,k2,k3⟩;have hl:cv.cells.size=i.size:=by
    grind [hc.length]
   simp [Instr.storeAt,Instr.sureAddr,storeVar,run_sizeOf hi,hl,k1]
  grind
 | _=>trivial
theorem Xpv {B0:Nat} {φ:Pmap} {m:Mem} {w:World} (h:Rel B0 φ m w) (ty:TypeId) {cs:List Value} {C:Array Value} (hcs:VRels φ cs C.toList) :
  ∃ φ',Rel B0 φ' (aNew ty cs m).2 (w.alloc (.cells C ty))/\VRel φ' (aNew ty cs m).1 (.pointer (some ⟨w.heap.size,0,none⟩))/\Stp φ m w φ' (aNew ty cs m).2 (w.alloc (.cells C ty)):=by
 obtain ⟨φ',k1,k2,k3⟩:=Xlj (w1:=w.alloc _) h ty cs _ hcs C (fun i v hv=>by grind) (some (2 * ty + 1)) (fun t ht=>by cases ht; exact ⟨(by grind),fun _=>by simp [hcs.length],trivial⟩) rfl rfl rfl rfl;exact ⟨φ',k2,.ptr _ _ _ _ _ _ k1 (by simp) (fun _=>⟨rfl,by simp,by simp⟩),k3⟩
theorem Xmk {P:Program} (t:TypeId) (v:Value) (w:World):(newVar t v).run P w=.ok ⟨w.heap.size,0,none⟩ (w.alloc (.cells v.cells t)):=by
 rfl
theorem Xsn {P:Program} {B0:Nat} {φ:Pmap} {m:Mem} {w:World} (h:Rel B0 φ m w) {t:TypeId} {i:TypeInfo} {z:Value} (hi:P.info? t=some i) (hz:i.zero=some z) (hp:X4j z=true) :
  ∃ cv w' φ',(Instr.alloc t true (.tuple #[])).run P w=.ok cv w'/\Rel B0 φ' (aNew t z.cells.toList m).2 w'/\VRel φ' (aNew t z.cells.toList m).1 cv/\Stp φ m w φ' (aNew t z.cells.toList m).2 w':=by
 obtain ⟨φ',k1,k2,k3⟩:=Xpv h t (X2a (X1d hp));exact ⟨_,_,φ',by simp [Instr.alloc,X1v hi hz,Xmk],k1,k2,k3⟩
theorem Xyy {P:Program} {B0:Nat} {φ:Pmap} {m:Mem} {w:World} (h:Rel B0 φ m w) {t:TypeId} {v cv:Value} (hv:VRel φ v cv) :
  ∃ cr w' φ',(Instr.box t cv).run P w=.ok cr w'/\Rel B0 φ' (aNew t v.cells.toList m).2 w'/\VRel φ' (aNew t v.cells.toList m).1 cr/\Stp φ m w φ' (aNew t v.cells.toList m).2 w':=by
 obtain ⟨φ',k1,k2,k3⟩:=Xpv h t (X2a hv);exact ⟨_,_,φ',by rfl,k1,k2,k3⟩
end Go.Ab
namespace Go.Ab
theorem foldl_set (off:Nat):∀ (vs:List Value) (j:Nat) (cells:Array Value),off + j + vs.length <= cells.size ->
  ((vs.zipIdx j).foldl (fun cs (c,j)=>cs.setIfInBounds (off + j) c) cells).toList=cells.toList.take (off + j) ++ vs ++ cells.toList.drop (off + j + vs.length)
 | [],j,cells,_=>by simp
 | v :: vs,j,cells,h=>by
  simp at h;simp only [List.zipIdx_cons,List.foldl_cons];rw [foldl_set off vs _ _ (by simp; omega)];simp only [Array.toList_setIfInBounds,List.length_cons];apply List.ext_getElem?;intro k;simp only [List.getElem?_append,List.length_append,List.length_take,List.length_set,List.getElem?_take,List.getElem?_drop,List.length_cons,Array.length_toList];by_cases h1:k < off + j
  ·rw [if_pos (by omega),if_pos (by omega),if_pos (by omega),if_pos (by omega),if_pos (by omega),if_pos h1,List.getElem?_set_ne (by omega)]
  ·by_cases h2:k=off + j
   ·subst h2;rw [if_pos (by omega),if_pos (by omega),if_pos (by omega),if_pos (by omega),if_neg (by omega)]
    grind
   ·by_cases h3:k < off + j + 1 + vs.length
    ·rw [if_pos (by omega),if_neg (by omega),if_pos (by omega),if_neg (by omega)]
     grind
    ·rw [if_neg (by omega),if_neg (by omega),List.getElem?_set_ne (by omega)]
     grind
inductive X4p (φ:Pmap):List (Nat × Value)->List (Nat × Value)->Prop where
 | nil:X4p φ [] []
 | cons (i:Nat) (v v':Value) (l l':List (Nat × Value)) (h:VRel φ v v') (hl:X4p φ l l'):X4p φ ((i,v) :: l) ((i,v') :: l')
theorem Xg9 {φ:Pmap} (place:Nat->Option (Nat × Nat)):∀ {l l':List (Nat × Value)} {a r:List Value} {C:Array Value},X4p φ l l'->VRels φ a C.toList->fill place a l=some r ->
  ∃ R,Instr.fill place C l'=some R/\VRels φ r R.toList
 | _,_,a,r,C,.nil,ha,hf=>by
  simp only [fill,Option.some.injEq] at hf;subst hf;exact ⟨C,rfl,ha⟩
 | _,_,a,r,C,.cons i v v' l l' hv hl,ha,hf=>by
  simp only [fill] at hf;split at hf
  ·rename_i off size hpl;split at hf
   ·rename_i hc;simp at hc;have hvc:=X2a hv;have hlen:=hvc.length;have hal:=ha.length;simp at hlen hal;have hset:=foldl_set off v'.cells.toList 0 C (by grind);obtain ⟨R,k1,k2⟩:=Xg9 _  (C:=(v'.cells.zipIdx.foldl (fun cs (c,j)=>cs.setIfInBounds (off + j) c) C)) hl (by
     have e:v'.cells.zipIdx.foldl (fun cs (c,j)=>cs.setIfInBounds (off + j) c) C=(v'.cells.toList.zipIdx 0).foldl (fun cs (c,j)=>cs.setIfInBounds (off + j) c) C:=by
      rw [<- Array.foldl_toList];simp
     rw [e,hset];simp only [Nat.add_zero,Xl6];have:v'.cells.toList.length=v.cells.toList.length:=by simp; omega
     rw [this];exact ((ha.take _).append hvc).append (ha.drop _)) hf
    refine ⟨R,?_,k2⟩;simp only [Instr.fill,hpl]
    grind
   grind
  grind
theorem X7o (z:List Value):∀ n,(rep n z).length=n * z.length
 | 0=>by simp [rep]
 | n + 1=>by simp [rep,X7o z n,Nat.succ_mul]; omega
theorem Xff (z:List Value):∀ (n i:Nat),i < n * z.length->(rep n z)[i]?=z[i % z.length]?
 | 0,i,h=>by simp at h
 | n + 1,i,h=>by
  simp only [rep,List.getElem?_append];have hz:0 < z.length:=by
   rcases Nat.eq_zero_or_pos z.length with h0 | h0
   ·grind
   ·exact h0
  by_cases hi:i < z.length
  ·rw [if_pos hi,Nat.mod_eq_of_lt hi]
  ·rw [if_neg hi,Xff z n _ (by grind)];rw [Nat.mod_eq_sub_mod (by omega:z.length <= i)]
theorem Xm9 (z:Array Value) (n:Nat):((Array.range (n * z.size)).map fun i=>z[i % z.size]!).toList=rep n z.toList:=by
 apply List.ext_getElem?;intro i;by_cases hi:i < n * z.size
 ·rw [Xff _ n i (by omega)];simp only [Array.toList_map,Array.toList_range,List.getElem?_map,List.getElem?_range hi,Option.map_some,Array.length_toList];have hz:0 < z.size:=by
   grind
  have hm:=Nat.mod_lt i hz;simp [hm]
 ·have h1:(rep n z.toList)[i]?=none:=List.getElem?_eq_none (by rw [X7o]; grind)
  grind
theorem Xfn {φ:Pmap} {z:List Value} (h:VRels φ z z):∀ n,VRels φ (rep n z) (rep n z)
 | 0=>.nil
 | n + 1=>h.append (Xfn h n)
theorem Xfa {P:Program} {B0:Nat} {φ:Pmap} {m:Mem} {w:World} (h:Rel B0 φ m w) {t e:TypeId} {i:TypeInfo} {z:Value} (ht:P.underlying t=some (.slice e)) (hi:P.info? e=some i) (hz:i.zero=some z)
  (hp:X4j z=true) (hzs:z.cells.size=i.size) (len:Nat) (hsmall:len * i.size <= 2 ^ 24) {ps cps:List (Nat × Value)} (hps:X4p φ ps cps) {v:Value} {m':Mem}
  (hg:X5 e z.cells.toList i.size len ps m=some (v,m')) :
  ∃ cv w' φ',(Instr.buildSlice t len cps.toArray).run P w=.ok cv w'/\Rel B0 φ' m' w'/\VRel φ' v cv/\Stp φ m w φ' m' w':=by
 rw [X2v] at hg; unfold X2h at hg;split at hg
 ·rename_i cs hcs;split at hg
  ·cases hg
  ·rename_i hs0;simp at hg;obtain ⟨rfl,rfl⟩:=hg;have hzr:VRels φ _ _:=X2a (X1d hp);have hrow:((Array.range (len * i.size)).map fun k=>z.cells[k % z.cells.size]!).toList=rep len z.cells.toList:=by
    rw [<- hzs]; exact Xm9 z.cells len
   obtain ⟨R,k1,k2⟩:=Xg9 (fun k=>some _) hps  (by rw [hrow]; exact Xfn hzr len) hcs;obtain ⟨φ',q1,q2,q3⟩:=Xga (w1:=w.alloc _) h e cs _ k2 R (fun j v hv=>by grind) rfl rfl rfl rfl;refine ⟨.slice (some ⟨w.heap.size,0,none⟩) len len,w.alloc _,φ',?_,q2,?_,q3⟩
   ·by_cases hl0:len * i.size=0
    ·have:len=0:=by
      rcases Nat.mul_eq_zero.1 hl0 with h0 | h0
      ·exact h0
      ·omega
     subst this;simp at k1;have hr0:Array.map (fun k=>z.cells[k % z.cells.size]!) (Array.range 0)=#[]:=by simp
     have hr1:∀ f:Nat->Value,Array.map f (Array.range 0)=#[]:=fun f=>by simp
     rw [hr0] at k1;simp [Instr.buildSlice,run_underlying ht,run_sizeOf hi,newRow,hr1,k1]
    ·simp [Instr.buildSlice,run_underlying ht,run_sizeOf hi,X1v hi hz,hl0,newRow,k1,Nat.not_lt.2 hsmall]
   ·have hRl:R.size=len * i.size:=by
     have h1:=k2.length;have h2:cs.length=len * i.size:=by
      have key:∀ (l:List (Nat × Value)) (a r:List Value),fill (fun k=>some (k * i.size,i.size)) a l=some r->r.length=a.length:=by
       intro l
       induction l with
       | nil=>intro a r hf; simp only [fill,Option.some.injEq] at hf; rw [hf]
       | cons p l ih =>
        intro a r hf;obtain ⟨k,v⟩:=p;simp only [fill] at hf;split at hf
        ·rename_i hc;simp at hc;rw [ih _ _ hf];simp only [Xl6,List.length_append,List.length_take,List.length_drop,Array.length_toList];omega
        grind
      rw [key _ _ _ hcs,X7o];simp [hzs]
     simp at h1;omega
    exact .slice _ _ _ _ _ _ _ _ _ q1 (by omega) (Nat.le_refl _) (by simp) (fun _=>⟨.inr ⟨rfl,by simp,by simp,by grind⟩,fun _=>rfl⟩)
 grind
end Go.Ab
namespace Go.Ab
theorem Xh5 {P:Program} {B0:Nat} {φ:Pmap} {m:Mem} {w:World} (h:Rel B0 φ m w) {t e:TypeId} {i:TypeInfo} {z:Value} (ht:P.underlying t=some (.slice e)) (hi:P.info? e=some i) (hz:i.zero=some z)
  (hp:X4j z=true) (hzs:z.cells.size=i.size) {l c cl cc v:Value} {m':Mem} (hl:VRel φ l cl) (hc:VRel φ c cc)
  (hg:X3j e z.cells.toList i.size i.bytes l c m=some (v,m')) :
  ∃ cv w' φ',(Instr.makeSlice t cl cc).run P w=.ok cv w'/\Rel B0 φ' m' w'/\VRel φ' v cv/\Stp φ m w φ' m' w':=by
 unfold X3j at hg;split at hg
 ·rename_i k1 ln k2 cn;cases hl;cases hc;split at hg
  ·rename_i hcond;simp only [Bool.and_eq_true,decide_eq_true_eq] at hcond;obtain ⟨⟨⟨h0,h1⟩,h2⟩,h3⟩:=hcond;obtain ⟨f1,f2⟩:=Xdb h2;have h3:=Nat.le_of_ble_eq_true h3;simp at hg;obtain ⟨rfl,rfl⟩:=hg;obtain ⟨a,rfl⟩:=Int.eq_ofNat_of_zero_le h0;obtain ⟨b,rfl⟩:=Int.eq_ofNat_of_zero_le (show 0 <= cn by omega);simp only [Int.toNat_natCast] at f1 f2 ⊢;have hab:a <= b:=by omega
   have wa:IntKind.i64.wrap _=a:=IntWalk.i64_in _ (by omega);have wb:IntKind.i64.wrap _=b:=IntWalk.i64_in _ (by omega);have hzr:VRels φ _ _:=X2a (X1d hp);let C:Array _:=(Array.range (b * i.size)).map fun k=>z.cells[k % z.cells.size]!;have hrow:C.toList=rep b z.cells.toList:=by
    show ((Array.range (b * i.size)).map fun k=>z.cells[k % z.cells.size]!).toList=_;rw [<- hzs]; exact Xm9 z.cells b
   obtain ⟨φ',q1,q2,q3⟩:=Xga (w1:=w.alloc _) h e _ _ (Xfn hzr a) C (fun j v hj=>by
    have hjl:j < a * z.cells.toList.length:=by
     rcases Nat.lt_or_ge j (a * z.cells.toList.length) with hh | hh
     ·exact hh
     ·rw [List.getElem?_eq_none (by rw [X7o]; exact hh)] at hj; cases hj
    rw [Xff _ _ _ hjl] at hj;rw [<- Array.getElem?_toList,hrow,Xff _ _ _ (Nat.lt_of_lt_of_le hjl (Nat.mul_le_mul_right _ hab))];exact hj) rfl rfl rfl rfl
   have hCs:C.size=b * i.size:=by simp [C]
   refine ⟨.slice (some ⟨w.heap.size,0,none⟩) a b,w.alloc _,φ',?_,q2,?_,q3⟩
   ·have hb0:¬ ((b:Int) < 0):=by omega
    have hbb:¬ (281474976710656 < (i.bytes) * (b:Int)):=by
     grind
    have ha0:¬ ((a:Int) < 0):=by omega
    have hba:¬ (b < a):=by omega
    by_cases hn:b * i.size=0
    ·have hb:b=0:=by
      rcases Nat.mul_eq_zero.1 hn with hh | hh
      ·exact hh
      ·omega
     subst hb;have ha:a=0:=by omega
     subst ha;have hr1:∀ f:Nat->Value,Array.map f (Array.range 0)=#[]:=fun f=>by simp
     have hC0:C=#[]:=by apply Array.eq_empty_of_size_eq_zero; rw [hCs]; simp
     have w0:IntKind.i64.wrap 0=0:=IntWalk.i64_in _ (by omega);simp [Instr.makeSlice,run_underlying ht,asInt,asIntOf,typeInfo,hi,w0, run_sizeOf hi,newRow,hr1,hC0]
    ·simp [Instr.makeSlice,run_underlying ht,asInt,asIntOf,typeInfo,hi,wa,wb,hb0,hbb,ha0,hba, run_sizeOf hi,X1v hi hz,newRow,hn];rfl
   ·refine .slice _ _ _ _ _ _ _ _ _ q1 h3 hab ?_ (fun _=>⟨.inr ⟨rfl,by simp,by simp,by grind⟩,fun hh=>?_⟩)
    ·grind
    grind
  grind
 grind
end Go.Ab
namespace Go.Ab
theorem Xtn {B0:Nat} {φ:Pmap} {m:Mem} {w w1:World} (h:Rel B0 φ m w) (ty:TypeId) (cs ccs:List Value) (hcs:VRels φ cs ccs) (C:Array Value) (hC:∀ (i:Nat) (v:Value),ccs[i]?=some v->C[i]?=some v)
  (lo hi:Nat) (hlo:C.size <= lo) (esz:w1.heap.size=w.heap.size + 1) (enew:w1.heap[w.heap.size]?=some (.cells C ty (lo,hi))) (eold:∀ j,j < w.heap.size->w1.heap[j]?=w.heap[j]?)
  (eo:w1.os=w.os) (et:w1.tape=w.tape) (eu:w1.output=w.output) :
  ∃ φ':Pmap,φ' m.next=some ⟨w.heap.size,0,0,C.size,0,false⟩/\Rel B0 φ' (m.push (.cells cs 0 0 false none)) w1/\Stp φ m w φ' (m.push (.cells cs 0 0 false none)) w1:=by
 have e:w1.heap=w.heap.push (.cells C ty (lo,hi)):=by
  grind
 have hfresh:∀ pl',φ m.next ≠ some pl':=fun pl' hx=>by have:=(h.blocks _ _ hx).1; omega
 have hle:φ.le (φ.upd m.next ⟨w.heap.size,0,0,C.size,0,false⟩):=fun b p hb=>⟨p,by rw [Pmap.upd_other _ (fun x=>hfresh p (by grind)),hb],.inl rfl⟩
 have hp:=X7i h (.cells C ty (lo,hi)) e eo et eu ⟨w.heap.size,0,0,C.size,0,false⟩ rfl (.cells cs 0 0 false none)
  ⟨rfl,rfl,by simp,C,ty,lo,hi,enew,rfl,fun i v _ hv=>by
   obtain ⟨cv,k1,k2⟩:=hcs.get hv;exact ⟨cv,by grind,k2.mono hle⟩,(fun _ i _ _ hi=>by grind),fun t ht=>nomatch ht⟩
 exact ⟨_,Pmap.upd_same _ _ _,hp.1,hp.2⟩
theorem X6z:∀ {cs:List Value} {l:List UInt8},X1g cs=some l->∃ ns:List Int,cs=ns.map (Value.int .u8)/\l=ns.map fun n=>UInt8.ofNat n.toNat
 | [],l,h=>by simp only [X1g,Option.some.injEq] at h; simp_all
 | v :: cs,l,h=>by
  unfold X1g at h;split at h
  ·grind
  ·rename_i n r h0;cases h0;split at h
   ·rename_i l' hl';cases h;obtain ⟨ns,k1,k2⟩:=X6z hl';exact ⟨n :: ns,by grind,by grind⟩
   grind
  grind
theorem VRels.ints {φ:Pmap}:∀ {ns:List Int} {c:List Value},VRels φ (ns.map (Value.int .u8)) c->c=ns.map (Value.int .u8)
 | [],_,h=>by cases h; rfl
 | n :: ns,_,h=>by
  cases h with
  | cons _ v' _ l' hv hl =>
   cases hv;rw [VRels.ints hl];rfl
theorem Xmv (ns:List Int) (s:ByteArray):ns.foldl (fun r n=>r.push (UInt8.ofNat n.toNat)) s=⟨s.data ++ (ns.map fun n=>UInt8.ofNat n.toNat).toArray⟩:=by
 induction ns generalizing s with
 | nil=>simp
 | cons n ns ih =>
  simp_all
theorem Xvb {P:Program} {B0:Nat} {φ:Pmap} {m m':Mem} {w:World} (h:Rel B0 φ m w) {x cx v:Value} (hx:VRel φ x cx) {src dst:TypeId} (hg:conv (Xc5 P src dst) x m=some (v,m')) :
  ∃ cv w' φ',(convert src dst cx).run P w=.ok cv w'/\Rel B0 φ' m' w'/\VRel φ' v cv/\Stp φ m w φ' m' w':=by
 unfold Xc5 at hg;split at hg
 ·rename_i k0 k hs hd;cases hx <;> simp only [conv,Option.some.injEq,Prod.mk.injEq,reduceCtorEq] at hg
  obtain ⟨rfl,rfl⟩:=hg;exact ⟨_,w,φ,by simp [convert,run_underlying,hs,hd,Conv.intToInt],h,.int _ _,.refl _ _ _⟩
 ·rename_i hs hd;cases hx <;> simp only [conv,Option.some.injEq,Prod.mk.injEq,reduceCtorEq] at hg
  obtain ⟨rfl,rfl⟩:=hg;exact ⟨_,w,φ,by simp [convert,run_underlying,hs,hd],h,.string _,.refl _ _ _⟩
 ·rename_i e hs hd;split at hg
  ·rename_i he;cases hx <;> simp only [conv,Option.some.injEq,Prod.mk.injEq,reduceCtorEq] at hg
   rename_i s;obtain ⟨rfl,rfl⟩:=hg;have hsz:s.size=s.data.toList.length:=by rfl
   have hge:=grownCap_ge w s.size 0 e;have hcs:(Lib.bytesCells w e s).size=grownCap w s.size 0 e:=by
    simp only [Lib.bytesCells,Array.size_append,Array.size_map,Array.size_replicate];have:s.data.size=s.size:=rfl;omega
   obtain ⟨φ',q1,q2,q3⟩:=Xtn (w1:=Lib.bytesWorld w e s) h e (s.data.toList.map fun b=>.int .u8 b.toNat) (s.data.toList.map fun b=>.int .u8 b.toNat)
    (VRels.of_get _ _ rfl (fun i v hv=>⟨v,hv,by
     rw [List.getElem?_map] at hv;cases hu:s.data.toList[i]? with
     | none=>grind
     | some u=>rw [hu] at hv; cases hv; exact .int _ _⟩))
    (Lib.bytesCells w e s) (fun i v hv=>by
     have hil:i < (s.data.toList.map fun b=>Value.int .u8 b.toNat).length:=by
      grind
     rw [Lib.bytesCells,Array.getElem?_append_left (by grind),<- Array.getElem?_toList]
     grind)
    _ _ (Nat.le_refl _) (Lib.bytesWorld_size w e s) (Lib.bytesWorld_at_new w e s) (Lib.bytesWorld_at_old w e s)
    rfl rfl rfl
   refine ⟨_,_,φ',Lib.run_convert_string_bytes w src dst e s hs hd he,q2,?_,q3⟩;exact .slice _ _ _ _ _ _ _ _ _ q1 (Nat.le_refl _) hge (by simp) (fun _=>⟨.inr ⟨rfl,by simp,by simp,by grind⟩,fun hh=>by omega⟩)
  trivial
 ·rename_i e hs hd;split at hg
  ·rename_i he;cases hx <;> simp only [conv,Option.some.injEq,Prod.mk.injEq,reduceCtorEq] at hg
   ·obtain ⟨rfl,rfl⟩:=hg;refine ⟨_,w,φ,by rw [run_convert_bytes_string w src dst e none 0 0 hs he hd]; rfl,h,?_,.refl _ _ _⟩;exact .string _
   ·rename_i b o es n t B O cap pl hb hes hn hr hp;split at hg
    ·rename_i cs hcs;split at hg
     ·rename_i l hl;simp only [Option.some.injEq,Prod.mk.injEq] at hg;obtain ⟨rfl,rfl⟩:=hg;obtain ⟨ns,e1,e2⟩:=X6z hl;subst e1;have key:(loadCells ⟨B,O,none⟩ n).run P w=.ok (ns.map (Value.int .u8)).toArray w:=by
       by_cases hn0:n=0
       ·subst hn0;rw [Xn] at hcs; unfold Xy at hcs;split at hcs
        ·split at hcs
         ·simp only [List.take_zero,Option.some.injEq] at hcs;rw [<- hcs]; rfl
         grind
        ·cases hcs
       ·have hm:∃ c fro ro ty',m.get b=some (.cells c (t / 2) fro ro ty'):=by
         rw [Xn] at hcs; unfold Xy at hcs;split at hcs
         ·rename_i c ver fro ro ty' hm;split at hcs
          ·rename_i hc;simp only [Bool.and_eq_true,decide_eq_true_eq,Option.some.injEq] at hc;exact ⟨c,fro,ro,ty',by rw [hm,hc.1]⟩
          ·cases hcs
         ·cases hcs
        obtain ⟨c,fro,ro,ty',hm⟩:=hm;obtain ⟨_,o',h2,h3⟩:=h.blocks b pl hb;rw [hm] at h2;cases h2;have hver:=h3.1;obtain ⟨h4,_⟩:=hp hver.symm;rcases h4 with h4 | ⟨h4,h5,h6,h7⟩
        ·omega
        have hptr:VRel φ _ _:=.ptr b o _ B O pl hb (by omega) (fun _=>⟨h4,h5,h6⟩);obtain ⟨ccs,k1,k2,k3⟩:=X2z h hptr hcs;rw [VRels.ints k1] at k2 k3;have:=run_loadCells_list (P:=P) w _ _ k3
        grind
      refine ⟨_,w,φ,by rw [run_convert_bytes_string w src dst e _ n cap hs he hd,run_bytesToString w _ _ _ ns key],h,?_,.refl _ _ _⟩;rw [Xmv,e2];have e0:(ByteArray.empty.data ++ (ns.map _).toArray)=(ns.map fun n=>UInt8.ofNat n.toNat).toArray:=Array.empty_append;rw [e0];exact .string _
     grind
    grind
  trivial
 ·rename_i k hs hd;cases hx <;> simp only [conv,Option.some.injEq,Prod.mk.injEq,reduceCtorEq] at hg
  obtain ⟨rfl,rfl⟩:=hg;exact ⟨_,w,φ,by simp [convert,run_underlying,hs,hd,Conv.intToString],h,.string _,.refl _ _ _⟩
 ·rename_i t hs hd;split at hg
  ·rename_i i hi;cases hx <;> simp only [conv,Option.some.injEq,Prod.mk.injEq,reduceCtorEq] at hg
   ·obtain ⟨rfl,rfl⟩:=hg;exact ⟨_,w,φ,by simp [convert,run_underlying hs,run_underlying hd,Conv.unsafePointer],h,.nilPtr,.refl _ _ _⟩
   ·rename_i b o r B O pl hb hr hp;split at hg
    ·rename_i c ver _ _ _ hm;split at hg
     ·rename_i hcond;simp only [Bool.and_eq_true,decide_eq_true_eq] at hcond;obtain ⟨⟨hc1,hc2⟩,hc3⟩:=hcond;simp at hg;obtain ⟨rfl,rfl⟩:=hg;have hptr:VRel φ (.pointer (some ⟨b,o,some r⟩)) (.pointer (some ⟨B,O,none⟩)):=.ptr b o r B O pl hb hr hp;obtain ⟨pl',p1,p2,p3,p4,p5,p6⟩:=Xeg h hptr hm (by rw [hc1]);simp only [Addr.mk.injEq] at p5;obtain ⟨p5,p7,_⟩:=p5;simp only at p4 p7;obtain ⟨_,_,h6,C,ty,lo,hi',h7,h8,h9,_⟩:=p6;have hlt:o < c.length:=by simp_all
      obtain ⟨cv,k1,_⟩:=h9 o c[o] (by omega) (List.getElem?_eq_getElem hlt);obtain ⟨hin,_⟩:=Array.getElem?_eq_some_iff.1 k1;have hsh:w.shape? B=some (ty,C.size):=by rw [p5]; simp [World.shape?,h7]
      refine ⟨_,w,φ,Lib.run_to_unsafe w _ hs hd hi (by simp [Nat.blt,Nat.ble_eq] at hc3; omega) hsh (by grind),h,hptr,.refl _ _ _⟩
     grind
    grind
  trivial
 ·rename_i u hs hd;split at hg
  ·rename_i i hi;cases hx <;> simp only [conv,Option.some.injEq,Prod.mk.injEq,reduceCtorEq] at hg
   ·obtain ⟨rfl,rfl⟩:=hg;exact ⟨_,w,φ,by simp [convert,run_underlying hs,run_underlying hd,Conv.unsafePointer],h,.nilPtr,.refl _ _ _⟩
   ·rename_i b o r B O pl hb hr hp;split at hg
    ·rename_i c ver _ _ t hm;split at hg
     ·rename_i hcond;simp only [Bool.and_eq_true,decide_eq_true_eq] at hcond;obtain ⟨⟨hc1,hc2⟩,hc3⟩:=hcond;simp at hg;obtain ⟨rfl,rfl⟩:=hg;have hptr:VRel φ (.pointer (some ⟨b,o,some r⟩)) (.pointer (some ⟨B,O,none⟩)):=.ptr b o r B O pl hb hr hp;obtain ⟨pl',p1,p2,p3,p4,p5,p6⟩:=Xeg h hptr hm (by rw [hc1]);simp only [Addr.mk.injEq] at p5;obtain ⟨p5,p7,_⟩:=p5;simp only at p4 p7;obtain ⟨_,_,h6,C,ty,lo,hi',h7,h8,h9,_,h11⟩:=p6;obtain ⟨y1,y2,_⟩:=h11 t rfl;obtain ⟨y3,y4,y5⟩:=y2 (Nat.eq_of_beq_eq_true hc2);have hsh:w.shape? B=some (ty,C.size):=by rw [p5]; simp [World.shape?,h7]
      have hO:O=o:=by omega
      subst hO;refine ⟨_,w,φ,Lib.run_from_unsafe w _ hs hd hi hsh ?_,h,hptr,.refl _ _ _⟩;unfold Xxy at hc3
      grind
     grind
    grind
  trivial
 trivial
end Go.Ab
namespace Go.Ab
theorem Xso {P:Program} {α β:Type} {w:World} (f:α->Sem β) (g:α->β) (xs:Array α) (h:∀ x ∈ xs.toList,(f x).run P w=.ok (g x) w):(xs.mapM f).run P w=.ok (xs.map g) w:=by
 rw [Array.mapM_eq_mapM_toList];have key:∀ (l:List α),(∀ x ∈ l,(f x).run P w=.ok (g x) w)->(l.mapM f).run P w=.ok (l.map g) w:=by
  intro l
  induction l with
  | nil=>simp
  | cons x l ih =>
   simp_all
 simp only [Sem.run_map,key _ h,Result.andThen_ok];congr 1
 grind
def placesOf (P:Program) (fs:Array Field):Option (List (Nat × Nat)):=
 if fs.toList.all fun f=>(P.info? f.type).isSome then some (fs.toList.map fun f=>(f.offset,P.cellsOf f.type)) else none
theorem run_places {P:Program} {w:World} {fs:Array Field} {pls:List (Nat × Nat)} (h:placesOf P fs=some pls) :
  (fs.mapM fun (f:Field)=>(do pure (f.offset,<- sizeOf f.type):Sem (Nat × Nat))).run P w=.ok pls.toArray w:=by
 unfold placesOf at h;split at h
 ·rename_i ha;cases h;rw [Xso _ (fun f=>(f.offset,P.cellsOf f.type)) fs (fun f hf=>by
   have:=List.all_eq_true.1 ha f hf;obtain ⟨i,hi⟩:=Option.isSome_iff_exists.1 this;simp [run_sizeOf hi,Program.cellsOf,hi])]
  congr 1
  grind
 grind
theorem Xca {P:Program} {φ:Pmap} {w:World} {t:TypeId} {fs:Array Field} {i:TypeInfo} {z:Value} (ht:P.underlying t=some (.struct fs)) (hi:P.info? t=some i) (hz:i.zero=some z) (hp:X4j z=true)
  {pls:List (Nat × Nat)} (hpl:placesOf P fs=some pls) {ps cps:List (Nat × Value)} (hps:X4p φ ps cps) {v:Value} (hg:Xg z.cells.toList pls ps=some v) :
  ∃ cv,(Instr.build t cps.toArray).run P w=.ok cv w/\VRel φ v cv:=by
 rw [Xpw] at hg; unfold Xj9 at hg;split at hg
 ·rename_i cs hcs;cases hg;obtain ⟨R,k1,k2⟩:=Xg9 (fun k=>pls[k]?) hps (C:=z.cells) (X2a (X1d hp)) hcs;refine ⟨.agg R,?_,.agg _ _ (by omega)⟩;have hpr:=run_places (w:=w) hpl;have k1':Instr.fill (fun x=>(pls.toArray)[x]?) z.cells cps=some R:=by simp_all
  simp only [Instr.build,Sem.run_bind,X1v hi hz,run_underlying ht,Result.andThen_ok,hpr];simp [k1]
 grind
theorem Xdt {P:Program} {φ:Pmap} {w:World} {t e:TypeId} {n:Nat} {i ie:TypeInfo} {z:Value} (ht:P.underlying t=some (.array n e)) (hi:P.info? t=some i) (hie:P.info? e=some ie) (hz:i.zero=some z) (hp:X4j z=true)
  {ps cps:List (Nat × Value)} (hps:X4p φ ps cps) {v:Value} (hg:Xd6 z.cells.toList ie.size ps=some v) :
  ∃ cv,(Instr.build t cps.toArray).run P w=.ok cv w/\VRel φ v cv:=by
 unfold Xd6 at hg;split at hg
 ·rename_i cs hcs;cases hg;obtain ⟨R,k1,k2⟩:=Xg9 (fun k=>some (k * ie.size,ie.size)) hps (C:=z.cells) (X2a (X1d hp)) hcs;refine ⟨.agg R,?_,.agg _ _ (by omega)⟩;simp [Instr.build,X1v hi hz,run_underlying ht,run_sizeOf hie,k1]
 grind
theorem X71 {P:Program} {φ:Pmap} {w:World} {t:TypeId} {i:TypeInfo} {d:TypeDesc} (hi:P.info? t=some i) (hd:P.underlying t=some d) {cs ccs:Array Value} (h:VRels φ cs.toList ccs.toList) {off:Nat} {v:Value}
  (hg:partOf (X5c d) i.size off cs=some v):∃ cv,(part t ccs off).run P w=.ok cv w/\VRel φ v cv:=by
 unfold partOf at hg;split at hg
 ·rename_i ha;cases hg;refine ⟨.agg (ccs.extract off (off + i.size)),by simp [part,X9q hd,ha,run_sizeOf hi],.agg _ _ ?_⟩;simp only [Array.toList_extract];exact (h.drop _).take _
 ·rename_i ha;obtain ⟨cv,k1,k2⟩:=h.get (by simpa using hg);refine ⟨cv,?_,k2⟩;rw [Array.getElem?_toList] at k1;simp [part,X9q hd,ha,k1]
theorem Xsj {P:Program} {φ:Pmap} {w:World} {t:TypeId} {fs:Array Field} {k:Nat} {f:Field} {i:TypeInfo} {d:TypeDesc} (ht:P.underlying t=some (.struct fs)) (hf:fs[k]?=some f) (hi:P.info? f.type=some i) (hd:P.underlying f.type=some d)
  {x cx v:Value} (hx:VRel φ x cx) (hg:Xqa (X5c d) i.size f.offset x=some v):∃ cv,(Instr.field t cx k).run P w=.ok cv w/\VRel φ v cv:=by
 unfold Xqa at hg;cases hx <;> try grind
 rename_i a a' h;obtain ⟨cv,k1,k2⟩:=X71 (w:=w) hi hd h hg;exact ⟨cv,by simp [Instr.field,run_underlying ht,hf,asAgg,k1],k2⟩
theorem Xii {P:Program} {φ:Pmap} {w:World} {t:TypeId} {fs:Array Field} {k:Nat} {f:Field} {i:TypeInfo} (ht:P.underlying t=some (.struct fs)) (hf:fs[k]?=some f) (hi:P.info? f.type=some i) (hs:i.size ≠ 0)
  {x cx v:Value} (hx:VRel φ x cx) (hg:Xx f.offset x=some v):∃ cv,(Instr.fieldAt t cx k).run P w=.ok cv w/\VRel φ v cv:=by
 rw [Xg1] at hg; unfold X8y at hg;cases hx <;> simp only [reduceCtorEq,Option.some.injEq] at hg;rename_i b o r B O pl hb hr hp;subst hg;refine ⟨.pointer (some ⟨B,O + f.offset,none⟩),by simp [Instr.fieldAt,run_underlying ht,hf,Instr.sureAddr,fieldPlace,run_sizeOf hi,hs,Addr.add_none],?_⟩;exact .ptr b _ r _ _ pl hb hr (fun hh=>by omega)
theorem Xcx {P:Program} {φ:Pmap} {w:World} {t e:TypeId} {n:Nat} {i:TypeInfo} (ht:P.underlying t=some (.array n e)) (hi:P.info? e=some i)
  {x cx y cy v:Value} (hx:VRel φ x cx) (hy:VRel φ y cy) (hg:X20 n i.size x y=some v):∃ cv,(Instr.indexAt t cx cy).run P w=.ok cv w/\VRel φ v cv:=by
 unfold X20 at hg;cases hx <;> try grind
 rename_i b o r B O pl hb hr hp;cases hy <;> try simp only [reduceCtorEq] at hg
 rename_i k j;split at hg
 ·rename_i hj;simp only [Bool.and_eq_true,decide_eq_true_eq] at hj;simp only [Option.some.injEq] at hg;subst hg;refine ⟨.pointer (some ⟨B,O + j.toNat * i.size,none⟩),by simp [Instr.indexAt,run_underlying ht,asIntOf,Instr.sureAddr,hj,run_sizeOf hi,Addr.add_none],?_⟩;exact .ptr b _ r _ _ pl hb hr (fun hh=>by omega)
 grind
theorem Xdu {P:Program} {φ:Pmap} {w:World} {t e:TypeId} {i:TypeInfo} (ht:P.underlying t=some (.slice e)) (hi:P.info? e=some i)
  {x cx y cy v:Value} (hx:VRel φ x cx) (hy:VRel φ y cy) (hg:Xa i.size x y=some v):∃ cv,(Instr.indexAt t cx cy).run P w=.ok cv w/\VRel φ v cv:=by
 rw [Xbx] at hg; unfold X6a at hg;cases hx <;> try grind
 rename_i b o es n tt B O cap pl hb hes hn hr hp;cases hy <;> try simp only [reduceCtorEq] at hg
 rename_i k j;split at hg
 ·rename_i hj;simp only [Bool.and_eq_true,decide_eq_true_eq,Option.some.injEq] at hj;obtain ⟨⟨h0,h1⟩,h2⟩:=hj;subst h2;simp only [Option.some.injEq] at hg;subst hg;refine ⟨.pointer (some ⟨B,O + j.toNat * i.size,none⟩),by simp [Instr.indexAt,run_underlying ht,asIntOf,h0,h1,run_sizeOf hi,Addr.add_none],?_⟩;refine .ptr b _ _ _ _ pl hb hr (fun hh=>?_);omega
 grind
theorem Xjx {P:Program} {φ:Pmap} {w:World} {t e:TypeId} {n:Nat} {i:TypeInfo} {d:TypeDesc} (ht:P.underlying t=some (.array n e)) (hi:P.info? e=some i) (hd:P.underlying e=some d)
  {x cx y cy v:Value} (hx:VRel φ x cx) (hy:VRel φ y cy) (hg:Xby n i.size (X5c d) x y=some v):∃ cv,(Instr.index t cx cy).run P w=.ok cv w/\VRel φ v cv:=by
 unfold Xby at hg;cases hx <;> try grind
 rename_i a a' h;cases hy <;> try simp only [reduceCtorEq] at hg
 rename_i k j;split at hg
 ·rename_i hj;simp only [Bool.and_eq_true,decide_eq_true_eq] at hj;obtain ⟨cv,k1,k2⟩:=X71 (w:=w) hi hd h hg;exact ⟨cv,by simp [Instr.index,run_underlying ht,asIntOf,hj,run_sizeOf hi,k1],k2⟩
 grind
theorem Xju {P:Program} {φ:Pmap} {w:World} {t:TypeId} (ht:P.underlying t=some .string)
  {x cx y cy v:Value} (hx:VRel φ x cx) (hy:VRel φ y cy) (hg:Xe x y=some v):∃ cv,(Instr.index t cx cy).run P w=.ok cv w/\VRel φ v cv:=by
 rw [Xbe] at hg; unfold Xaf at hg;cases hx <;> try grind
 rename_i s;cases hy <;> try simp only [reduceCtorEq] at hg
 rename_i k j;split at hg
 ·rename_i hj;split at hg
  ·rename_i b hb;cases hg;have e:s[j.toNat]?=some b:=by
    have:j.toNat < s.data.toList.length:=by
     grind
    have hsz:j.toNat < s.size:=by simp_all
    rw [List.getElem?_eq_getElem this] at hb;rw [getElem?_pos s j.toNat hsz];simp only [Array.getElem_toList,Option.some.injEq] at hb;exact congrArg some hb
   refine ⟨.int .u8 _,by simp [Instr.index,run_underlying ht,asIntOf,hj,e],.int _ _⟩
  grind
 grind
theorem Xmy {P:Program} {φ:Pmap} {w:World} {x cx v:Value} {k:Nat} (hx:VRel φ x cx) (hg:X3m x k=some v):∃ cv,(Instr.extract cx k).run P w=.ok cv w/\VRel φ v cv:=by
 rw [X5k] at hg; unfold Xdm at hg;cases hx <;> try grind
 rename_i a a' h;obtain ⟨cv,k1,k2⟩:=h.get (by simpa using hg);rw [Array.getElem?_toList] at k1;exact ⟨cv,by simp [Instr.extract,k1],k2⟩
end Go.Ab
namespace Go.Ab
inductive ORel (φ:Pmap):Option Value->Option Value->Prop where
 | none:ORel φ none none
 | some (v v':Value) (h:VRel φ v v'):ORel φ (some v) (some v')
theorem X9w {P:Program} {φ:Pmap} {w:World} {x cx:Value} (hx:VRel φ x cx) {dflt lim y r:Nat} (hg:bound (some x) dflt lim=some r) (hy:lim <= y) (code:BoundsCode) :
  (Instr.sliceBound cx y code).run P w=.ok r w/\r <= lim:=by
 rw [Xlr] at hg; unfold Xlv at hg;cases hx <;> try simp only [reduceCtorEq] at hg
 rename_i k n;split at hg
 ·rename_i h;simp only [Bool.and_eq_true,decide_eq_true_eq] at h;cases hg;have h2:n <= (y:Int):=by omega
  exact ⟨by simp [Instr.sliceBound,asIntOf,h.1,h2],by omega⟩
 ·cases hg
theorem X3k {P:Program} {φ:Pmap} {w:World} (isSlice:Bool) {len cap:Nat} {lo hi clo chi:Option Value} (hlo:ORel φ lo clo) (hhi:ORel φ hi chi) {h l:Nat} (hh:bound hi len len=some h) (hl:bound lo 0 h=some l) (hc:len <= cap) :
  (Instr.sliceBounds isSlice len cap clo chi none).run P w=.ok (l,h,cap) w/\l <= h/\h <= len:=by
 have h1:∃ X:Sem Nat,X.run P w=.ok h w/\h <= len/\(match chi with | some v=>Instr.sliceBound v cap (if isSlice then .sliceAcap else .sliceAlen) | none=>pure len)=X:=by
  cases hhi with
  | none=>simp only [bound,Option.some.injEq] at hh; simp_all
  | some v v' hv=>obtain ⟨k1,k2⟩:=X9w (P:=P) (w:=w) hv hh hc (if isSlice then .sliceAcap else .sliceAlen); exact ⟨_,k1,k2,rfl⟩
 obtain ⟨X,hX,hle,eX⟩:=h1;have h2:∃ Y:Sem Nat,Y.run P w=.ok l w/\l <= h/\(match clo with | some v=>Instr.sliceBound v h .sliceB | none=>pure 0)=Y:=by
  cases hlo with
  | none=>simp only [bound,Option.some.injEq] at hl; subst hl; simp
  | some v v' hv=>obtain ⟨k1,k2⟩:=X9w (P:=P) (w:=w) hv hl (Nat.le_refl h) .sliceB; grind
 obtain ⟨Y,hY,hle2,eY⟩:=h2;refine ⟨?_,hle2,hle⟩;unfold Instr.sliceBounds;cases hhi <;> cases hlo <;> simp_all
theorem Xj6 {P:Program} {φ:Pmap} {w:World} {t:TypeId} (ht:P.underlying t=some .string) {x cx v:Value} {lo hi clo chi:Option Value} (hx:VRel φ x cx) (hlo:ORel φ lo clo) (hhi:ORel φ hi chi)
  (hg:Xw x lo hi=some v):∃ cv,(Instr.sliceAt t cx clo chi none).run P w=.ok cv w/\VRel φ v cv:=by
 rw [X4y] at hg; unfold Xb3 at hg;cases hx <;> try simp only [reduceCtorEq] at hg
 rename_i s;split at hg
 ·rename_i h hh;split at hg
  ·rename_i l hl;cases hg;obtain ⟨k1,k2,k3⟩:=X3k (P:=P) (w:=w) false hlo hhi hh hl (Nat.le_refl _);refine ⟨.string (s.extract l h),by simp [Instr.sliceAt,Instr.slice,run_underlying ht,k1],?_⟩;have e:s.extract l h=⟨((s.data.toList.take h).drop l).toArray⟩:=by
    apply ByteArray.ext;apply Array.ext';rw [ByteArray.data_extract];simp [List.drop_take]
   rw [e];exact .string _
  grind
 grind
theorem Xmq {P:Program} {φ:Pmap} {w:World} {t e:TypeId} {i:TypeInfo} (ht:P.underlying t=some (.slice e)) (hi':P.info? e=some i) {x cx v:Value} {lo hi clo chi:Option Value} (hx:VRel φ x cx) (hlo:ORel φ lo clo) (hhi:ORel φ hi chi)
  (hg:X7a i.size x lo hi=some v):∃ cv,(Instr.sliceAt t cx clo chi none).run P w=.ok cv w/\VRel φ v cv:=by
 unfold X7a at hg;cases hx <;> try simp only [reduceCtorEq] at hg
 ·split at hg
  ·rename_i h hh;split at hg
   ·rename_i l hl;cases hg;obtain ⟨k1,k2,k3⟩:=X3k (P:=P) (w:=w) true hlo hhi hh hl (Nat.le_refl _);obtain rfl:h=0:=by omega
    obtain rfl:l=0:=by omega
    exact ⟨.slice _ 0 0,by simp [Instr.sliceAt,Instr.slice,run_underlying ht,k1,run_sizeOf hi'],.nilSlice⟩
   grind
  ·cases hg
 ·rename_i b o es n tt B O cap pl hb hes hn hr hp;split at hg
  ·rename_i h hh;split at hg
   ·rename_i l hl;split at hg
    ·rename_i hsp;simp only [Option.some.injEq] at hsp;subst hsp;simp at hg;subst hg;obtain ⟨k1,k2,k3⟩:=X3k (P:=P) (w:=w) true hlo hhi hh hl hn;refine ⟨.slice (some ⟨B,if cap=l then O else O + l * i.size,none⟩) (h - l) (cap - l),?_,?_⟩
     ·simp only [Instr.sliceAt,Instr.slice,Sem.run_bind,run_underlying ht,Result.andThen_ok,k1,run_sizeOf hi',Sem.run_pure,Option.map_some,Addr.add_none];split <;> rfl
     ·refine .slice _ _ _ _ _ _ _ _ pl hb hes (by omega) (by grind) (fun hh2=>?_);have hv:tt / 2=pl.ver:=by grind
      obtain ⟨q1,q2⟩:=hp hv;refine ⟨?_,fun hh3=>?_⟩
      ·by_cases hcl:cap=l
       ·omega
       ·rcases q1 with q1 | ⟨q1,q3,q4,q5⟩
        ·omega
        ·refine .inr ⟨q1,by omega,by grind,?_⟩;rw [if_neg hcl,Nat.add_assoc,<- Nat.add_mul,show l + (cap - l)=cap by omega];exact q5
      grind
    grind
   grind
  ·cases hg
theorem Xk0 {P:Program} {φ:Pmap} {w:World} {t e:TypeId} {i:TypeInfo} (ht:P.underlying t=some (.slice e)) (hi':P.info? e=some i) {x cx v:Value} {lo clo:Option Value} {hi mx chi cmx:Value} (hx:VRel φ x cx) (hlo:ORel φ lo clo) (hhi:VRel φ hi chi) (hmx:VRel φ mx cmx)
  (hg:Xcm i.size x lo hi mx=some v):∃ cv,(Instr.sliceAt t cx clo (some chi) (some cmx)).run P w=.ok cv w/\VRel φ v cv:=by
 unfold Xcm at hg;cases hx <;> try grind
 case nilSlice =>
  cases hhi <;> try grind
  rename_i k1 hn1;cases hmx <;> try simp only [reduceCtorEq] at hg
  rename_i k2 hn2;split at hg
  ·split at hg
   ·rename_i hz;obtain ⟨_,_,rfl,rfl⟩:=hz;cases hg;cases hlo;refine ⟨.slice _ 0 0,?_,.nilSlice⟩;simp [Instr.sliceAt,Instr.slice,Instr.sliceBounds,Instr.sliceBound,asIntOf,run_underlying ht,run_sizeOf hi']
   grind
  grind
 rename_i b o es n tt B O cap pl hb hes hn hr hp;cases hhi <;> try grind
 rename_i k1 hn1;cases hmx <;> try simp only [reduceCtorEq] at hg
 rename_i k2 hn2;split at hg
 ·rename_i hkk;subst hkk;split at hg
  ·rename_i h hh;split at hg
   ·rename_i l hl;split at hg
    ·rename_i hsp;simp at hsp;subst hsp;simp at hg;subst hg;have hb1:=X9w (P:=P) (w:=w) (dflt:=n)  (.int k2 hn1:VRel φ _ _) (by simpa only [bound] using hh) hn .slice3Acap;have hb2:=X9w (P:=P) (w:=w) (dflt:=n) (lim:=h) (y:=h) (r:=h) (.int k1 hn1:VRel φ _ _) (by
      simp only [Xlr,Xlv] at hh ⊢;split at hh
      ·rename_i hc;simp only [Bool.and_eq_true,decide_eq_true_eq] at hc;cases hh;rw [if_pos (by simp only [Bool.and_eq_true,decide_eq_true_eq]; omega)]
      ·grind) (Nat.le_refl _) .slice3B
     have h2:∃ Y:Sem Nat,Y.run P w=.ok l w/\l <= h/\(match clo with | some v=>Instr.sliceBound v h .slice3C | none=>pure 0)=Y:=by
      cases hlo with
      | none=>simp only [bound,Option.some.injEq] at hl; subst hl; simp
      | some v v' hv=>obtain ⟨k1,k2⟩:=X9w (P:=P) (w:=w) hv hl (Nat.le_refl h) .slice3C; grind
     obtain ⟨Y,hY,hle2,eY⟩:=h2;have hbs:(Instr.sliceBounds true n cap clo (some (.int k1 hn1)) (some (.int k2 hn1))).run P w=.ok (l,h,h) w:=by
      unfold Instr.sliceBounds;cases hlo <;> simp_all
     refine ⟨.slice (some ⟨B,if h=l then O else O + l * i.size,none⟩) (h - l) (h - l),?_,?_⟩
     ·simp only [Instr.sliceAt,Instr.slice,Sem.run_bind,run_underlying ht,Result.andThen_ok,hbs,run_sizeOf hi',Sem.run_pure,Option.map_some,Addr.add_none];split <;> rfl
     ·refine .slice _ _ _ _ _ _ _ _ pl hb hes (Nat.le_refl _) (by omega) (fun hh2=>?_);obtain ⟨q1,q2⟩:=hp (by omega);refine ⟨?_,fun _=>rfl⟩;by_cases hcl:h=l
      ·omega
      ·rcases q1 with q1 | ⟨q1,q3,q4,q5⟩
       ·omega
       ·refine .inr ⟨q1,by omega,by grind,?_⟩;rw [if_neg hcl,Nat.add_assoc,<- Nat.add_mul,show l + (h - l)=h by omega];have:=Nat.mul_le_mul_right i.size (show h <= cap by omega);omega
    grind
   grind
  grind
 grind
end Go.Ab
namespace Go.Ab
theorem Xhl {B0:Nat} {φ:Pmap} {m:Mem} {w:World} (hR:Rel B0 φ m w) {b o r B O n size l h:Nat} {cs:List Value} (hptr:VRel φ (.pointer (some ⟨b,o,some r⟩)) (.pointer (some ⟨B,O,none⟩)))
  (hc:getCells m ⟨b,o,some r⟩ (n * size)=some cs) (hs:1 <= size) (hlh:l <= h) (hhn:h <= n) :
  VRel φ (.slice (some ⟨b,o + l * size,some size⟩) (h - l) (if h=n then 2 * r + 1 else 2 * r)) (.slice (some ⟨B,if n=l then O else O + l * size,none⟩) (h - l) (n - l)):=by
 obtain ⟨ccs,q1,q2,q3⟩:=X2z hR hptr hc;have hm:∃ c fro ro ty',m.get b=some (.cells c r fro ro ty'):=by
  rw [Xn] at hc; unfold Xy at hc;split at hc
  ·grind
  ·cases hc
 obtain ⟨c,fro,ro,ty',hm⟩:=hm;obtain ⟨pl,p1,p2,p3,p4,p5,p6⟩:=Xeg hR hptr hm rfl;simp only [Addr.mk.injEq] at p5;obtain ⟨p5,p7,_⟩:=p5;simp only at p4 p7;obtain ⟨_,_,_,C,ty,lo,hi,hC1,hC2,_⟩:=p6;refine .slice _ _ _ _ _ _ _ _ pl p1 hs (by omega) (by grind) (fun _=>⟨?_,fun hh=>?_⟩)
 ·by_cases hnl:n=l
  ·omega
  ·have hpos:0 < n * size:=Nat.mul_pos (by omega) hs;have hlt:O + (n * size - 1) < C.size:=by
    have hcell:=q3 (n * size - 1) ccs[n * size - 1] (List.getElem?_eq_getElem (by omega));rw [Addr.add_none,p5,cell?_of hC1] at hcell;obtain ⟨hh,_⟩:=Array.getElem?_eq_some_iff.1 hcell;exact hh
   refine .inr ⟨p5,by omega,by grind,?_⟩;rw [if_neg hnl,Nat.add_assoc,<- Nat.add_mul,show l + (n - l)=n by omega];omega
 grind
theorem Xjg {P:Program} {B0:Nat} {φ:Pmap} {m:Mem} {w:World} (hR:Rel B0 φ m w) {t e:TypeId} {n:Nat} {i:TypeInfo} (ht:P.underlying t=some (.array n e)\/∃ a,P.underlying t=some (.pointer a)/\P.underlying a=some (.array n e)) (hi':P.info? e=some i)
  {x cx v:Value} {lo hi clo chi:Option Value} (hx:VRel φ x cx) (hlo:ORel φ lo clo) (hhi:ORel φ hi chi)
  (hg:X3v n i.size x lo hi m=some v):∃ cv,(Instr.sliceAt t cx clo chi none).run P w=.ok cv w/\VRel φ v cv:=by
 unfold X3v at hg;split at hg
 ·rename_i b o r;split at hg
  ·cases hg
  ·rename_i cs hcs;split at hg
   ·rename_i h hh;split at hg
    ·rename_i l hl;split at hg
     ·rename_i hs;cases hg;have hs:=Nat.le_of_ble_eq_true hs;cases hx with
      | ptr _ _ _ B O pl hb hr hp =>
      obtain ⟨k1,k2,k3⟩:=X3k (P:=P) (w:=w) false hlo hhi hh hl (Nat.le_refl _);refine ⟨_,?_,Xhl hR (.ptr b o r B O pl hb hr hp) hcs hs k2 k3⟩;rcases ht with ht | ⟨a,ht,hta⟩
      ·simp only [Instr.sliceAt,Sem.run_bind,run_underlying ht,Result.andThen_ok,Instr.sureAddr,k1,run_sizeOf hi',Sem.run_pure,Addr.add_none];split <;> rfl
      ·simp only [Instr.sliceAt,Instr.slice,Sem.run_bind,run_underlying ht,run_underlying hta,Result.andThen_ok,asAddr,k1,run_sizeOf hi',Sem.run_pure,Addr.add_none];split <;> rfl
     grind
    grind
   ·cases hg
 ·cases hg
theorem run_getObj_map {P:Program} {w:World} {r:Nat} {es:Array MapEntry} {clock:Nat} (h:w.heap[r]?=some (.map es clock)):(getObj r).run P w=.ok (.map es clock) w:=by
 simp only [getObj,Sem.run,h]
theorem Xog {P:Program} {B0:Nat} {φ:Pmap} {m:Mem} {w:World} (hR:Rel B0 φ m w) {t ty:TypeId} {d:TypeDesc} (ht:P.underlying t=some d) (hd:d=.string\/(∃ e,d=.slice e)\/(∃ k e,d=.map k e)) {x cx v:Value} (hx:VRel φ x cx)
  (hfit:match d,x with | .string,.string _=>true | .slice _,.slice ..=>true | .map ..,.map _=>true | _,_=>false)
  (hg:aLen x m=some v):∃ cv,(Builtin.len_ #[t] ty #[cx]).run P w=.ok cv w/\VRel φ v cv:=by
 unfold aLen at hg;cases hx <;> try simp only [reduceCtorEq] at hg
 ·rename_i s;rcases hd with rfl | ⟨e,rfl⟩ | ⟨k,e,rfl⟩ <;> simp only [reduceCtorEq,Bool.false_eq_true] at hfit;cases hg;exact ⟨_,by simp [Builtin.len_,run_underlying ht,goInt],.int _ _⟩
 ·rcases hd with rfl | ⟨e,rfl⟩ | ⟨k,e,rfl⟩ <;> simp only [reduceCtorEq,Bool.false_eq_true] at hfit;cases hg;exact ⟨_,by simp [Builtin.len_,run_underlying ht,goInt],.int _ _⟩
 ·rcases hd with rfl | ⟨e,rfl⟩ | ⟨k,e,rfl⟩ <;> simp only [reduceCtorEq,Bool.false_eq_true] at hfit;cases hg;exact ⟨_,by simp [Builtin.len_,run_underlying ht,goInt],.int _ _⟩
 ·rcases hd with rfl | ⟨e,rfl⟩ | ⟨k,e,rfl⟩ <;> simp only [reduceCtorEq,Bool.false_eq_true] at hfit;cases hg;exact ⟨_,by simp [Builtin.len_,run_underlying ht,goInt],.int _ _⟩
 ·rename_i b R pl hb hp;rcases hd with rfl | ⟨e,rfl⟩ | ⟨k,e,rfl⟩ <;> simp only [reduceCtorEq,Bool.false_eq_true] at hfit;split at hg
  ·rename_i es clock hm;cases hg;obtain ⟨_,o',h2,h3⟩:=hR.blocks b pl hb;rw [hm] at h2;cases h2;obtain ⟨h4,_,es',h5,h6⟩:=h3;have hlen:es.length=es'.size:=by
    have key:∀ {a:List (Value × Value × Nat)} {c:List MapEntry},EntRel φ a c->a.length=c.length:=by
     intro a c hac
     induction hac with
     | nil=>rfl
     | cons _ _ _ _ _ _ _ _ _ _ ih=>simp [ih]
    have:=key h6;simpa using this
   have hR':=hp h4;subst hR';refine ⟨.int _ _,?_,by rw [hlen]; exact .int _ _⟩;simp [Builtin.len_,run_underlying ht,run_getObj_map h5,goInt]
  grind
end Go.Ab
namespace Go.Ab
theorem X3n (s:ByteArray):s.toList=s.data.toList:=ByteArray.toList_eq s
theorem Xiq {P:Program} {φ:Pmap} {w:World} (fuel d:Nat) (hf:fuel <= d) (ih:∀ (d:Nat) (t:TypeId) (x y cx cy:Value) (b:Bool),fuel <= d->VRel φ x cx->VRel φ y cy->aEq (X1j P fuel t) x y=some b->(Op.equalIn d t cx cy).run P w=.ok b w) :
  ∀ (fs:List Field) {xs ys cxs cys:Array Value} {b:Bool},VRels φ xs.toList cxs.toList->VRels φ ys.toList cys.toList ->
  aEqs ((fs.filter (·.name ≠ "_")).map fun f=>match P.info? f.type,P.underlying f.type with | some i,some e=>(f.offset,i.size,X5c e,X1j P fuel f.type) | _,_=>(0,0,true,.no)) xs ys=some b ->
  (Op.eqFields d cxs cys fs).run P w=.ok b w
 | [],_,_,_,_,_,_,_,h=>by
  simp only [List.filter_nil,List.map_nil,aEqs,Option.some.injEq] at h;subst h;rfl
 | f :: fs,xs,ys,cxs,cys,b,hx,hy,h=>by
  by_cases hn:f.name="_"
  ·have hfl:(f :: fs).filter (fun f=>decide (f.name ≠ "_"))=fs.filter (fun f=>decide (f.name ≠ "_")):=by grind
   rw [hfl] at h;simp only [Op.eqFields,hn,ne_eq,not_true_eq_false,if_false];exact Xiq _ d hf ih fs hx hy h
  ·have hfl:(f :: fs).filter (fun f=>decide (f.name ≠ "_"))=f :: fs.filter (fun f=>decide (f.name ≠ "_")):=by grind
   rw [hfl,List.map_cons] at h;cases hi:P.info? f.type with
   | none=>rw [hi] at h; trivial
   | some i =>
    cases hd:P.underlying f.type with
    | none=>rw [hi,hd] at h; trivial
    | some e =>
     rw [hi,hd] at h;simp only [aEqs] at h;split at h
     ·rename_i a c ha hc;obtain ⟨ca,k1,k2⟩:=X71 (w:=w) hi hd hx ha;obtain ⟨cc,k3,k4⟩:=X71 (w:=w) hi hd hy hc;split at h
      ·rename_i he;have hee:=ih d _ _ _ _ _ _ hf k2 k4 he;have ih2:=Xiq _ d hf ih fs hx hy h;simp only [Op.eqFields,ne_eq,hn,not_false_eq_true,if_true,Sem.run_bind,k1,k3,hee,Result.andThen_ok,Bool.not_true,Bool.false_eq_true,if_false,ih2]
      ·rename_i r he;have hb:b=false:=by grind
       subst hb;have hee:=ih d _ _ _ _ _ _ hf k2 k4 h;simp only [Op.eqFields,ne_eq,hn,not_false_eq_true,if_true,Sem.run_bind,k1,k3,hee,Result.andThen_ok,Bool.not_false,Sem.run_pure]
     grind
theorem Xdx {P:Program} {φ:Pmap} {w:World} (fuel d:Nat) (hf:fuel <= d) (ih:∀ (d:Nat) (t:TypeId) (x y cx cy:Value) (b:Bool),fuel <= d->VRel φ x cx->VRel φ y cy->aEq (X1j P fuel t) x y=some b->(Op.equalIn d t cx cy).run P w=.ok b w)
  {e:TypeId} {i:TypeInfo} {D:TypeDesc} (hi:P.info? e=some i) (hd:P.underlying e=some D):∀ (is:List Nat) {xs ys cxs cys:Array Value} {b:Bool},VRels φ xs.toList cxs.toList->VRels φ ys.toList cys.toList ->
  aEqs (is.map fun k=>(k * i.size,i.size,X5c D,X1j P fuel e)) xs ys=some b->(Op.eqItems d e i.size cxs cys is).run P w=.ok b w
 | [],_,_,_,_,_,_,_,h=>by
  simp only [List.map_nil,aEqs,Option.some.injEq] at h;subst h;rfl
 | k :: is,xs,ys,cxs,cys,b,hx,hy,h=>by
  simp only [List.map_cons,aEqs] at h;split at h
  ·rename_i a c ha hc;obtain ⟨ca,k1,k2⟩:=X71 (w:=w) hi hd hx ha;obtain ⟨cc,k3,k4⟩:=X71 (w:=w) hi hd hy hc;split at h
   ·rename_i he;have hee:=ih d e _ _ _ _ _ hf k2 k4 he;have ih2:=Xdx _ d hf ih hi hd is hx hy h;simp only [Op.eqItems,Sem.run_bind,k1,k3,hee,Result.andThen_ok,Bool.not_true,Bool.false_eq_true,if_false,ih2]
   ·rename_i r he;have hb:b=false:=by grind
    subst hb;have hee:=ih d e _ _ _ _ _ hf k2 k4 h;simp only [Op.eqItems,Sem.run_bind,k1,k3,hee,Result.andThen_ok,Bool.not_false,if_true,Sem.run_pure]
  grind
set_option maxHeartbeats 1000000 in
theorem Xnp {P:Program} {φ:Pmap} {w:World}:∀ (fuel d:Nat) (t:TypeId) (x y cx cy:Value) (b:Bool),fuel <= d->VRel φ x cx->VRel φ y cy->aEq (X1j P fuel t) x y=some b->(Op.equalIn d t cx cy).run P w=.ok b w:=by
 intro fuel
 induction fuel with
 | zero=>intro d t x y cx cy b _ _ _ h; trivial
 | succ fuel ih =>
  intro d t x y cx cy b hf hx hy h;obtain ⟨d,rfl⟩:∃ e,d=e + 1:=⟨d - 1,by omega⟩
  unfold X1j at h;cases hu:P.underlying t with
  | none=>rw [hu] at h; trivial
  | some D =>
   rw [hu] at h;cases D <;> simp only at h <;> try trivial
   case bool =>
    unfold aEq at h;split at h <;> (try contradiction) <;> (try (cases hx; cases hy; cases h; simp [Op.equalIn,run_underlying hu]; done))
   case int k =>
    unfold aEq at h;split at h <;> (try contradiction)
    cases hx; cases hy;split at h
    ·rename_i hk;cases h;simp [Op.equalIn,run_underlying hu,hk]
    grind
   case string =>
    unfold aEq at h;split at h <;> (try contradiction)
    cases hx; cases hy; cases h;rw [run_equalIn_string w d t _ _ hu,X3n,X3n]
   case pointer e =>
    unfold aEq at h;split at h <;> (try contradiction)
    ·cases hx;cases hy <;> cases h <;> simp [Op.equalIn,run_underlying hu]
    ·cases hx; cases hy; cases h; simp [Op.equalIn,run_underlying hu]
   case slice e =>
    unfold aEq at h;split at h <;> (try contradiction)
    ·cases hx;cases hy <;> cases h <;> simp [Op.equalIn,run_underlying hu]
    ·cases hx; cases hy; cases h; simp [Op.equalIn,run_underlying hu]
   case map k e =>
    unfold aEq at h;split at h <;> (try contradiction)
    ·cases hx;cases hy <;> cases h <;> simp [Op.equalIn,run_underlying hu]
    ·cases hx; cases hy; cases h; simp [Op.equalIn,run_underlying hu]
   case func a c v =>
    unfold aEq at h;split at h <;> (try contradiction) <;> (cases hx; cases hy; cases h; simp [Op.equalIn,run_underlying hu])
   case interface ms =>
    unfold aEq at h;split at h <;> (try contradiction) <;> (try (cases hx; cases hy; cases h; simp [Op.equalIn,run_underlying hu]; done))
    cases hx; cases hy;split at h
    ·cases h
    ·rename_i hne;cases h;simp [Op.equalIn,run_underlying hu,hne]
   case array n e =>
    cases hi:P.info? e with
    | none=>rw [hi] at h; simp only [aEq,reduceCtorEq] at h
    | some i =>
     cases hd:P.underlying e with
     | none=>rw [hi,hd] at h; simp only [aEq,reduceCtorEq] at h
     | some D =>
      rw [hi,hd] at h;simp only at h;unfold aEq at h;split at h <;> (try contradiction)
      rename_i fs' xs ys hfs;cases hfs;cases hx; cases hy;rename_i a1 hxs a2 hys;have hc:P.cellsOf e=i.size:=by simp [Program.cellsOf,hi]
      rw [run_equalIn_array w d _ _ hu hi,hc];exact Xdx fuel d (by omega) ih hi hd (List.range n) hxs hys h
   case struct fs =>
    split at h
    ·grind [aEq,reduceCtorEq]
    ·rename_i hst;unfold aEq at h;split at h <;> (try contradiction)
     rename_i fs' xs ys hfs;cases hfs;cases hx; cases hy;rename_i a1 hxs a2 hys;have hfo:P.fieldsOf t=fs:=by simp [Program.fieldsOf,hu]
     rw [run_equalIn_struct w d t _ _ (by grind) (by grind),hfo];exact Xiq fuel d (by omega) ih fs.toList hxs hys h
end Go.Ab
namespace Go.Ab
theorem Xqq {a b:Value} (h:veq1 a b=true):a=b:=by
 unfold veq1 at h
 grind
theorem Xo1:∀ {a b:List Value},veqs a b=true->a=b
 | [],[],_=>rfl
 | [],_ :: _,h=>by trivial
 | _ :: _,[],h=>by trivial
 | a :: l,b :: r,h=>by
  simp only [veqs,Bool.and_eq_true] at h;rw [Xqq h.1,Xo1 h.2]
theorem Xku {a b:Value} (h:veq a b=true):a=b:=by
 unfold veq at h;split at h
 ·rename_i x y;have:=Xo1 h;simp_all
 ·exact Xqq h
theorem Xlw {φ:Pmap} {a b ca:Value} (h:veq1 a b=true) (hr:VRel φ a ca):ca=a:=by
 unfold veq1 at h;split at h
 ·cases hr; rfl
 ·cases hr; rfl
 ·cases hr; rfl
 grind
theorem Xl1 {φ:Pmap}:∀ {a b ca:List Value},veqs a b=true->VRels φ a ca->ca=a
 | [],[],_,_,hr=>by cases hr; rfl
 | [],_ :: _,_,h,_=>by trivial
 | _ :: _,[],_,h,_=>by trivial
 | a :: l,b :: r,_,h,hr=>by
  simp only [veqs,Bool.and_eq_true] at h;cases hr with
  | cons v v' l l' hv hl=>rw [Xlw h.1 hv,Xl1 h.2 hl]
theorem Xf0 {φ:Pmap} {a b ca:Value} (h:veq a b=true) (hr:VRel φ a ca):ca=a:=by
 unfold veq at h;split at h
 ·cases hr with
  | agg a a' h' =>
   have:=Xl1 h h';simp_all
 ·exact Xlw h hr
theorem Xdy {a b:Value} (n:Nat) (h:veq1 a b=true):Instr.sameBits n a b=true:=by
 unfold veq1 at h;split at h
 ·simpa [Instr.sameBits] using h
 ·simp at h;simp [Instr.sameBits,h.1,h.2]
 ·simp at h;simp only [Instr.sameBits,h,beq_toListBytes,beq_self_eq_true]
 grind
theorem Xey (n:Nat):∀ {a b:List Value},veqs a b=true->a.length=b.length/\((a.zip b).all fun (x,y)=>Instr.sameBits n x y)=true
 | [],[],_=>⟨rfl,rfl⟩
 | [],_ :: _,h=>by trivial
 | _ :: _,[],h=>by trivial
 | a :: l,b :: r,h=>by
  simp only [veqs,Bool.and_eq_true] at h;obtain ⟨h1,h2⟩:=Xey n h.2;exact ⟨by simp [h1],by simp only [List.zip_cons_cons,List.all_cons,Xdy n h.1,Bool.true_and]; exact h2⟩
theorem Xe1 {a b:Value} (h:veq a b=true):Instr.sameBits 10000 a b=true:=by
 unfold veq at h;split at h
 ·rename_i x y;obtain ⟨h1,h2⟩:=Xey 9999 h;simp at h1;unfold Instr.sameBits
  grind
 ·exact Xdy _ h
theorem X60 {P:Program} {φ:Pmap} {w:World} (em:Bool):∀ (fuel n:Nat) (t:TypeId) (k ck:Value),fuel <= n->VRel φ k ck->aEq (X1j P fuel t) k k=some true->(Instr.checkKey em n t ck).run P w=.ok () w:=by
 intro fuel
 induction fuel with
 | zero=>intro n t k ck _ _ h; trivial
 | succ fuel ih =>
  intro n t k ck hn hk h;obtain ⟨n,rfl⟩:∃ e,n=e + 1:=⟨n - 1,by omega⟩
  unfold X1j at h;cases hu:P.underlying t with
  | none=>rw [hu] at h; trivial
  | some D =>
   rw [hu] at h;cases D <;> simp only at h <;> try trivial
   case interface ms =>
    unfold aEq at h;split at h <;> (try contradiction)
    ·cases hk;simp [Instr.checkKey,run_underlying hu]
    grind
   case struct fs =>
    split at h
    ·trivial
    ·unfold aEq at h;split at h <;> (try contradiction)
     rename_i e1 e2;cases e1;cases e2;cases hk with
     | agg a a' hxs =>
     simp only [Instr.checkKey,Sem.run_bind,run_underlying hu,Result.andThen_ok];rw [<- Array.forIn_toList];clear hu;generalize fs.toList=l at h
     induction l with
     | nil=>simp
     | cons f l ihl =>
      by_cases hnm:f.name="_"
      ·have hfl:(f :: l).filter (fun f=>decide (f.name ≠ "_"))=l.filter (fun f=>decide (f.name ≠ "_")):=by grind
       rw [hfl] at h;have:=ihl h;simp only [List.forIn_cons,Sem.run_bind,hnm,ne_eq,not_true_eq_false,if_false,Sem.run_pure,Result.andThen_ok] at this ⊢;trivial
      ·have hfl:(f :: l).filter (fun f=>decide (f.name ≠ "_"))=f :: l.filter (fun f=>decide (f.name ≠ "_")):=by simp [hnm]
       rw [hfl,List.map_cons] at h;cases hi:P.info? f.type with
       | none=>rw [hi] at h; trivial
       | some i =>
        cases hd:P.underlying f.type with
        | none=>rw [hi,hd] at h; trivial
        | some e =>
         rw [hi,hd] at h;simp only [aEqs] at h;split at h
         ·rename_i p1 p2 hp1 hp2;cases hp1.symm.trans hp2;obtain ⟨ca,k1,k2⟩:=X71 (w:=w) hi hd hxs hp1;split at h
          ·rename_i he;have hc:=ih n _ p1 ca (by omega) k2 he;have:=ihl h;simp only [List.forIn_cons,Sem.run_bind,ne_eq,hnm,not_false_eq_true,if_true,k1,hc,Sem.run_pure,Result.andThen_ok] at this ⊢;trivial
          trivial
         trivial
   case array len e =>
    cases hi:P.info? e with
    | none=>rw [hi] at h; trivial
    | some i =>
     cases hd:P.underlying e with
     | none=>rw [hi,hd] at h; trivial
     | some D =>
      rw [hi,hd] at h;simp only at h;unfold aEq at h;split at h <;> (try contradiction)
      rename_i e1 e2;cases e1;cases e2;cases hk with
      | agg a a' hxs =>
      rw [Instr.checkKey];simp only [Sem.run_bind,run_underlying hu,Result.andThen_ok];simp only [Std.Legacy.Range.forIn_eq_forIn_range',Std.Legacy.Range.size,Nat.sub_zero,Nat.add_one_sub_one,Nat.div_one];rw [List.range_eq_range'] at h;generalize List.range' 0 len=is at h
      induction is with
      | nil=>simp
      | cons j is ihl =>
       simp only [List.map_cons,aEqs] at h;split at h
       ·rename_i p1 p2 hp1 hp2;cases hp1.symm.trans hp2;obtain ⟨ca,k1,k2⟩:=X71 (w:=w) hi hd hxs hp1;split at h
        ·rename_i he;have hc:=ih n e p1 ca (by omega) k2 he;have:=ihl h;simp only [List.forIn_cons,Sem.run_bind,run_sizeOf hi,Result.andThen_ok,k1,hc,Sem.run_pure];trivial
        trivial
       trivial
   all_goals
    first
    | (cases hk <;> simp [Instr.checkKey,run_underlying hu]; done)
    | (cases hk <;> simp only [aEq,reduceCtorEq] at h <;> simp [Instr.checkKey,run_underlying hu])
end Go.Ab
namespace Go.Ab
theorem EntRel.get {φ:Pmap}:∀ {a:List (Value × Value × Nat)} {c:List MapEntry},EntRel φ a c->∀ {i:Nat} {e:Value × Value × Nat},a[i]?=some e->∃ e',c[i]?=some e'/\VRel φ e.1 e'.key/\VRel φ e.2.1 e'.val/\e'.born=e.2.2
 | _,_,.nil,i,e,h=>by simp at h
 | _,_,.cons k v k' v' n l l' hk hv hl,0,e,h=>by simp at h; subst h; simp_all
 | _,_,.cons k v k' v' n l l' hk hv hl,i + 1,e,h=>by simpa using EntRel.get hl (by grind)
theorem EntRel.append {φ:Pmap}:∀ {a b:List (Value × Value × Nat)} {c d:List MapEntry},EntRel φ a c->EntRel φ b d->EntRel φ (a ++ b) (c ++ d)
 | _,_,_,_,.nil,h=>h
 | _,_,_,_,.cons k v k' v' n l l' hk hv hl,h=>.cons k v k' v' n _ _ hk hv (EntRel.append hl h)
theorem EntRel.set {φ:Pmap}:∀ {a:List (Value × Value × Nat)} {c:List MapEntry},EntRel φ a c->∀ (i:Nat) (k v k' v':Value) (n:Nat),VRel φ k k'->VRel φ v v'->EntRel φ (a.set i (k,v,n)) (c.set i { key:=k',val:=v',born:=n })
 | _,_,.nil,_,_,_,_,_,_,_,_=>.nil
 | _,_,.cons _ _ _ _ _ _ _ _ _ hl,0,k,v,k',v',n,hk,hv=>.cons k v k' v' n _ _ hk hv hl
 | _,_,.cons k0 v0 k0' v0' n0 l l' hk0 hv0 hl,i + 1,k,v,k',v',n,hk,hv=>.cons k0 v0 k0' v0' n0 _ _ hk0 hv0 (EntRel.set hl i k v k' v' n hk hv)
def Found (es':List MapEntry) (i0:Nat):Option Nat->Option (Nat × Value)->Prop
 | none,r=>r=none
 | some i,r=>∃ e',i0 <= i/\es'[i - i0]?=some e'/\r=some (i,e'.val)
theorem Found.tail {e:MapEntry} {es':List MapEntry} {i0:Nat} {r:Option Nat} {x:Option (Nat × Value)} (h:Found es' (i0 + 1) r x):Found (e :: es') i0 r x:=by
 cases r with
 | none=>exact h
 | some i =>
  obtain ⟨e',h1,h2,h3⟩:=h;exact ⟨e',by omega,by grind,h3⟩
theorem Xid {P:Program} {φ:Pmap} {w:World} {fuel:Nat} (hf:fuel <= 10000) {t:TypeId} {k ck:Value} (hk:VRel φ k ck):∀ {es:List (Value × Value × Nat)} {es':List MapEntry},EntRel φ es es'->∀ (i0:Nat) {r:Option Nat},
  X4w (X1j P fuel t) k es i0=some r->∃ x,(Instr.findAsking t ck es' i0).run P w=.ok x w/\Found es' i0 r x
 | _,_,.nil,i0,r,h=>by
  simp only [X4w,Option.some.injEq] at h;subst h;exact ⟨none,rfl,rfl⟩
 | _,_,.cons k1 v1 k1' v1' n l l' hk1 hv1 hl,i0,r,h=>by
  simp only [X4w] at h;split at h
  ·rename_i he;cases h;have heq:=Xnp (w:=w) _ Op.maxDepth t _ _ _ _ _ hf hk hk1 he;exact ⟨some _,by simp [Instr.findAsking,Op.equal,heq],⟨{ key:=k1',val:=v1',born:=n },Nat.le_refl _,by simp,rfl⟩⟩
  ·rename_i he;have heq:=Xnp (w:=w) _ Op.maxDepth t _ _ _ _ _ hf hk hk1 he;obtain ⟨x,h1,h2⟩:=Xid (w:=w) hf hk hl _ h;exact ⟨x,by simp [Instr.findAsking,Op.equal,heq,h1],h2.tail⟩
  grind
theorem Xuq {P:Program} {φ:Pmap} {fuel:Nat} {t:TypeId} {D:TypeDesc} (hD:P.underlying t=some D) {k ck:Value} (hk:VRel φ k ck):∀ {es:List (Value × Value × Nat)} {es':List MapEntry},EntRel φ es es'->∀ (i0:Nat) {r:Option Nat} {x:Option (Nat × Value)},
  X4w (X1j P fuel t) k es i0=some r->Instr.findNow D ck es' i0=some x->Found es' i0 r x
 | _,_,.nil,i0,r,x,h,hx=>by
  simp only [X4w,Option.some.injEq] at h;subst h;simp only [Instr.findNow,Option.some.injEq] at hx;exact hx.symm
 | _,_,.cons k1 v1 k1' v1' n l l' hk1 hv1 hl,i0,r,x,h,hx=>by
  have same:∀ b,Instr.sameNow D ck k1'=some b->∀ c,aEq (X1j P fuel t) k k1=some c->c=b:=by
   intro b hb c hc;cases fuel with
   | zero=>trivial
   | succ fuel =>
    unfold X1j at hc;rw [hD] at hc;unfold Instr.sameNow at hb;split at hb
    ·simp only at hc;cases hk; cases hk1;simp only [aEq] at hc
     grind
    ·simp only at hc;cases hk; cases hk1;simp only [aEq,Option.some.injEq] at hc hb;rw [<- hb,<- hc,beq_toListBytes,X3n,X3n]
    ·simp only at hc;cases hk; cases hk1;simp only [aEq,Option.some.injEq] at hc hb
     grind
    grind
  simp only [X4w] at h;simp only [Instr.findNow] at hx;split at h
  ·rename_i he;cases h;split at hx
   ·cases hx;exact ⟨{ key:=k1',val:=v1',born:=n },Nat.le_refl _,by simp,rfl⟩
   ·grind
   grind
  ·rename_i he;split at hx
   ·grind
   ·exact (Xuq hD hk hl _ h hx).tail
   grind
  grind
theorem X2n {P:Program} {φ:Pmap} {w:World} {fuel:Nat} (hf:fuel <= 10000) {t:TypeId} {D:TypeDesc} (hD:P.underlying t=some D) {k ck:Value} (hk:VRel φ k ck) {es:List (Value × Value × Nat)} {es':List MapEntry} (he:EntRel φ es es') {r:Option Nat}
  (h:X4w (X1j P fuel t) k es 0=some r):∃ x,(Instr.findKey t ck es').run P w=.ok x w/\Found es' 0 r x:=by
 unfold Instr.findKey;simp only [Sem.run_bind,run_underlying hD,Result.andThen_ok];cases hn:Instr.findNow D ck es' 0 with
 | none=>exact Xid hf hk he 0 h
 | some x=>exact ⟨x,rfl,Xuq hD hk he 0 h hn⟩
theorem Xcv {φ:Pmap} {z v cv:Value} (hz:VRel φ z z) (ok:Bool):VRel φ (Xch z ok none) (if ok=true then .tuple #[z,.bool false] else z)/\(VRel φ v cv->VRel φ (Xch z ok (some v)) (if ok=true then .tuple #[cv,.bool true] else cv)):=by
 cases ok
 ·exact ⟨hz,fun h=>h⟩
 ·exact ⟨.tuple _ _ (.cons _ _ _ _ hz (.cons _ _ _ _ (.bool _) .nil)),fun h=>.tuple _ _ (.cons _ _ _ _ h (.cons _ _ _ _ (.bool _) .nil))⟩
theorem Xqu {P:Program} {B0:Nat} {φ:Pmap} {m:Mem} {w:World} (hR:Rel B0 φ m w) {t kt e:TypeId} {ie:TypeInfo} {z:Value} {D:TypeDesc} {fuel:Nat} (hf:fuel <= 10000) (ht:P.underlying t=some (.map kt e)) (hD:P.underlying kt=some D)
  (hi:P.info? e=some ie) (hz:ie.zero=some z) (hp:X4j z=true) (ok:Bool) {x cx k ck v:Value} (hx:VRel φ x cx) (hk:VRel φ k ck) (hg:X5u (X1j P fuel kt) z ok x k m=some v) :
  ∃ cv,(Instr.lookup t cx ck ok).run P w=.ok cv w/\VRel φ v cv:=by
 unfold X5u at hg;simp only [X34] at hg;simp only [Option.ite_none_right_eq_some] at hg;obtain ⟨hc,hg⟩:=hg;simp at hc;have hself:aEq (X1j P fuel kt) k k=some true:=by
  have:=hc.2;split at this
  ·grind
  ·grind
 have hck:=fun em=>X60 (w:=w) em _ _ kt k ck hf hk hself;obtain ⟨hl1,_⟩:=Xcv (v:=z) (cv:=z) (X1d (φ:=φ) hp) ok;cases hx <;> try simp only [reduceCtorEq] at hg
 ·simp only [Option.some.injEq] at hg;subst hg;have hc0:=hck true;obtain ⟨x,k1,k2⟩:=X2n (w:=w) hf hD hk (.nil:EntRel φ [] []) (r:=none) rfl;cases k2;refine ⟨_,?_,hl1⟩;simp [Instr.lookup,run_underlying ht,hc0,k1,X1v hi hz]
 ·rename_i b R pl hb hpp;split at hg
  ·rename_i es clock hm;obtain ⟨_,o',h2,h3⟩:=hR.blocks b pl hb;rw [hm] at h2;cases h2;obtain ⟨h4,_,es',h5,h6⟩:=h3;obtain rfl:=hpp h4;have hc0:=hck es'.isEmpty;split at hg
   ·rename_i hfi;obtain ⟨x,k1,k2⟩:=X2n (w:=w) hf hD hk h6 hfi;cases k2;simp at hg;subst hg;refine ⟨_,?_,hl1⟩;simp [Instr.lookup,run_underlying ht,run_getObj_map h5,hc0,k1,X1v hi hz]
   ·rename_i i hfi;obtain ⟨x,k1,k2⟩:=X2n (w:=w) hf hD hk h6 hfi;obtain ⟨e',k3,k4,k5⟩:=k2;split at hg
    ·rename_i en hen;simp at hg;subst hg;obtain ⟨e2,q1,q2,q3,q4⟩:=h6.get hen;simp only [Nat.sub_zero] at k4;rw [q1] at k4;cases k4;subst k5;refine ⟨_,?_,(Xcv (X1d hp) ok).2 q3⟩;simp [Instr.lookup,run_underlying ht,run_getObj_map h5,hc0,k1]
    ·cases hg
   ·cases hg
  ·cases hg
end Go.Ab
namespace Go.Ab
theorem run_setObj_map {P:Program} {w:World} {r:Nat} {es:Array MapEntry} {clock:Nat} (h:w.heap[r]?=some (.map es clock)) (o:Obj):(setObj r o).run P w=.ok () { w with heap:=w.heap.setIfInBounds r o }:=by
 grind [setObj,Sem.run]
theorem heap_set {w:World} {r:Nat} {o0 o:Obj} (h:w.heap[r]?=some o0):(w.heap.setIfInBounds r o)[r]?=some o:=by
 grind
theorem X66 {B0:Nat} {φ:Pmap} {m:Mem} {w:World} (h:Rel B0 φ m w) {b:Nat} {pl:Pl} (hb:φ b=some pl) (hro:pl.ro=false) (O:Obj) (o:AObj)
  (hbr:BRel φ { w with heap:=w.heap.setIfInBounds pl.blk O } pl o) :
  Rel B0 φ (m.put b o) { w with heap:=w.heap.setIfInBounds pl.blk O }/\Stp φ m w φ (m.put b o) { w with heap:=w.heap.setIfInBounds pl.blk O }:=by
 have e:φ.upd b pl=φ:=by
  funext x; unfold Pmap.upd; split
  ·grind
  ·rfl
 have hput:=Xar (w1:={ w with heap:=w.heap.setIfInBounds pl.blk O }) h b pl pl hb hro rfl (.inl rfl) (by simp) (fun B hB=>by grind) rfl rfl rfl o (by grind);rw [e] at hput;exact hput
theorem Xbh {P:Program} {B0:Nat} {φ:Pmap} {m m':Mem} {w:World} (hR:Rel B0 φ m w) {t kt e:TypeId} {D:TypeDesc} {fuel:Nat} (hf:fuel <= 10000) (ht:P.underlying t=some (.map kt e)) (hD:P.underlying kt=some D)
  {x cx k ck v cv:Value} (hx:VRel φ x cx) (hk:VRel φ k ck) (hv:VRel φ v cv) (hg:X31 (X1j P fuel kt) x k v m=some m') :
  ∃ w' φ',(Instr.mapUpdate t cx ck cv).run P w=.ok () w'/\Rel B0 φ' m' w'/\Stp φ m w φ' m' w':=by
 unfold X31 at hg;simp only [X34] at hg;simp only [Option.ite_none_right_eq_some] at hg;obtain ⟨hc,hg⟩:=hg;simp only [Bool.and_eq_true] at hc;have hself:aEq (X1j P fuel kt) k k=some true:=by
  grind
 have hck:=X60 (w:=w) false _ _ kt k ck hf hk hself;have hkk:ck=k:=Xf0 hc.1 hk;cases hx <;> try simp only [reduceCtorEq] at hg
 rename_i b R pl hb hpp;split at hg
 ·rename_i es clock hm;obtain ⟨_,o',h2,h3⟩:=hR.blocks b pl hb;rw [hm] at h2;cases h2;obtain ⟨h4,hro,es',h5,h6⟩:=h3;obtain rfl:=hpp h4;split at hg
  ·rename_i hfi;obtain ⟨x,k1,k2⟩:=X2n (w:=w) hf hD hk h6 hfi;cases k2;simp only [Option.some.injEq] at hg;subst hg;have:=X66 hR hb hro (.map (es'.push { key:=ck,val:=cv,born:=clock }) (clock + 1)) (.map (es ++ [(k,v,clock)]) (clock + 1))
    ⟨h4,hro,_,heap_set h5,by rw [Array.toList_push]; exact h6.append (.cons _ _ _ _ _ _ _ hk hv .nil)⟩
   refine ⟨_,φ,?_,this.1,this.2⟩;simp [Instr.mapUpdate,run_underlying ht,run_getObj_map h5,hck,k1,run_setObj_map h5]
  ·rename_i i hfi;obtain ⟨x,k1,k2⟩:=X2n (w:=w) hf hD hk h6 hfi;obtain ⟨e',_,k4,k5⟩:=k2;split at hg
   ·rename_i en hen;split at hg
    ·rename_i hveq;simp at hg;subst hg;obtain ⟨e2,q1,q2,q3,q4⟩:=h6.get hen;simp only [Nat.sub_zero] at k4;rw [q1] at k4;cases k4;subst k5;have hil:i < es'.size:=by
      grind
     have hold:es'[i]?=some e':=by rw [<- Array.getElem?_toList]; exact q1
     have hkey:e'.key=ck:=by
      have h1:e'.key=en.1:=by
       have hvv:veq en.1 en.1=true:=by
        have:=Xku hveq;rw [this]; exact hc.1
       exact Xf0 hvv q2
      rw [h1,Xku hveq,hkk]
     have hsb:Instr.sameBits 10000 e'.key ck=true:=by
      rw [hkey,hkk]; exact Xe1 hc.1
     have hmod:(es'.modify i fun e=>{ e with key:=ck,val:=cv }).toList=es'.toList.set i { key:=ck,val:=cv,born:=en.2.2 }:=by
      apply List.ext_getElem?;intro j;rw [Array.getElem?_toList,Array.getElem?_modify];by_cases hij:i=j
      ·grind
      ·grind
     have:=X66 hR hb hro (.map (es'.modify i fun e=>{ e with key:=ck,val:=cv }) clock) (.map (es.set i (k,v,en.2.2)) clock)
      ⟨h4,hro,_,heap_set h5,by rw [hmod]; exact h6.set i k v ck cv en.2.2 hk hv⟩
     refine ⟨_,φ,?_,this.1,this.2⟩;simp [Instr.mapUpdate,run_underlying ht,run_getObj_map h5,hck,k1,hold,Instr.keyThatStays,hsb,run_setObj_map h5]
    grind
   grind
  grind
 grind
theorem Xn2 {P:Program} {B0:Nat} {φ:Pmap} {m:Mem} {w:World} (hR:Rel B0 φ m w) (t:TypeId):∃ cv w' φ',(Instr.makeMap t none).run P w=.ok cv w'/\Rel B0 φ' (X7e m).2 w'/\VRel φ' (X7e m).1 cv/\Stp φ m w φ' (X7e m).2 w':=by
 have hp:=X7i hR _ (w1:=w.alloc _) rfl rfl rfl rfl ⟨w.heap.size,0,0,0,0,false⟩ rfl (.map [] 0) ⟨rfl,rfl,#[],Array.getElem?_push_size,.nil⟩;refine ⟨.map (some w.heap.size),w.alloc _,_,?_,hp.1,.map _ _ _ (Pmap.upd_same _ _ _) (fun _=>rfl),hp.2⟩;rfl
theorem Xjw {P:Program} {B0:Nat} {φ:Pmap} {m m':Mem} {w:World} (hR:Rel B0 φ m w) {t:TypeId} (ht:P.underlying t=some .string) {x cx v:Value} (hx:VRel φ x cx) (hg:X3w x m=some (v,m')) :
  ∃ cv w' φ',(Instr.range t cx).run P w=.ok cv w'/\Rel B0 φ' m' w'/\VRel φ' v cv/\Stp φ m w φ' m' w':=by
 unfold X3w at hg;cases hx <;> try grind
 rename_i s;simp at hg;obtain ⟨rfl,rfl⟩:=hg;have hp:=X7i hR _ (w1:=w.alloc _) rfl rfl rfl rfl ⟨w.heap.size,0,0,0,0,false⟩ rfl (.siter s 0) ⟨rfl,rfl,rfl,rfl,Array.getElem?_push_size⟩;refine ⟨.pointer (some ⟨w.heap.size,0,none⟩),w.alloc _,_,?_,hp.1,.ptr _ _ _ _ _ _ (Pmap.upd_same _ _ _) (by simp) (fun _=>⟨rfl,by simp,by simp⟩),hp.2⟩;simp [Instr.range,run_underlying ht]
theorem Xn0 {P:Program} {B0:Nat} {φ:Pmap} {m m':Mem} {w:World} (hR:Rel B0 φ m w) {ty:TypeId} {x cx v:Value} (hx:VRel φ x cx) (hg:X45 x m=some (v,m')) :
  ∃ cv w' φ',(Instr.next cx true ty).run P w=.ok cv w'/\Rel B0 φ' m' w'/\VRel φ' v cv/\Stp φ m w φ' m' w':=by
 unfold X45 at hg;split at hg
 ·rename_i b sp;cases hx with
  | ptr _ _ r B O pl hb hr hp =>
  split at hg
  ·rename_i s pos hm;obtain ⟨_,o',h2,h3⟩:=hR.blocks b pl hb;rw [hm] at h2;cases h2;obtain ⟨h4,hro,h5,h6,h7⟩:=h3;obtain ⟨hp1,_,hp3⟩:=hp (by omega);have hO:O=0:=by omega
   subst hp1 hO;have hget:(getObj pl.blk).run P w=.ok (.stringIter s pos) w:=by simp only [getObj,Sem.run,h7]
   have hset:∀ o,(setObj pl.blk o).run P w=.ok () { w with heap:=w.heap.setIfInBounds pl.blk o }:=fun o=>by simp only [setObj,Sem.run,h7]
   split at hg
   ·rename_i hlt;simp at hg;obtain ⟨rfl,rfl⟩:=hg;have:=X66 hR hb hro _ (.siter s (pos + (Utf8.decode s pos).2)) ⟨h4,hro,h5,h6,heap_set h7⟩;refine ⟨.tuple #[.bool _,.int _ pos,.int _ _],_,φ,?_,this.1,.tuple _ _ (.cons _ _ _ _ (.bool _) (.cons _ _ _ _ (.int _ _) (.cons _ _ _ _ (.int _ _) .nil))),this.2⟩;simp [Instr.next,hget,hlt,hset,goInt]
   ·rename_i hlt;simp at hg;obtain ⟨rfl,rfl⟩:=hg;exact ⟨.tuple _,w,φ,by simp [Instr.next,hget,hlt],hR,.tuple _ _ (.cons _ _ _ _ (.bool _) .nil),.refl _ _ _⟩
  grind
 ·cases hg
theorem Xwq {P:Program} {B0:Nat} {φ:Pmap} {m m':Mem} {w:World} (hR:Rel B0 φ m w) {t xt ty e:TypeId} {i:TypeInfo} (ht:P.underlying t=some (.slice e)) (hi:P.info? e=some i) {x cx y cy v:Value} (hx:VRel φ x cx) (hy:VRel φ y cy)
  (hstr:(∃ s,y=.string s)->i.size=1) (hg:Xok i.size x y m=some (v,m')):∃ cv w' φ',(Builtin.copy_ #[t,xt] ty #[cx,cy]).run P w=.ok cv w'/\Rel B0 φ' m' w'/\VRel φ' v cv/\Stp φ m w φ' m' w':=by
 unfold Xok at hg;split at hg
 ·rename_i a len r k hk;have hmin:Nat.min k len=min k len:=rfl;split at hg
  ·rename_i hsp;split at hg
   ·rename_i cs hcs;obtain ⟨hlen,ccs,h1,_,_,h4⟩:=X8x (P:=P) hR hy hk (Nat.min_le_left k len) hcs;have hcl:=X6v hk (Nat.min_le_left k len) hstr hcs;cases hx with
    | slice b o es _ _ B O cap pl hb hes hn hr hp =>
    simp at hsp;subst hsp;split at hg
    ·rename_i h0;simp at hg;obtain ⟨rfl,rfl⟩:=hg;have:=List.length_eq_zero_iff.1 (by rw [<- h1.length,hcl,h0]; simp);subst this;rw [h0] at h4;refine ⟨.int _ 0,w,φ,?_,hR,.int _ _,.refl _ _ _⟩;simp [Builtin.copy_,run_underlying ht,hlen w rfl,run_sizeOf hi,h0,h4 w rfl,storeCells,goInt]
    ·rename_i h0;split at hg
     ·rename_i m1 hm1;simp only [Option.some.injEq,Prod.mk.injEq] at hg;obtain ⟨rfl,rfl⟩:=hg;have hm:∃ c fro ty',m.get b=some (.cells c (r / 2) fro false ty'):=by
       obtain ⟨c,ver,fro,ty',hm,hc,_⟩:=X67 hm1;have hc1:=hc.1;simp only [Option.some.injEq] at hc1;exact ⟨c,fro,ty',by rw [hm,hc1]⟩
      obtain ⟨c,fro,ty',hm⟩:=hm;obtain ⟨_,o',h2,h3⟩:=hR.blocks b pl hb;rw [hm] at h2;cases h2;have hver:=h3.1;obtain ⟨q1,_⟩:=hp hver.symm;rcases q1 with q1 | ⟨q1,q2,q3,_⟩
      ·omega
      obtain ⟨w',φ',p1,p2,p3,_⟩:=X8j (P:=P) hR (.ptr b o _ B O pl hb (by omega) (fun _=>⟨q1,q2,q3⟩)) h1 hm1;refine ⟨.int _ _,w',φ',?_,p2,.int _ _,p3⟩;simp [Builtin.copy_,run_underlying ht,hlen w rfl,run_sizeOf hi,h4 w rfl,p1,goInt]
     grind
   grind
  grind
 grind
end Go.Ab
namespace Go.Ab
theorem liesAt_row {P:Program} {e:TypeId} (hc:P.cellsOf e=1) (count off n:Nat) (hn:off + n <= count):liesAt P P.depth e count off e n=true:=by
 have hd:P.depth=(2 * (P.types.size + Made.depth) + 1) + 1:=rfl;rw [hd];simp only [liesAt,Bool.or_eq_true];left;rw [hd];simp [rowAt,hc,hn,sameLayout,Nat.mod_one]
theorem Xho {P:Program} {B0:Nat} {φ:Pmap} {m:Mem} {w:World} (_hR:Rel B0 φ m w) {ts:Array TypeId} {ty:TypeId} {x cx v:Value} (hx:VRel φ x cx) (hg:Xa7 x=some v) :
  ∃ cv,(Builtin.unsafeSliceData_ ts ty #[cx]).run P w=.ok cv w/\VRel φ v cv:=by
 cases hx <;> simp only [Xa7,reduceCtorEq,Option.some.injEq] at hg
 ·subst hg;exact ⟨_,Lib.run_unsafeSliceData_nil w ts ty 0 0,.nilPtr⟩
 ·rename_i b o es n t B O cap pl hb hes hn hr hp;split at hg
  ·rename_i h0;cases hg;have h0:0 < n:=by simp_all
   refine ⟨_,Lib.run_unsafeSliceData_row w ts ty _ n cap (by omega),.ptr _ _ _ _ _ pl hb hr fun e=>?_⟩;omega
  grind
theorem X4r {P:Program} (w:World):∀ (ns:List Int) (a:Addr) (acc:ByteArray),(∀ j x,ns[j]?=some x->w.cell? (a.add j)=some (.int .u8 x)) ->
  (loadBytes a acc ns.length).run P w=.ok ⟨acc.data ++ (ns.map fun n=>UInt8.ofNat n.toNat).toArray⟩ w
 | [],a,acc,_=>by rfl
 | x :: l,a,acc,h=>by
  have h0:w.cell? a=some (.int .u8 x):=by
   have:=h 0 x rfl;simpa [Addr.add] using this
  have ih:=X4r (P:=P) w l _ (acc.push (UInt8.ofNat x.toNat)) (fun j y hy=>by
   have:=h (j + 1) y (by grind);have e:(a.add 1).add j=a.add (j + 1):=by
    unfold Addr.add;by_cases hj:j=0
    ·grind
    ·grind
   rw [e]; exact this)
  have hx:x.toNat.toUInt8=UInt8.ofNat _:=rfl;simp only [List.length_cons,loadBytes,Sem.run_bind,run_load,h0,Result.andThen,hx];simp_all
theorem X8g {P:Program} (w:World) (pt it ty e:TypeId) (hp:P.underlying pt=some (.pointer e)) (hc:P.cellsOf e=1) (g off cells:Nat) (hsh:w.shape? g=some (e,cells)) (l:List Int) (h0:l ≠ []) (hn:off + l.length <= cells) (h63:l.length <= 9223372036854775807)
  (hcell:∀ j x,l[j]?=some x->w.cell? ((⟨g,off,none⟩:Addr).add j)=some (.int .u8 x)) :
  (Builtin.unsafeString_ #[pt,it] ty #[.pointer (some ⟨g,off,none⟩),.int .i64 l.length]).run P w=.ok (.string ⟨(l.map fun n=>UInt8.ofNat n.toNat).toArray⟩) (w.freeze ⟨g,off,none⟩ l.length):=by
 have hl:l.length ≠ 0:=by grind
 have hlb:=X4r (P:=P) w l _ .empty hcell;have hlies:=liesAt_row  hc (cells / P.cellsOf e) off l.length (by grind);have h63':¬ (9223372036854775807) < (l.length:Int):=by omega
 have hdef:Builtin.unsafeString_ #[pt,it] ty #[.pointer (some ⟨g,off,none⟩),.int .i64 l.length] =
   (do
    let n <- asInt (.int _ _)
    if n < 0 then runtimePanic _
    if n > IntKind.i64.max then unsupported _
    if n=0 then pure _
    else if <- variablesAt _ (<- elemOf pt) _ then do
     let s <- loadBytes _ _ _
     freeze _ _
     pure (.string s)
    else unsupported _):=rfl
 rw [hdef];have hmax:IntKind.i64.max=9223372036854775807:=rfl;have hneg:¬ (l.length:Int) < 0:=by omega
 simp [asInt,asIntOf, h63',hneg,hl,variablesAt,hsh,elemOf,run_underlying hp,hlies,hlb]
theorem Xc1 {P:Program} {B0:Nat} {φ:Pmap} {m m':Mem} {w:World} (hR:Rel B0 φ m w) {pt it ty e:TypeId} (hp:P.underlying pt=some (.pointer e)) (hc:P.cellsOf e=1) {x cx n cn v:Value} (hx:VRel φ x cx) (hn:VRel φ n cn)
  (hg:X5w e x n m=some (v,m')):∃ cv w' φ',(Builtin.unsafeString_ #[pt,it] ty #[cx,cn]).run P w=.ok cv w'/\Rel B0 φ' m' w'/\VRel φ' v cv/\Stp φ m w φ' m' w':=by
 unfold X5w at hg;split at hg
 ·rename_i k;cases hx;cases hn;split at hg
  ·rename_i hk;subst hk;simp at hg;obtain ⟨rfl,rfl⟩:=hg;exact ⟨_,w,φ,Lib.run_unsafeString_none w pt it ty _,hR,.string _,.refl _ _ _⟩
  grind
 ·rename_i a k;cases hn;split at hg
  ·rename_i hk;simp at hk;obtain ⟨hk1,hk2⟩:=hk;split at hg
   ·rename_i c ver fro t hm;split at hg
    ·rename_i hcond;simp only [Bool.and_eq_true,decide_eq_true_eq] at hcond;obtain ⟨hc1,hc2⟩:=hcond;have hc2:=Nat.eq_of_beq_eq_true hc2;split at hg
     ·rename_i cs hcs;split at hg
      ·rename_i l hl;simp at hg;obtain ⟨rfl,rfl⟩:=hg;cases hx with
       | ptr b o r B O pl hb hr hpp =>
       have hptr:VRel φ _ _:=.ptr b o r B O pl hb hr hpp;simp only at hc1 hm hcs ⊢;obtain ⟨ns,e1,e2⟩:=X6z hl;obtain ⟨ccs,k1,k2,k3⟩:=X2z hR hptr hcs;subst e1;have hcc:=VRels.ints k1;obtain ⟨pl',p1,p2,p3,p4,p5,p6⟩:=Xeg hR hptr hm hc1;rw [hb] at p1;cases p1;simp only [Addr.mk.injEq] at p5;obtain ⟨p5,p7,_⟩:=p5;simp only at p4 p7;obtain ⟨q1,q2,h6,C,cty,lo,hi,h7,h8,h9,h10,h11⟩:=p6;obtain ⟨y1,y2,y3⟩:=h11 t rfl;have hcty:cty=e:=by rw [y1,hc2]; exact Nat.mul_div_cancel_left e (by decide)
       subst hcc;have hnl:ns.length=k.toNat:=by simpa using k2
       have hpos:0 < k.toNat:=by omega
       have hlast:o + k.toNat <= c.length:=by
        rw [Xn] at hcs; unfold Xy at hcs;rw [hm] at hcs;simp only at hcs;split at hcs
        ·grind
        ·cases hcs
       have hCs:∀ j,o <= j->j < c.length->pl.cb + (j - pl.lo) < C.size:=fun j hj1 hj2=>by
        obtain ⟨cv,z1,_⟩:=h9 j c[j] (by omega) (List.getElem?_eq_getElem hj2)
        grind
       have hO:O + k.toNat <= C.size:=by have:=hCs (o + k.toNat - 1) (by omega) (by omega); omega
       have hsh:w.shape? B=some (e,C.size):=by rw [p5,<- hcty]; simp [World.shape?,h7]
       have hrun:=X8g  w pt it ty e hp hc B O _ hsh ns (by intro h0; rw [h0] at hnl; simp at hnl; omega) (by omega) (by omega) (fun j y hy=>by
        grind)
       rw [hnl] at hrun;have hkk:((k.toNat:Nat))=k:=by omega
       rw [hkk] at hrun;obtain ⟨hh,hfz,hfc⟩:∃ h':Obj->Obj,w.freeze ⟨B,O,none⟩ k.toNat={ w with heap:=w.heap.modify B h' }/\∀ C ty lo hi,h' (.cells C ty (lo,hi))=.cells C ty (if lo == hi then (O,O + k.toNat) else (min lo O,max hi (O + k.toNat))):=
        ⟨_,by unfold World.freeze; rw [if_neg (by omega)],fun _ _ _ _=>rfl⟩
       have hup:φ.upd b pl=φ:=by
        funext z; unfold Pmap.upd; split
        ·grind
        ·rfl
       have hat:(w.freeze ⟨B,O,none⟩ k.toNat).heap[pl.blk]?=some (.cells C cty (if lo == hi then (O,O + k.toNat) else (min lo O,max hi (O + k.toNat)))):=by
        grind
       have hput:=Xar (w1:=w.freeze ⟨B,O,none⟩ k.toNat) hR b pl pl hb q2 rfl (.inl rfl) (by grind) (fun B' hB'=>by
        grind) (by rw [hfz]) (by rw [hfz]) (by rw [hfz]) (.cells c ver (max fro (o + k.toNat)) false (some t)) (by
        rw [hup];by_cases hlh:lo=hi
        ·have hb1:(lo == hi)=true:=by grind
         rw [hb1] at hat;simp at hat;refine ⟨q1,q2,h6,C,cty,_,_,hat,h8,h9,fun _ i hi1 hi2 hi3=>by omega,fun t' ht'=>?_⟩;cases ht';exact ⟨y1,y2,.inr (by omega)⟩
        ·have hb1:(lo == hi)=false:=by grind
         rw [hb1] at hat;simp at hat;refine ⟨q1,q2,h6,C,cty,_,_,hat,h8,h9,fun _ i hi1 hi2 hi3=>?_,fun t' ht'=>?_⟩
         ·have z1:=h10 rfl i (by omega) hi2 hi3;have z2:lo < hi/\lo < pl.size:=by
           omega
          by_cases z3:pl.cb + (i - pl.lo) < lo
          ·-- the frozen range would lie above
           have z4:=h10 rfl (pl.lo + (lo - pl.cb)) (by omega) (by omega) (by omega)
           grind
          ·omega
         ·cases ht';exact ⟨y1,y2,.inr (by omega)⟩)
       rw [hup] at hput;exact ⟨_,_,φ,hrun,hput.1,by rw [e2]; exact .string _,hput.2⟩
      grind
     grind
    grind
   grind
  grind
 grind
end Go.Ab
namespace Go.Ab
theorem Xjn {P:Program} {B0:Nat} {φ:Pmap} {m m':Mem} {w:World} (hR:Rel B0 φ m w) {t kt e:TypeId} {ie:TypeInfo} {z:Value} {D:TypeDesc} {fuel:Nat} (hf:fuel <= 10000) (ht:P.underlying t=some (.map kt e)) (hD:P.underlying kt=some D)
  (hi:P.info? e=some ie) (hz:ie.zero=some z) (hp:X4j z=true)
  {x cx k ck v:Value} (hx:VRel φ x cx) (hk:VRel φ k ck) (hg:Xd0 (X1j P fuel kt) z x k m=some (v,m')) :
  ∃ cv w' φ',(Instr.mapEntry t cx ck).run P w=.ok cv w'/\Rel B0 φ' m' w'/\VRel φ' v cv/\Stp φ m w φ' m' w':=by
 unfold Xd0 at hg;simp only [X34] at hg;simp only [Option.ite_none_right_eq_some] at hg;obtain ⟨hc,hg⟩:=hg;simp only [Bool.and_eq_true] at hc;have hself:aEq (X1j P fuel kt) k k=some true:=by
  grind
 have hck:=X60 (P:=P) (w:=w) false fuel 10000 kt k ck hf hk hself;have hkk:ck=k:=Xf0 hc.1 hk;cases hx <;> try simp only [reduceCtorEq] at hg
 rename_i b R pl hb hpp;split at hg
 ·rename_i es clock hm;obtain ⟨_,o',h2,h3⟩:=hR.blocks b pl hb;rw [hm] at h2;cases h2;obtain ⟨h4,hro,es',h5,h6⟩:=h3;obtain rfl:=hpp h4;split at hg
  ·rename_i hfi;obtain ⟨x,k1,k2⟩:=X2n (w:=w) hf hD hk h6 hfi;cases k2;simp at hg;obtain ⟨rfl,rfl⟩:=hg;have:=X66 hR hb hro (.map (es'.push { key:=ck,val:=z,born:=clock }) (clock + 1)) (.map (es ++ [(k,z,clock)]) (clock + 1))
    ⟨h4,hro,_,heap_set h5,by rw [Array.toList_push]; exact h6.append (.cons _ _ _ _ _ _ _ hk (X1d hp) .nil)⟩
   refine ⟨.tuple #[z,goInt clock],_,φ,?_,this.1,.tuple _ _ (.cons _ _ _ _ (X1d hp) (.cons _ _ _ _ (.int _ _) .nil)),this.2⟩;simp [Instr.mapEntry,run_underlying ht,run_getObj_map h5,hck,k1,X1v hi hz,run_setObj_map h5]
  ·rename_i i hfi;obtain ⟨x,k1,k2⟩:=X2n (w:=w) hf hD hk h6 hfi;obtain ⟨e',_,k4,k5⟩:=k2;split at hg
   ·rename_i en hen;split at hg
    ·rename_i hveq;simp at hg;obtain ⟨rfl,rfl⟩:=hg;obtain ⟨e2,q1,q2,q3,q4⟩:=h6.get hen;simp only [Nat.sub_zero] at k4;rw [q1] at k4;cases k4;subst k5;have hil:i < es'.size:=by
      grind
     have hold:es'[i]?=some e':=by rw [<- Array.getElem?_toList]; exact q1
     have hkey:e'.key=ck:=by
      have h1:e'.key=en.1:=by
       have hvv:veq en.1 en.1=true:=by
        have:=Xku hveq;rw [this]; exact hc.1
       exact Xf0 hvv q2
      rw [h1,Xku hveq,hkk]
     have hsb:Instr.sameBits 10000 e'.key ck=true:=by
      rw [hkey,hkk]; exact Xe1 hc.1
     have hmod:(es'.modify i fun e=>{ e with key:=ck }).toList=es'.toList.set i { key:=ck,val:=e'.val,born:=en.2.2 }:=by
      apply List.ext_getElem?;intro j;rw [Array.getElem?_toList,Array.getElem?_modify];by_cases hij:i=j
      ·grind
      ·grind
     have:=X66 hR hb hro (.map (es'.modify i fun e=>{ e with key:=ck }) clock) (.map (es.set i (k,en.2.1,en.2.2)) clock)
      ⟨h4,hro,_,heap_set h5,by rw [hmod]; exact h6.set i k en.2.1 ck e'.val en.2.2 hk q3⟩
     refine ⟨.tuple #[e'.val,goInt e'.born],_,φ,?_,this.1,.tuple _ _ (.cons _ _ _ _ q3 (.cons _ _ _ _ (by rw [q4]; exact .int _ _) .nil)),this.2⟩;simp [Instr.mapEntry,run_underlying ht,run_getObj_map h5,hck,k1,hold,Instr.keyThatStays,hsb,run_setObj_map h5]
    grind
   grind
  grind
 grind
theorem Xi9 {φ:Pmap} {n:Int}:∀ {es:List (Value × Value × Nat)} {es':List MapEntry},EntRel φ es es'->∀ {i:Nat},Xli n es=some i->es'.findIdx? (fun e=>(e.born:Int) == n)=some i
 | [],_,h,i,hg=>by trivial
 | (k,v,b) :: l,_,h,i,hg=>by
  cases h with
  | cons _ _ k' v' _ _ l' hk hv hl =>
   simp only [Xli,Xo4] at hg;rw [List.findIdx?_cons];split at hg
   ·grind
   ·rename_i hb;split at hg
    ·rename_i j hj;simp only [Option.some.injEq] at hg;subst hg;simp [hb,Xi9 hl hj]
    ·cases hg
theorem Xgk {P:Program} {B0:Nat} {φ:Pmap} {m m':Mem} {w:World} (hR:Rel B0 φ m w) (t:TypeId) {x cx s cs v cv:Value} (hx:VRel φ x cx) (hs:VRel φ s cs) (hv:VRel φ v cv) (hg:X94 x s v m=some m') :
  ∃ w' φ',(Instr.entryStore t cx cs cv).run P w=.ok () w'/\Rel B0 φ' m' w'/\Stp φ m w φ' m' w':=by
 unfold X94 at hg;split at hg
 ·rename_i b kd n;cases hs;cases hx with
  | map _ R pl hb hpp =>
  split at hg
  ·rename_i es clock hm;obtain ⟨_,o',h2,h3⟩:=hR.blocks b pl hb;rw [hm] at h2;cases h2;obtain ⟨h4,hro,es',h5,h6⟩:=h3;obtain rfl:=hpp h4;split at hg
   ·rename_i i hbi;have hfi:=Xi9 h6 hbi;split at hg
    ·rename_i en hen;simp at hg;subst hg;obtain ⟨e',q1,q2,q3,q4⟩:=h6.get hen;have hil:i < es'.size:=by
      rcases Nat.lt_or_ge i es'.size with hh | hh
      ·exact hh
      ·grind
     have hold:es'[i]?=some e':=by rw [<- Array.getElem?_toList]; exact q1
     have hmod:(es'.modify i fun e=>{ e with val:=cv }).toList=es'.toList.set i { key:=e'.key,val:=cv,born:=en.2.2 }:=by
      apply List.ext_getElem?;intro j;rw [Array.getElem?_toList,Array.getElem?_modify];by_cases hij:i=j
      ·grind
      ·grind
     have:=X66 hR hb hro (.map (es'.modify i fun e=>{ e with val:=cv }) clock) (.map (es.set i (en.1,v,en.2.2)) clock)
      ⟨h4,hro,_,heap_set h5,by rw [hmod]; exact h6.set i en.1 v e'.key cv en.2.2 q2 hv⟩
     refine ⟨_,φ,?_,this.1,this.2⟩;have hfa:es'.findIdx? (fun e=>(e.born:Int) == n)=some i:=by
      obtain ⟨l⟩:=es';rw [List.findIdx?_toArray]; exact hfi
     simp [Instr.entryStore,run_getObj_map h5,asInt,asIntOf,hfa,run_setObj_map h5]
    grind
   grind
  grind
 grind
end Go.Ab
namespace Go.Ab
theorem Xa0 (z:Array Value):∀ n,(Builtin.zeroCells z n).toList=rep n z.toList
 | 0=>by simp [Builtin.zeroCells,rep]
 | n + 1=>by
  have h:=Xa0 z n;simp only [Builtin.zeroCells,Array.toList_map,Array.toList_range] at h ⊢;have e:(n + 1) * z.size=z.size + n * z.size:=by rw [Nat.succ_mul,Nat.add_comm]
  rw [e,List.range_add,List.map_append,List.map_map,rep,<- h];congr 1
  ·apply List.ext_getElem
   ·simp
   ·intro i h1 h2;simp at h1;simp [Nat.mod_eq_of_lt h1,h1]
  ·apply List.map_congr_left;intro i _;simp
theorem Xrq {P:Program} {B0:Nat} {φ:Pmap} {m m':Mem} {w:World} (hR:Rel B0 φ m w) {t ty e:TypeId} {i:TypeInfo} {z:Value} (ht:P.underlying t=some (.slice e)) (hi:P.info? e=some i) (hz:i.zero=some z) (hp:X4j z=true)
  {x cx:Value} (hx:VRel φ x cx) (hg:Xpj z.cells.toList i.size x m=some m'):∃ w' φ',(Builtin.clear_ #[t] ty #[cx]).run P w=.ok (.tuple #[]) w'/\Rel B0 φ' m' w'/\Stp φ m w φ' m' w':=by
 unfold Xpj at hg;split at hg
 ·cases hg;cases hx;exact ⟨w,φ,by simp [Builtin.clear_,run_underlying ht],hR,.refl _ _ _⟩
 ·rename_i a n r;split at hg
  ·rename_i hsp;cases hx with
   | slice b o es _ _ B O cap pl hb hes hn hr hp' =>
   split at hg
   ·rename_i h0;cases hg;subst h0;exact ⟨w,φ,by simp [Builtin.clear_,run_underlying ht],hR,.refl _ _ _⟩
   ·rename_i h0;have hm:∃ c fro ty',m.get b=some (.cells c (r / 2) fro false ty'):=by
     obtain ⟨c,ver,fro,ty',hm,hc,_⟩:=X67 hg;have hc1:=hc.1;simp only [Option.some.injEq] at hc1;exact ⟨c,fro,ty',by rw [hm,hc1]⟩
    obtain ⟨c,fro,ty',hm⟩:=hm;obtain ⟨_,o',h2,h3⟩:=hR.blocks b pl hb;rw [hm] at h2;cases h2;have hver:=h3.1;obtain ⟨q1,_⟩:=hp' hver.symm;rcases q1 with q1 | ⟨q1,q2,q3,_⟩
    ·omega
    have hzz:=Xfn (X2a (X1d (φ:=φ) hp)) n;obtain ⟨w',φ',p1,p2,p3,_⟩:=X8j (P:=P) hR (.ptr b o _ B O pl hb (by omega) (fun _=>⟨q1,q2,q3⟩)) hzz hg;refine ⟨w',φ',?_,p2,p3⟩;have hn0:n ≠ 0:=h0;cases n with
    | zero=>grind
    | succ k=>simp [Builtin.clear_,run_underlying ht,X1v hi hz,Xa0,p1]
  grind
 grind
theorem Xj5 {P:Program} {B0:Nat} {φ:Pmap} {m m':Mem} {w:World} (hR:Rel B0 φ m w) {t kt e:TypeId} (ht:P.underlying t=some (.map kt e)) {x cx v:Value} (hx:VRel φ x cx) (hg:Xdl x m=some (v,m')) :
  ∃ cv w' φ',(Instr.range t cx).run P w=.ok cv w'/\Rel B0 φ' m' w'/\VRel φ' v cv/\Stp φ m w φ' m' w':=by
 unfold Xdl at hg;split at hg
 ·cases hx;simp at hg;obtain ⟨rfl,rfl⟩:=hg;have hp:=X7i hR _ (w1:=w.alloc (.mapIter _ 0 #[] 0)) rfl rfl rfl rfl ⟨w.heap.size,0,0,0,0,false⟩ rfl (.miter _ 0 none 0) ⟨rfl,rfl,rfl,rfl,none,.nilMap,Array.getElem?_push_size,fun s h=>by cases h⟩;refine ⟨.pointer (some ⟨w.heap.size,0,none⟩),w.alloc _,_,?_,hp.1,.ptr _ _ _ _ _ _ (Pmap.upd_same _ _ _) (by simp) (fun _=>⟨rfl,by simp,by simp⟩),hp.2⟩;simp [Instr.range,run_underlying ht]
 ·rename_i b;split at hg
  ·rename_i es clock hm;simp at hg;obtain ⟨rfl,rfl⟩:=hg;cases hx with
   | map _ R pl hb hpp =>
   obtain ⟨hlt,o',h2,h3⟩:=hR.blocks b pl hb;rw [hm] at h2;cases h2;obtain ⟨h4,hro,es',h5,h6⟩:=h3;obtain rfl:=hpp h4;have hne:b ≠ m.next:=by omega
   have hp:=X7i hR (.mapIter _ _ #[] _) (w1:=w.alloc _) rfl rfl rfl rfl ⟨w.heap.size,0,0,0,0,false⟩ rfl (.miter _ clock none clock) ⟨rfl,rfl,rfl,rfl,some _,.map b _ pl (by rw [Pmap.upd_other _ hne]; exact hb) hpp,Array.getElem?_push_size,fun s h=>by cases h⟩;refine ⟨.pointer (some ⟨w.heap.size,0,none⟩),w.alloc _,_,?_,hp.1,.ptr _ _ _ _ _ _ (Pmap.upd_same _ _ _) (by simp) (fun _=>⟨rfl,by simp,by simp⟩),hp.2⟩;simp [Instr.range,run_underlying ht,run_getObj_map h5]
  grind
 grind
theorem Xmo {P:Program} {B0:Nat} {φ:Pmap} {m m':Mem} {w:World} (hR:Rel B0 φ m w) {ty:TypeId} {x cx v:Value} (hx:VRel φ x cx) (hg:Xgn x m=some (v,m')) :
  ∃ cv w' φ',(Instr.next cx false ty).run P w=.ok cv w'/\Rel B0 φ' m' w'/\VRel φ' v cv/\Stp φ m w φ' m' w':=by
 have over:VRel φ (.tuple #[.bool _]) (.tuple #[.bool false]):=.tuple _ _ (.cons _ _ _ _ (.bool _) .nil);have ch:(Question.mapNext 1).forced=true:=rfl;unfold Xgn at hg;split at hg
 ·rename_i b sp;cases hx with
  | ptr _ _ r B O pl hb hr hp =>
  split at hg
  ·rename_i since seen last hm;simp at hg;obtain ⟨rfl,rfl⟩:=hg;obtain ⟨_,o',h2,h3⟩:=hR.blocks b pl hb;rw [hm] at h2;cases h2;obtain ⟨h4,hro,h5,h6,cm,h7,h8,h9⟩:=h3;obtain ⟨hp1,_,hp3⟩:=hp (by omega);have hO:O=0:=by omega
   subst hp1 hO;cases h7;have hget:(getObj pl.blk).run P w=.ok (.mapIter none since (match seen with | none=>#[] | some s=>#[s]) last) w:=by cases seen <;> simp only [getObj,Sem.run,h8]
   exact ⟨.tuple _,w,φ,by cases seen <;> simp [Instr.next,hget],hR,over,.refl _ _ _⟩
  ·rename_i mb since last hm;obtain ⟨_,o',h2,h3⟩:=hR.blocks b pl hb;rw [hm] at h2;cases h2;obtain ⟨h4,hro,h5,h6,cm,h7,h8,h9⟩:=h3;obtain ⟨hp1,_,hp3⟩:=hp (by omega);have hO:O=0:=by omega
   subst hp1 hO;have h70:=h7;cases h7 with
   | map _ R pl' hb' hpp =>
   have hget:(getObj pl.blk).run P w=.ok (.mapIter (some R) since #[] last) w:=by simp only [getObj,Sem.run,h8]
   have hset:∀ o,(setObj pl.blk o).run P w=.ok () { w with heap:=w.heap.setIfInBounds pl.blk o }:=fun o=>by simp only [setObj,Sem.run,h8]
   split at hg
   ·rename_i clock hmm;obtain ⟨_,o',q1,q2⟩:=hR.blocks mb pl' hb';rw [hmm] at q1;cases q1;obtain ⟨q3,q4,es',q5,q6⟩:=q2;obtain rfl:=hpp q3;have:es'=#[]:=by
     generalize hL:es'.toList=L at q6;cases q6;exact Array.ext' hL
    subst this;simp at hg;obtain ⟨rfl,rfl⟩:=hg;exact ⟨.tuple _,w,φ,by simp [Instr.next,hget,run_getObj_map q5,ch],hR,over,.refl _ _ _⟩
   ·rename_i k u born clock hmm;obtain ⟨_,o',q1,q2⟩:=hR.blocks mb pl' hb';rw [hmm] at q1;cases q1;obtain ⟨q3,q4,es',q5,q6⟩:=q2;obtain rfl:=hpp q3;have:∃ k' u',es'=#[⟨k',u',born⟩]/\VRel φ k k'/\VRel φ u u':=by
     generalize hL:es'.toList=L at q6;cases q6 with
     | cons _ _ k' u' _ _ l' hk hv hl =>
      cases hl
      grind
    obtain ⟨k',u',rfl,hk,hu⟩:=this;split at hg
    ·rename_i hc;simp at hg;obtain ⟨rfl,rfl⟩:=hg;have:=X66 hR hb hro (.mapIter _ _ #[born] _) (.miter _ since (some _) clock) ⟨h4,hro,h5,h6,some _,h70,heap_set h8,fun s hs=>by cases hs; omega⟩;refine ⟨.tuple #[.bool _,k',u'],_,φ,?_,this.1,.tuple _ _ (.cons _ _ _ _ (.bool _) (.cons _ _ _ _ hk (.cons _ _ _ _ hu .nil))),this.2⟩;have hnb:¬ since <= born:=by omega
     simp [Instr.next,hget,run_getObj_map q5,ch,hset,hc.1,hnb]
    grind
   grind
  ·rename_i mb since s last hm;obtain ⟨_,o',h2,h3⟩:=hR.blocks b pl hb;rw [hm] at h2;cases h2;obtain ⟨h4,hro,h5,h6,cm,h7,h8,h9⟩:=h3;obtain ⟨hp1,_,hp3⟩:=hp (by omega);have hO:O=0:=by omega
   subst hp1 hO;cases h7 with
   | map _ R pl' hb' hpp =>
   have hsl:=h9 s rfl;have hget:(getObj pl.blk).run P w=.ok (.mapIter (some R) since #[s] last) w:=by simp only [getObj,Sem.run,h8]
   split at hg
   ·rename_i clock hmm;obtain ⟨_,o',q1,q2⟩:=hR.blocks mb pl' hb';rw [hmm] at q1;cases q1;obtain ⟨q3,q4,es',q5,q6⟩:=q2;obtain rfl:=hpp q3;have:es'=#[]:=by
     generalize hL:es'.toList=L at q6;cases q6;exact Array.ext' hL
    subst this;simp at hg;obtain ⟨rfl,rfl⟩:=hg;exact ⟨.tuple _,w,φ,by simp [Instr.next,hget,run_getObj_map q5,ch],hR,over,.refl _ _ _⟩
   ·rename_i k u born clock hmm;obtain ⟨_,o',q1,q2⟩:=hR.blocks mb pl' hb';rw [hmm] at q1;cases q1;obtain ⟨q3,q4,es',q5,q6⟩:=q2;obtain rfl:=hpp q3;have:∃ k' u',es'=#[⟨k',u',born⟩]/\VRel φ k k'/\VRel φ u u':=by
     generalize hL:es'.toList=L at q6;cases q6 with
     | cons _ _ k' u' _ _ l' hk hv hl =>
      cases hl
      grind
    obtain ⟨k',u',rfl,hk,hu⟩:=this;split at hg
    ·rename_i hc;subst hc;simp at hg;obtain ⟨rfl,rfl⟩:=hg;have hnl:¬ last <= born:=by omega
     exact ⟨.tuple _,w,φ,by simp [Instr.next,hget,run_getObj_map q5,ch,hnl],hR,over,.refl _ _ _⟩
    grind
   grind
  grind
 grind
theorem Xsp {P:Program} {B0:Nat} {φ:Pmap} {m:Mem} {w:World} (hR:Rel B0 φ m w) {x cx v:Value} (hx:VRel φ x cx) (hg:Xny x m=some v) :
  ∃ cv,(Instr.entry cx).run P w=.ok cv w/\VRel φ v cv:=by
 unfold Xny at hg;split at hg
 ·rename_i b sp;cases hx with
  | ptr _ _ r B O pl hb hr hp =>
  split at hg
  ·rename_i mb since s last hm;obtain ⟨_,o',h2,h3⟩:=hR.blocks b pl hb;rw [hm] at h2;cases h2;obtain ⟨h4,hro,h5,h6,cm,h7,h8,h9⟩:=h3;obtain ⟨hp1,_,hp3⟩:=hp (by omega);have hO:O=0:=by omega
   subst hp1 hO;cases h7 with
   | map _ R pl' hb' hpp =>
   have hget:(getObj pl.blk).run P w=.ok (.mapIter (some R) since #[s] last) w:=by simp only [getObj,Sem.run,h8]
   split at hg
   ·rename_i k u born clock hmm;obtain ⟨_,o',q1,q2⟩:=hR.blocks mb pl' hb';rw [hmm] at q1;cases q1;obtain ⟨q3,q4,es',q5,q6⟩:=q2;obtain rfl:=hpp q3;have:∃ k' u',es'=#[⟨k',u',born⟩]/\VRel φ k k'/\VRel φ u u':=by
     generalize hL:es'.toList=L at q6;cases q6 with
     | cons _ _ k' u' _ _ l' hk hv hl =>
      cases hl
      grind
    obtain ⟨k',u',rfl,hk,hu⟩:=this;split at hg
    ·rename_i hc;obtain ⟨rfl,rfl⟩:=hc;cases hg;exact ⟨.tuple _,by simp [Instr.entry,hget,run_getObj_map q5],.tuple _ _ (.cons _ _ _ _ hk (.cons _ _ _ _ hu .nil))⟩
    grind
   grind
  grind
 grind
theorem EntRel.erase {φ:Pmap}:∀ {a:List (Value × Value × Nat)} {c:List MapEntry},EntRel φ a c->∀ i,EntRel φ (a.eraseIdx i) (c.eraseIdx i)
 | _,_,.nil,_=>.nil
 | _,_,.cons k v k' v' n l l' hk hv hl,0=>hl
 | _,_,.cons k v k' v' n l l' hk hv hl,i + 1=>.cons k v k' v' n _ _ hk hv (EntRel.erase hl i)
theorem Xp3 {P:Program} {B0:Nat} {φ:Pmap} {m m':Mem} {w:World} (hR:Rel B0 φ m w) {t t2 ty kt e:TypeId} {D:TypeDesc} {fuel:Nat} (hf:fuel <= 10000) (ht:P.underlying t=some (.map kt e)) (hD:P.underlying kt=some D)
  {x cx k ck:Value} (hx:VRel φ x cx) (hk:VRel φ k ck) (hg:Xir (X1j P fuel kt) x k m=some m') :
  ∃ w' φ',(Builtin.delete_ #[t,t2] ty #[cx,ck]).run P w=.ok (.tuple #[]) w'/\Rel B0 φ' m' w'/\Stp φ m w φ' m' w':=by
 unfold Xir at hg;simp only [X34] at hg;simp only [Option.ite_none_right_eq_some] at hg;obtain ⟨hc,hg⟩:=hg;simp at hc;have hself:aEq (X1j P fuel kt) k k=some true:=by
  have:=hc.2;split at this
  ·grind
  ·grind
 have hck:=fun em=>X60 (w:=w) em _ _ kt k ck hf hk hself;split at hg
 ·cases hx;cases hg;exact ⟨w,φ,by simp [Builtin.delete_,run_underlying ht,hck],hR,.refl _ _ _⟩
 ·rename_i b;cases hx with
  | map _ R pl hb hpp =>
  split at hg
  ·rename_i es clock hm;obtain ⟨_,o',h2,h3⟩:=hR.blocks b pl hb;rw [hm] at h2;cases h2;obtain ⟨h4,hro,es',h5,h6⟩:=h3;obtain rfl:=hpp h4;split at hg
   ·rename_i hfi;obtain ⟨x,k1,k2⟩:=X2n (w:=w) hf hD hk h6 hfi;cases k2;simp at hg;subst hg;have:=X66 hR hb hro _ (.map es clock) ⟨h4,hro,_,heap_set h5,h6⟩;refine ⟨_,φ,?_,this.1,this.2⟩;simp [Builtin.delete_,run_underlying ht,run_getObj_map h5,hck,k1,run_setObj_map h5]
   ·rename_i i hfi;obtain ⟨x,k1,k2⟩:=X2n (w:=w) hf hD hk h6 hfi;obtain ⟨e',_,k4,k5⟩:=k2;subst k5;simp at hg;subst hg;have:=X66 hR hb hro _ (.map _ clock) ⟨h4,hro,_,heap_set h5,by rw [Array.toList_eraseIdxIfInBounds]; exact h6.erase i⟩;refine ⟨_,φ,?_,this.1,this.2⟩;simp [Builtin.delete_,run_underlying ht,run_getObj_map h5,hck,k1,run_setObj_map h5]
   grind
  grind
 grind
end Go.Ab
end
