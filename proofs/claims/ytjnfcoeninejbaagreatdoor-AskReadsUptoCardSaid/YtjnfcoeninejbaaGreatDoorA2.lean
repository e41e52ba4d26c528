/-
  What the functions of the program answer, at every text and every question. No conditions.
-/
import Derived.Test.YtjnfcoeninejbaaGreatDoorA1
set_option maxRecDepth 100000
set_option linter.unusedSimpArgs false
set_option linter.unusedVariables false
namespace Go.Ab
open Go Go.Lib Go.Ab.Sh
theorem prefP_iff {s:Str} {a b:Nat}:prefP s=(a,b,0) ↔ s=X1c a (b:Nat)∧a < 4294967296∧b ≤ 32∧a % 2 ^ (32 - b)=0:=by
  constructor
  . intro h
    unfold prefP at h
    split at h
    . cases h
    . rename_i x y hc
      split at h
      . rename_i a' b' h1 h2
        split at h
        . rename_i h3
          cases h
          obtain ⟨rfl,q1⟩:=addrP_iff.mp h1
          obtain ⟨rfl,q2⟩:=num_some.mp h2
          obtain ⟨rfl,_⟩:=X5x hc
          refine ⟨?_,q1,q2,h3⟩
          unfold X1c
          rw [X21]
          simp
        . cases h
      . cases h
  . rintro ⟨rfl,h1,h2,h3⟩
    unfold prefP X1c
    rw [X21,show X1j a ++ [47] ++ decDigits b=X1j a ++ 47 :: decDigits b by simp,X3r _ (X64 a 47 (by decide) (by decide))]
    simp only [addrP_iff.mpr ⟨rfl,h1⟩,X2a h2]
    rw [if_pos h3]
theorem refPorts_iff {s:Str} {a b:Nat}:X15 s=some (a,b) ↔ s=Xu a b∧a ≤ b∧b ≤ 65535:=by
  constructor
  . intro h
    unfold X15 at h
    split at h
    . cases h
    . rename_i x y hc
      split at h
      . rename_i h1 h2
        split at h
        . rename_i h3
          cases h
          obtain ⟨rfl,q1⟩:=num_some.mp h1
          obtain ⟨rfl,q2⟩:=num_some.mp h2
          obtain ⟨rfl,_⟩:=X5x hc
          exact ⟨by unfold Xu; simp,h3,q2⟩
        . cases h
      . cases h
  . rintro ⟨rfl,h1,h2⟩
    unfold X15 Xu
    rw [show decDigits a ++ [45] ++ decDigits b=decDigits a ++ 45 :: decDigits b by simp,X3r _ (X2i a 45 (by decide))]
    simp only [X2a (show a ≤ 65535 by omega),X2a h2]
    rw [if_pos h1]
theorem portsP_iff {s:Str} {a b:Nat}:X1v s=some (a,b) ↔ s=Xu a b∧a ≤ b∧b ≤ 65535∧b - a < 65535:=by
  constructor
  . intro h
    unfold X1v at h
    split at h
    . cases h
    . rename_i x y hc
      split at h
      . rename_i h1 h2
        split at h
        . rename_i h3
          cases h
          obtain ⟨rfl,q1⟩:=num_some.mp h1
          obtain ⟨rfl,q2⟩:=num_some.mp h2
          obtain ⟨rfl,_⟩:=X5x hc
          exact ⟨by unfold Xu; simp,h3.1,q2,h3.2⟩
        . cases h
      . cases h
  . rintro ⟨rfl,h1,h2,h3⟩
    unfold X1v Xu
    rw [show decDigits a ++ [45] ++ decDigits b=decDigits a ++ 45 :: decDigits b by simp,X3r _ (X2i a 45 (by decide))]
    simp only [X2a (show a ≤ 65535 by omega),X2a h2]
    rw [if_pos ⟨h1,h3⟩]
structure GoodR (r:Rl):Prop where
  permit:r.permit=true
  proto:r.proto=-1∨(0 ≤ r.proto∧r.proto ≤ 255)
  sb:0 ≤ r.sb∧r.sb ≤ 32
  sa:r.sa < 4294967296
  sm:r.sa % 2 ^ (32 - r.sb.toNat)=0
  db:0 ≤ r.db∧r.db ≤ 32
  da:r.da < 4294967296
  dm:r.da % 2 ^ (32 - r.db.toNat)=0
  s1:r.sl ≤ r.sh
  s2:r.sh ≤ 65535
  d1:r.dl ≤ r.dh
  d2:r.dh ≤ 65535
theorem GoodR.ok {r:Rl} (h:GoodR r):RlOk r where
  proto:=by
    rcases h.proto with e | ⟨e1,e2⟩
    . rw [e]; decide
    . obtain ⟨n,hn⟩:=Int.eq_ofNat_of_zero_le e1
      rw [hn]; exact X28 (by omega)
  sa:=h.sa
  sb:=by
    obtain ⟨n,hn⟩:=Int.eq_ofNat_of_zero_le h.sb.1
    have:=h.sb.2
    rw [hn]; exact X28 (by omega)
  da:=h.da
  db:=by
    obtain ⟨n,hn⟩:=Int.eq_ofNat_of_zero_le h.db.1
    have:=h.db.2
    rw [hn]; exact X28 (by omega)
  sl:=by have:=h.s1; have:=h.s2; omega
  sh:=by have:=h.s2; omega
  dl:=by have:=h.d1; have:=h.d2; omega
  dh:=by have:=h.d2; omega
theorem Xsh:GoodR rlH:=⟨rfl,.inl rfl,by decide,by decide,by decide,by decide,by decide,by decide,by decide,by decide,by decide,by decide⟩
theorem Xl1 {w v:Str} {r r':Rl} (h:GoodR r) (e:X1y w v r=some r'):GoodR r':=by
  unfold X1y at e
  split at e
  . split at e
    . rename_i h0
      cases e
      obtain ⟨_,q1,q2,q3⟩:=prefP_iff.mp (show prefP v=((prefP v).1,(prefP v).2.1,0) by rw [← h0])
      exact { h with sa:=q1,sb:=⟨by show (0:Int) ≤ ((prefP v).2.1:Nat); omega,by show (((prefP v).2.1:Nat):Int) ≤ 32; omega⟩,sm:=q3 }
    . cases e
  split at e
  . split at e
    . rename_i h0
      cases e
      obtain ⟨_,q1,q2,q3⟩:=prefP_iff.mp (show prefP v=((prefP v).1,(prefP v).2.1,0) by rw [← h0])
      exact { h with da:=q1,db:=⟨by show (0:Int) ≤ ((prefP v).2.1:Nat); omega,by show (((prefP v).2.1:Nat):Int) ≤ 32; omega⟩,dm:=q3 }
    . cases e
  split at e
  . split at e
    . rename_i n hn
      cases e
      have:=(num_some.mp hn).2
      exact { h with proto:=.inr ⟨by show (0:Int) ≤ (n:Nat); omega,by show ((n:Nat):Int) ≤ 255; omega⟩ }
    . cases e
  split at e
  . split at e
    . rename_i a b hr
      cases e
      obtain ⟨_,q1,q2⟩:=refPorts_iff.mp hr
      exact { h with s1:=q1,s2:=q2 }
    . cases e
  split at e
  . split at e
    . rename_i a b hr
      cases e
      obtain ⟨_,q1,q2⟩:=refPorts_iff.mp hr
      exact { h with d1:=q1,d2:=q2 }
    . cases e
  . cases e
theorem Xbo:∀ (n:Nat) (ws:List Str) (r r':Rl),ws.length ≤ n→GoodR r→X5e ws r=some r'→GoodR r'
  | n,[],r,r',hn,h,e=>by cases e; exact h
  | n,[a],r,r',hn,h,e=>by cases e; exact h
  | 0,a :: b :: ws,r,r',hn,h,e=>by simp at hn
  | n + 1,a :: b :: ws,r,r',hn,h,e=>by
    rw [X6e] at e
    cases hp:X1y a b r with
    | none=>rw [hp] at e; cases e
    | some r1 =>
      rw [hp] at e
      exact Xbo n ws r1 r' (by simp at hn; omega) (Xl1 h hp) e
def optW (c:Bool) (w v:Str):List Str:=if c=true then [w,v] else []
def X1b (r:Rl):List Str:=optW (cF r) fromW (X1c r.sa r.sb) ++ optW (cT r) toW (X1c r.da r.db) ++ optW (cP r) protoW (itoa r.proto) ++ optW (cS r) sportsW (Xu r.sl r.sh) ++ optW (cD r) dportsW (Xu r.dl r.dh)
theorem X9l (c:UInt8) (w:Str):∀ (l:List Str),l ≠ []→Xw [c] (l ++ [w])=Xw [c] l ++ [c] ++ w
  | [],h=>absurd rfl h
  | [a],_=>by simp [Xw,List.intercalate,List.intersperse]
  | a :: b :: l,_=>by
    have e:∀ (x:List Str),x ≠ []→Xw [c] (a :: x)=a ++ c :: Xw [c] x:=by
      intro x hx
      cases x with
      | nil=>exact absurd rfl hx
      | cons y x=>simp [Xw,List.intercalate,List.intersperse]
    rw [List.cons_append,e _ (by simp),e _ (by simp),X9l c w (b :: l) (by simp)]
    simp
theorem X5o (l:List Str) (hl:l ≠ []) (c:Bool) (w v:Str):Xw [32] (l ++ optW c w v)=Xw [32] l ++ opt2 c w v:=by
  unfold optW opt2
  cases c with
  | false=>simp
  | true =>
    rw [if_pos rfl,if_pos rfl,show l ++ [w,v]=(l ++ [w]) ++ [v] by simp,X9l _ _ _ (by simp),X9l _ _ _ hl]
    simp
theorem Xbq (l:List Str) (hl:l ≠ []) (r:Rl):Xw [32] (l ++ X1b r)=Xw [32] l ++ X39 r:=by
  have ne:∀ x:List Str,l ++ x ≠ []:=fun x e=>hl (List.append_eq_nil_iff.mp e).1
  unfold X1b X39
  simp only [← List.append_assoc]
  rw [X5o _ (by simp [hl]),X5o _ (by simp [hl]),X5o _ (by simp [hl]),X5o _ (by simp [hl]),X5o _ hl]
end Go.Ab

set_option maxRecDepth 100000
set_option linter.unusedSimpArgs false
set_option linter.unusedVariables false
namespace Go.Ab
open Go Go.Lib Go.Ab.Sh
theorem X4i {c:Bool} {w v:Str} {rest:List Str} {r0 r1:Rl} (h1:c=true→X1y w v r0=some r1) (h0:c=false→r0=r1):X5e (optW c w v ++ rest) r0=X5e rest r1:=by
  cases c with
  | false=>rw [h0 rfl]; rfl
  | true =>
    show X5e (w :: v :: rest) r0=_
    rw [X6e,h1 rfl]
theorem mod0 {a:Nat} {b:Int} (ha:a < 4294967296) (hb:b=0) (hm:a % 2 ^ (32 - b.toNat)=0):a=0:=by
  subst hb
  have:(2:Nat) ^ (32 - (0:Int).toNat)=4294967296:=by decide
  rw [this] at hm
  omega
theorem X9t {a:Nat} {b:Int} (ha:a < 4294967296) (hb:0 ≤ b∧b ≤ 32) (hm:a % 2 ^ (32 - b.toNat)=0):prefP (X1c a b)=(a,b.toNat,0):=by
  obtain ⟨n,rfl⟩:=Int.eq_ofNat_of_zero_le hb.1
  exact prefP_iff.mpr ⟨rfl,ha,by have:=hb.2; show n ≤ 32; omega,hm⟩
theorem Xla (v:Str) (r:Rl):X1y fromW v r=if (prefP v).2.2=0 then some { r with sa:=(prefP v).1,sb:=((prefP v).2.1:Nat) } else none:=by unfold X1y; rw [if_pos rfl]
theorem Xp7 (v:Str) (r:Rl):X1y toW v r=if (prefP v).2.2=0 then some { r with da:=(prefP v).1,db:=((prefP v).2.1:Nat) } else none:=by unfold X1y; rw [if_neg (by decide),if_pos rfl]
theorem Xiq (v:Str) (r:Rl):X1y protoW v r=match num 255 v with | some n=>some { r with proto:=(n:Nat) } | none=>none:=by unfold X1y; rw [if_neg (by decide),if_neg (by decide),if_pos rfl]; rfl
theorem Xfj (v:Str) (r:Rl):X1y sportsW v r=match X15 v with | some (a,b)=>some { r with sl:=a,sh:=b } | none=>none:=by unfold X1y; rw [if_neg (by decide),if_neg (by decide),if_neg (by decide),if_pos rfl]; rfl
theorem Xgm (v:Str) (r:Rl):X1y dportsW v r=match X15 v with | some (a,b)=>some { r with dl:=a,dh:=b } | none=>none:=by unfold X1y; rw [if_neg (by decide),if_neg (by decide),if_neg (by decide),if_neg (by decide),if_pos rfl]; rfl
theorem Xk6 {r:Rl} (h:GoodR r):X5e (X1b r) rlH=some r:=by
  unfold X1b
  simp only [List.append_assoc]
  obtain ⟨pm,pr,sa,sb,da,db,sl,sh,dl,dh⟩:=r
  have hpm:pm=true:=h.permit
  subst hpm
  rw [X4i (r1:={ rlH with sa:=sa,sb:=sb }) ?_ ?_]
  rw [X4i (r1:={ rlH with sa:=sa,sb:=sb,da:=da,db:=db }) ?_ ?_]
  rw [X4i (r1:={ rlH with sa:=sa,sb:=sb,da:=da,db:=db,proto:=pr }) ?_ ?_]
  rw [X4i (r1:={ rlH with sa:=sa,sb:=sb,da:=da,db:=db,proto:=pr,sl:=sl,sh:=sh }) ?_ ?_]
  . rw [show optW (cD ⟨true,pr,sa,sb,da,db,sl,sh,dl,dh⟩) dportsW (Xu dl dh)=optW (cD ⟨true,pr,sa,sb,da,db,sl,sh,dl,dh⟩) dportsW (Xu dl dh) ++ [] by simp]
    rw [X4i (r1:=⟨true,pr,sa,sb,da,db,sl,sh,dl,dh⟩) ?_ ?_]
    . rfl
    . intro _
      rw [Xgm,refPorts_iff.mpr ⟨rfl,h.d1,h.d2⟩]
      rfl
    . intro hc
      unfold cD at hc
      have:=of_decide_eq_false hc
      simp only [not_or,Decidable.not_not] at this
      obtain ⟨rfl,rfl⟩:=this
      rfl
  . intro _
    rw [Xfj,refPorts_iff.mpr ⟨rfl,h.s1,h.s2⟩]
  . intro hc
    unfold cS at hc
    have:=of_decide_eq_false hc
    simp only [not_or,Decidable.not_not] at this
    obtain ⟨rfl,rfl⟩:=this
    rfl
  . intro hc
    unfold cP at hc
    have hne:pr ≠ -1:=of_decide_eq_true hc
    rcases h.proto with e | ⟨e1,e2⟩
    . exact absurd e hne
    . obtain ⟨n,rfl⟩:=Int.eq_ofNat_of_zero_le e1
      rw [Xiq]
      simp only
      rw [X21,X2a (by have:((n:Nat):Int) ≤ 255:=e2; omega)]
  . intro hc
    unfold cP at hc
    have:=of_decide_eq_false hc
    simp only [Decidable.not_not] at this
    subst this
    rfl
  . intro _
    have hp:=X9t h.da h.db h.dm
    rw [Xp7]
    simp only at hp ⊢
    rw [hp,if_pos rfl]
    have:((db.toNat:Nat):Int)=db:=Int.toNat_of_nonneg h.db.1
    simp only [this]
  . intro hc
    unfold cT at hc
    have h0:=of_decide_eq_false hc
    simp only [Decidable.not_not] at h0
    have:=mod0 h.da h0 h.dm
    simp only at this
    rw [this,h0]
    rfl
  . intro _
    have hp:=X9t h.sa h.sb h.sm
    rw [Xla]
    simp only at hp ⊢
    rw [hp,if_pos rfl]
    have:((sb.toNat:Nat):Int)=sb:=Int.toNat_of_nonneg h.sb.1
    simp only [this]
  . intro hc
    unfold cF at hc
    have h0:=of_decide_eq_false hc
    simp only [Decidable.not_not] at h0
    have:=mod0 h.sa h0 h.sm
    simp only at this
    rw [this,h0]
    rfl
theorem Xb6 (r:Rl):(X1b r).length % 2=0:=by
  have e:∀ c w v,(optW c w v).length % 2=0:=fun c w v=>by cases c <;> simp [optW]
  unfold X1b
  simp only [List.length_append]
  have:=e (cF r) fromW (X1c r.sa r.sb)
  have:=e (cT r) toW (X1c r.da r.db)
  have:=e (cP r) protoW (itoa r.proto)
  have:=e (cS r) sportsW (Xu r.sl r.sh)
  have:=e (cD r) dportsW (Xu r.dl r.dh)
  omega
theorem X3d {s:Str} (h:Xy s=true):(32:UInt8) ∉ s:=by
  unfold Xy at h
  split at h
  . cases h
  . rename_i a r
    simp only [Bool.and_eq_true,List.all_eq_true] at h
    intro hm
    rcases List.mem_cons.mp hm with e | e
    . rw [← e] at h; exact absurd h.2.1 (by decide)
    . exact absurd (h.2.2 _ e) (by decide)
theorem Xul {s:Str} (h:Xy s=true):s.length ≤ 32:=by
  unfold Xy at h
  split at h
  . cases h
  . simp only [Bool.and_eq_true] at h
    exact of_decide_eq_true h.1
theorem Xbx {s:Str} (h:Xy s=true):s ≠ []:=by
  intro e; subst e; cases h
theorem Xex {z:Int} (h:0 ≤ z):(32:UInt8) ∉ itoa z:=by
  obtain ⟨n,rfl⟩:=Int.eq_ofNat_of_zero_le h
  show 32 ∉ itoa ((n:Nat):Int)
  rw [X21]
  exact X2i n 32 d32
theorem Xg9 {a:Nat} {b:Int} (h:0 ≤ b):(32:UInt8) ∉ X1c a b:=by
  have h1:=X64 a 32 d32 (by decide)
  have h2:=Xex h
  unfold X1c
  intro hm
  rcases List.mem_append.mp hm with e | e
  . rcases List.mem_append.mp e with e | e
    . exact h1 e
    . exact absurd e (by decide)
  . exact h2 e
theorem Xgj (a b:Nat):(32:UInt8) ∉ Xu a b:=by
  unfold Xu
  intro hm
  rcases List.mem_append.mp hm with e | e
  . rcases List.mem_append.mp e with e | e
    . exact X2i a 32 d32 e
    . exact absurd e (by decide)
  . exact X2i b 32 d32 e
theorem X8k {c:Bool} {w v:Str} (hw:(32:UInt8) ∉ w) (hv:c=true→(32:UInt8) ∉ v):∀ x ∈ optW c w v,(32:UInt8) ∉ x:=by
  intro x hx
  cases c with
  | false=>cases hx
  | true =>
    have hx:x ∈ [w,v]:=hx
    simp only [List.mem_cons,List.not_mem_nil,or_false] at hx
    rcases hx with rfl | rfl
    . exact hw
    . exact hv rfl
theorem Xd0 {r:Rl} (h:GoodR r):∀ x ∈ X1b r,(32:UInt8) ∉ x:=by
  intro x hx
  unfold X1b at hx
  simp only [List.mem_append] at hx
  rcases hx with (((hx | hx) | hx) | hx) | hx
  . exact X8k (by decide) (fun _=>Xg9 h.sb.1) x hx
  . exact X8k (by decide) (fun _=>Xg9 h.db.1) x hx
  . refine X8k (by decide) (fun hc=>?_) x hx
    unfold cP at hc
    rcases h.proto with e | e
    . exact absurd e (of_decide_eq_true hc)
    . exact Xex e.1
  . exact X8k (by decide) (fun _=>Xgj _ _) x hx
  . exact X8k (by decide) (fun _=>Xgj _ _) x hx
inductive GoodQ:QN→Prop where
  | way (k:Nat) (dev ifc:Str) (en:Nat) (r:Rl):(k=1∨k=2)→Xy dev=true→Xy ifc=true→1 ≤ en→en ≤ 7→GoodR r→GoodQ { q0 with kind:=k,dev:=dev,ifc:=ifc,en:=en,r:=r }
  | loop (dev ifc:Str) (r:Rl):Xy dev=true→Xy ifc=true→GoodR r→GoodQ { q0 with kind:=3,dev:=dev,ifc:=ifc,r:=r }
  | trace (dev ifc:Str) (hops a b p m n:Nat):Xy dev=true→Xy ifc=true→hops ≤ 255→HB a b p m n→GoodQ { q0 with kind:=4,dev:=dev,ifc:=ifc,hops:=(hops:Nat),a:=a,b:=b,p:=p,m:=m,n:=n }
  | table (k:Nat) (dev:Str):(k=5∨k=6)→Xy dev=true→GoodQ { q0 with kind:=k,dev:=dev }
  | tableV (k:Nat) (dev vrf:Str):(k=5∨k=6)→Xy dev=true→Xy vrf=true→GoodQ { q0 with kind:=k,dev:=dev,vrf:=vrf }
  | owner (ad:Nat):ad < 4294967296→GoodQ { q0 with kind:=7,ad:=ad }
end Go.Ab

set_option maxRecDepth 100000
set_option linter.unusedSimpArgs false
set_option linter.unusedVariables false
namespace Go.Ab
open Go Go.Lib Go.Ab.Sh
def X16 (k:Nat):Str:=kindsL.getD (k - 1) []
def endW (e:Nat):Str:=endsL.getD (e - 1) []
theorem Xey {k:Nat} (h1:1 ≤ k) (h7:k ≤ 7):kindsL[k - 1]?=some (X16 k):=by
  have hl:kindsL.length=7:=rfl
  exact getD_at (by omega)
theorem Xre {k:Nat} (h1:1 ≤ k) (h7:k ≤ 7):endsL[k - 1]?=some (endW k):=by
  have hl:endsL.length=7:=rfl
  exact getD_at (by omega)
theorem Xpr:∀ k,k < 7→posG 0 kindsL (X16 (k + 1))=k + 1∧(32:UInt8) ∉ X16 (k + 1):=by decide
theorem Xsm:∀ k,k < 7→posG 0 endsL (endW (k + 1))=k + 1∧(32:UInt8) ∉ endW (k + 1):=by decide
theorem kpos {k:Nat} (h1:1 ≤ k) (h7:k ≤ 7):posG 0 kindsL (X16 k)=k∧(32:UInt8) ∉ X16 k:=by
  obtain ⟨j,rfl⟩:∃ j,k=j + 1:=⟨k - 1,by omega⟩
  exact Xpr j (by omega)
theorem epos {k:Nat} (h1:1 ≤ k) (h7:k ≤ 7):posG 0 endsL (endW k)=k∧(32:UInt8) ∉ endW k:=by
  obtain ⟨j,rfl⟩:∃ j,k=j + 1:=⟨k - 1,by omega⟩
  exact Xsm j (by omega)
def X17 (q:QN):List Str:=
  if q.kind ≤ 2 then [X16 q.kind,q.dev,q.ifc,endW q.en] ++ X1b q.r
  else if q.kind=3 then [X16 q.kind,q.dev,q.ifc] ++ X1b q.r
  else if q.kind=4 then [X16 q.kind,q.dev,q.ifc,itoa q.hops,endT q.a q.m,endT q.b q.n,decDigits q.p]
  else if q.kind ≤ 6 then (if q.vrf ≠ [] then [X16 q.kind,q.dev,vrfW,q.vrf] else [X16 q.kind,q.dev])
  else [X16 q.kind,X1j q.ad]
theorem X42 {q:QN} (h:GoodQ q):split 32 (writeT q)=X17 q:=by
  refine split_eq_iff.mpr ?_
  cases h with
  | way k dev ifc en r hk hd hi e1 e7 hr =>
    have hk1:k ≤ 2:=by omega
    have hw:X17 { q0 with kind:=k,dev:=dev,ifc:=ifc,en:=en,r:=r }=[X16 k,dev,ifc,endW en] ++ X1b r:=by unfold X17; rw [if_pos hk1]
    have hT:writeT { q0 with kind:=k,dev:=dev,ifc:=ifc,en:=en,r:=r }=X16 k ++ [32] ++ dev ++ [32] ++ ifc ++ [32] ++ endW en ++ X39 r:=by
      unfold writeT
      simp only [Xey (show 1 ≤ k by omega) (by omega),Xre e1 e7]
      rw [if_neg (by omega),if_pos hk1,if_neg (by omega)]
    rw [hw,hT]
    refine ⟨by simp,?_,?_⟩
    . rw [Xbq _ (by simp)]
      simp [Xw,List.intercalate,List.intersperse]
    . intro w hm
      simp only [List.mem_append,List.mem_cons,List.not_mem_nil,or_false] at hm
      rcases hm with (rfl | rfl | rfl | rfl) | hm
      . exact (kpos (by omega) (by omega)).2
      . exact X3d hd
      . exact X3d hi
      . exact (epos e1 e7).2
      . exact Xd0 hr w hm
  | loop dev ifc r hd hi hr =>
    have hw:X17 { q0 with kind:=3,dev:=dev,ifc:=ifc,r:=r }=[X16 3,dev,ifc] ++ X1b r:=rfl
    have hT:writeT { q0 with kind:=3,dev:=dev,ifc:=ifc,r:=r }=X16 3 ++ [32] ++ dev ++ [32] ++ ifc ++ X39 r:=rfl
    rw [hw,hT]
    refine ⟨by simp,?_,?_⟩
    . rw [Xbq _ (by simp)]
      simp [Xw,List.intercalate,List.intersperse]
    . intro w hm
      simp only [List.mem_append,List.mem_cons,List.not_mem_nil,or_false] at hm
      rcases hm with (rfl | rfl | rfl) | hm
      . exact (kpos (by omega) (by omega)).2
      . exact X3d hd
      . exact X3d hi
      . exact Xd0 hr w hm
  | trace dev ifc hops a b p m n hd hi hh hb =>
    have hw:X17 { q0 with kind:=4,dev:=dev,ifc:=ifc,hops:=(hops:Nat),a:=a,b:=b,p:=p,m:=m,n:=n }=[X16 4,dev,ifc,itoa (hops:Nat),endT a m,endT b n,decDigits p]:=rfl
    have hT:writeT { q0 with kind:=4,dev:=dev,ifc:=ifc,hops:=(hops:Nat),a:=a,b:=b,p:=p,m:=m,n:=n }=X16 4 ++ [32] ++ dev ++ [32] ++ ifc ++ [32] ++ itoa (hops:Nat) ++ [32] ++ X2j a b p m n:=rfl
    rw [hw,hT]
    refine ⟨by simp,?_,?_⟩
    . unfold X2j
      simp [Xw,List.intercalate,List.intersperse]
    . intro w hm
      simp only [List.mem_cons,List.not_mem_nil,or_false] at hm
      rcases hm with rfl | rfl | rfl | rfl | rfl | rfl | rfl
      . exact (kpos (by omega) (by omega)).2
      . exact X3d hd
      . exact X3d hi
      . exact Xex (by omega)
      . exact X47 a m
      . exact X47 b n
      . exact X2i p 32 d32
  | table k dev hk hd =>
    have hw:X17 { q0 with kind:=k,dev:=dev }=[X16 k,dev]:=by
      unfold X17
      rw [if_neg (show ¬ k ≤ 2 by omega),if_neg (show ¬ k=3 by omega),if_neg (show ¬ k=4 by omega),if_pos (show k ≤ 6 by omega)]
      rfl
    have hT:writeT { q0 with kind:=k,dev:=dev }=X16 k ++ [32] ++ dev:=by
      unfold writeT
      simp only [Xey (show 1 ≤ k by omega) (by omega)]
      rw [if_neg (by omega),if_neg (by omega),if_neg (by omega),if_neg (by omega),if_pos (by omega)]
      rfl
    rw [hw,hT]
    refine ⟨by simp,?_,?_⟩
    . simp [Xw,List.intercalate,List.intersperse]
    . intro w hm
      simp only [List.mem_cons,List.not_mem_nil,or_false] at hm
      rcases hm with rfl | rfl
      . exact (kpos (by omega) (by omega)).2
      . exact X3d hd
  | tableV k dev vrf hk hd hv =>
    have hne:=Xbx hv
    have hw:X17 { q0 with kind:=k,dev:=dev,vrf:=vrf }=[X16 k,dev,vrfW,vrf]:=by
      unfold X17
      rw [if_neg (show ¬ k ≤ 2 by omega),if_neg (show ¬ k=3 by omega),if_neg (show ¬ k=4 by omega),if_pos (show k ≤ 6 by omega),if_pos hne]
    have hT:writeT { q0 with kind:=k,dev:=dev,vrf:=vrf }=X16 k ++ [32] ++ dev ++ [32,118,114,102,32] ++ vrf:=by
      unfold writeT
      simp only [Xey (show 1 ≤ k by omega) (by omega)]
      rw [if_neg (by omega),if_neg (by omega),if_neg (by omega),if_neg (by omega),if_pos (by omega),if_pos hne]
    rw [hw,hT]
    refine ⟨by simp,?_,?_⟩
    . simp [Xw,List.intercalate,List.intersperse,vrfW]
    . intro w hm
      simp only [List.mem_cons,List.not_mem_nil,or_false] at hm
      rcases hm with rfl | rfl | rfl | rfl
      . exact (kpos (by omega) (by omega)).2
      . exact X3d hd
      . decide
      . exact X3d hv
  | owner ad ha =>
    have hw:X17 { q0 with kind:=7,ad:=ad }=[X16 7,X1j ad]:=rfl
    have hT:writeT { q0 with kind:=7,ad:=ad }=X16 7 ++ [32] ++ X1j ad:=rfl
    rw [hw,hT]
    refine ⟨by simp,?_,?_⟩
    . simp [Xw,List.intercalate,List.intersperse]
    . intro w hm
      simp only [List.mem_cons,List.not_mem_nil,or_false] at hm
      rcases hm with rfl | rfl
      . exact (kpos (by omega) (by omega)).2
      . exact X64 ad 32 d32 (by decide)
theorem X5s {ok:Bool} {q q':QN} {s:Str} (h:finP ok q s=some q'):q'=q∧ok=true∧(q.kind < 7→Xy q.dev=true)∧(q.kind < 5→Xy q.ifc=true)∧writeT q=s:=by
  unfold finP at h
  split at h
  . rename_i hc
    cases h
    exact ⟨rfl,hc⟩
  . cases h
theorem Xkz {ok:Bool} {ws:List Str} {q q':QN} {s:Str} (h:X5a ok ws q s=some q'):ok=true∧∃ r',X5e ws q.r=some r'∧finP true { q with r:=r' } s=some q':=by
  unfold X5a at h
  split at h
  . rename_i hc
    split at h
    . cases h
    . rename_i r' hr
      exact ⟨hc,r',hr,h⟩
  . cases h
theorem Xov {s:Str} {q:QN} (h:refW (split 32 s) s=some q):GoodQ q∧s=writeT q:=by
  have hpos:=X4d kindsL 0 ((split 32 s).getD 0 [])
  have hkl:kindsL.length=7:=rfl
  unfold refW at h
  generalize hk:posG 0 kindsL ((split 32 s).getD 0 [])=k at *
  generalize split 32 s=ws at *
  simp only at h
  split at h
  . cases h
  rename_i k0
  split at h
  . rename_i k3
    generalize (if k < 3 then 4 else 3)=n at h
    by_cases hlt:ws.length < n
    . rw [if_pos hlt] at h; cases h
    rw [if_neg hlt] at h
    obtain ⟨hok,r',hr,hf⟩:=Xkz h
    obtain ⟨rfl,_,n1,n2,hw⟩:=X5s hf
    have hg:=Xbo _ _ _ _ (Nat.le_refl _) Xsh hr
    simp only [Bool.and_eq_true,decide_eq_true_eq] at hok
    have hen:=X4d endsL 0 (ws.getD 3 [])
    have hel:endsL.length=7:=rfl
    have n1:=n1 (show k < 7 by omega)
    have n2:=n2 (show k < 5 by omega)
    refine ⟨?_,hw.symm⟩
    by_cases kk:k < 3
    . have h1:=hok.1 kk
      rw [if_pos kk] at h1
      simp only [if_pos kk]
      exact GoodQ.way k _ _ _ r' (by omega) n1 n2 (by omega) (by omega) hg
    . obtain rfl:k=3:=by omega
      exact GoodQ.loop _ _ r' n1 n2 hg
  split at h
  . rename_i k4
    subst k4
    split at h
    . cases h
    split at h
    . rename_i hh a m b n p e1 e2
      obtain ⟨rfl,_,n1,n2,hw⟩:=X5s h
      refine ⟨?_,hw.symm⟩
      exact GoodQ.trace _ _ hh a b p m n (n1 (show 4 < 7 by omega)) (n2 (show 4 < 5 by omega)) (num_some.mp e1).2 (hdrP_iff.mp e2).2
    . cases h
  split at h
  . rename_i k6
    split at h
    . cases h
    split at h
    . obtain ⟨rfl,hv,n1,_,hw⟩:=X5s h
      exact ⟨GoodQ.tableV k _ _ (by omega) (n1 (show k < 7 by omega)) hv,hw.symm⟩
    . obtain ⟨rfl,_,n1,_,hw⟩:=X5s h
      exact ⟨GoodQ.table k _ (by omega) (n1 (show k < 7 by omega)),hw.symm⟩
  split at h
  . cases h
  split at h
  . cases h
  . rename_i a ha
    obtain ⟨rfl,_,_,_,hw⟩:=X5s h
    exact ⟨GoodQ.owner a (addrP_lt ha),hw.symm⟩
end Go.Ab

set_option maxRecDepth 100000
set_option linter.unusedSimpArgs false
set_option linter.unusedVariables false
namespace Go.Ab
open Go Go.Lib Go.Ab.Sh
theorem X8w {q:QN} {s:Str} (h1:q.kind < 7→Xy q.dev=true) (h2:q.kind < 5→Xy q.ifc=true) (h3:writeT q=s):finP true q s=some q:=by
  unfold finP
  rw [if_pos ⟨rfl,h1,h2,h3⟩]
theorem Xfk {ws:List Str} {q:QN} {r:Rl} {s:Str} (hr:X5e ws q.r=some r) (h1:q.kind < 7→Xy q.dev=true) (h2:q.kind < 5→Xy q.ifc=true) (h3:writeT { q with r:=r }=s):X5a true ws q s=some { q with r:=r }:=by
  unfold X5a
  rw [if_pos rfl,hr]
  exact X8w h1 h2 h3
theorem Xmr {q:QN} (h:GoodQ q):refW (X17 q) (writeT q)=some q:=by
  cases h with
  | way k dev ifc en r hk hd hi e1 e7 hr =>
    have hk1:k ≤ 2:=by omega
    have hw:X17 { q0 with kind:=k,dev:=dev,ifc:=ifc,en:=en,r:=r }=X16 k :: dev :: ifc :: endW en :: X1b r:=by unfold X17; rw [if_pos hk1]; rfl
    rw [hw]
    generalize hs:writeT { q0 with kind:=k,dev:=dev,ifc:=ifc,en:=en,r:=r }=s
    unfold refW
    simp only [List.getD_cons_zero,List.getD_cons_succ,(kpos (show 1 ≤ k by omega) (by omega)).1,(epos e1 e7).1]
    have hl:(X16 k :: dev :: ifc :: endW en :: X1b r).length=(X1b r).length + 4:=rfl
    rw [if_neg (by omega),if_pos (by omega)]
    simp only [if_pos (show k < 3 by omega)]
    rw [if_neg (by rw [hl]; omega)]
    have c1:decide (k < 3→0 < en)=true:=decide_eq_true (fun _=>by omega)
    have c2:decide (((X16 k :: dev :: ifc :: endW en :: X1b r).length - 4) % 2=0)=true:=decide_eq_true (by rw [hl]; have:=Xb6 r; omega)
    rw [c1,c2]
    exact Xfk (q:={ q0 with kind:=k,dev:=dev,ifc:=ifc,en:=en,r:=rlH }) (Xk6 hr) (fun _=>hd) (fun _=>hi) hs
  | loop dev ifc r hd hi hr =>
    have hw:X17 { q0 with kind:=3,dev:=dev,ifc:=ifc,r:=r }=X16 3 :: dev :: ifc :: X1b r:=rfl
    rw [hw]
    generalize hs:writeT { q0 with kind:=3,dev:=dev,ifc:=ifc,r:=r }=s
    unfold refW
    simp only [List.getD_cons_zero,List.getD_cons_succ,(kpos (show 1 ≤ 3 by omega) (by omega)).1]
    have hl:(X16 3 :: dev :: ifc :: X1b r).length=(X1b r).length + 3:=rfl
    rw [if_neg (by omega),if_pos (by omega)]
    simp only [if_neg (show ¬ 3 < 3 by omega)]
    rw [if_neg (by rw [hl]; omega)]
    have c1:decide (3 < 3→0 < 0)=true:=by decide
    have c2:decide (((X16 3 :: dev :: ifc :: X1b r).length - 3) % 2=0)=true:=decide_eq_true (by rw [hl]; have:=Xb6 r; omega)
    rw [c1,c2]
    exact Xfk (q:={ q0 with kind:=3,dev:=dev,ifc:=ifc,en:=0,r:=rlH }) (Xk6 hr) (fun _=>hd) (fun _=>hi) hs
  | trace dev ifc hops a b p m n hd hi hh hb =>
    have hw:X17 { q0 with kind:=4,dev:=dev,ifc:=ifc,hops:=(hops:Nat),a:=a,b:=b,p:=p,m:=m,n:=n }=[X16 4,dev,ifc,itoa (hops:Nat),endT a m,endT b n,decDigits p]:=rfl
    rw [hw]
    generalize hs:writeT { q0 with kind:=4,dev:=dev,ifc:=ifc,hops:=(hops:Nat),a:=a,b:=b,p:=p,m:=m,n:=n }=s
    unfold refW
    simp only [List.getD_cons_zero,List.getD_cons_succ,(kpos (show 1 ≤ 4 by omega) (by omega)).1]
    rw [if_neg (by omega),if_neg (by omega),if_pos trivial,if_neg (by intro h; exact h rfl)]
    have c1:num 255 (itoa (hops:Nat))=some hops:=by rw [X21]; exact X2a hh
    have c2:hdrP (endT a m ++ [32] ++ endT b n ++ [32] ++ decDigits p)=some (a,m,b,n,p):=hdrP_iff.mpr ⟨rfl,hb⟩
    rw [c1,c2]
    exact X8w (fun _=>hd) (fun _=>hi) hs
  | table k dev hk hd =>
    have hw:X17 { q0 with kind:=k,dev:=dev }=[X16 k,dev]:=by
      unfold X17
      rw [if_neg (show ¬ k ≤ 2 by omega),if_neg (show ¬ k=3 by omega),if_neg (show ¬ k=4 by omega),if_pos (show k ≤ 6 by omega)]
      rfl
    rw [hw]
    generalize hs:writeT { q0 with kind:=k,dev:=dev }=s
    unfold refW
    simp only [List.getD_cons_zero,List.getD_cons_succ,(kpos (show 1 ≤ k by omega) (by omega)).1]
    rw [if_neg (by omega),if_neg (by omega),if_neg (by omega),if_pos (by omega),if_neg (fun x=>x.1 rfl),if_neg (show ¬ ([X16 k,dev]:List Str).length=4 by simp)]
    exact X8w (fun _=>hd) (fun x=>by have:k < 5:=x; omega) hs
  | tableV k dev vrf hk hd hv =>
    have hne:=Xbx hv
    have hw:X17 { q0 with kind:=k,dev:=dev,vrf:=vrf }=[X16 k,dev,vrfW,vrf]:=by
      unfold X17
      rw [if_neg (show ¬ k ≤ 2 by omega),if_neg (show ¬ k=3 by omega),if_neg (show ¬ k=4 by omega),if_pos (show k ≤ 6 by omega),if_pos hne]
    rw [hw]
    generalize hs:writeT { q0 with kind:=k,dev:=dev,vrf:=vrf }=s
    unfold refW
    simp only [List.getD_cons_zero,List.getD_cons_succ,(kpos (show 1 ≤ k by omega) (by omega)).1]
    rw [if_neg (by omega),if_neg (by omega),if_neg (by omega),if_pos (by omega),if_neg (fun x=>x.2.elim (fun y=>y rfl) (fun y=>y rfl)),if_pos (by rfl),hv]
    exact X8w (fun _=>hd) (fun x=>by have:k < 5:=x; omega) hs
  | owner ad ha =>
    have hw:X17 { q0 with kind:=7,ad:=ad }=[X16 7,X1j ad]:=rfl
    rw [hw]
    generalize hs:writeT { q0 with kind:=7,ad:=ad }=s
    unfold refW
    simp only [List.getD_cons_zero,List.getD_cons_succ,(kpos (show 1 ≤ 7 by omega) (by omega)).1]
    rw [if_neg (by omega),if_neg (by omega),if_neg (by omega),if_neg (by omega),if_neg (fun x=>x rfl)]
    rw [addrP_iff.mpr ⟨rfl,ha⟩]
    exact X8w (fun x=>by have:7 < 7:=x; omega) (fun x=>by have:7 < 5:=x; omega) hs
theorem ref_iff {s:Str} {q:QN}:refW (split 32 s) s=some q ↔ GoodQ q∧s=writeT q:=by
  constructor
  . exact Xov
  . rintro ⟨h,rfl⟩
    rw [X42 h]
    exact Xmr h
end Go.Ab

set_option maxRecDepth 100000
set_option linter.unusedSimpArgs false
set_option linter.unusedVariables false
namespace Go.Ab.Sh
open Go Go.Ab Go.Lib
noncomputable abbrev tyR:Option Nat:=some (2 * Qhd + 1)
noncomputable abbrev tyB:Option Nat:=some (2 * Qlm + 1)
noncomputable abbrev tyW:Option Nat:=some (2 * Qf8 + 1)
noncomputable abbrev tyI:Option Nat:=some (2 * Qd2 + 1)
noncomputable abbrev fW (bR bB:Nat):Value:=.func (.func Q86) ⟨[]⟩ ⟨[pt bR 0 0,pt bB 0 0]⟩
noncomputable abbrev fN (bW bB:Nat):Value:=.func (.func Qbm) ⟨[]⟩ ⟨[pt bW 0 0,pt bB 0 0]⟩
noncomputable abbrev fI (bR:Nat):Value:=.func (.func Q87) ⟨[]⟩ ⟨[pt bR 0 0]⟩
noncomputable abbrev fP (bI bW bB:Nat):Value:=.func (.func Qbn) ⟨[]⟩ ⟨[pt bI 0 0,pt bW 0 0,pt bB 0 0]⟩
structure AS (mW:Mem) (bR bB bW bI:Nat) (m:Mem) (ws:List Str) (bad:Bool):Prop where
  nx:mW.next ≤ m.next
  gt:∀ b,b < mW.next→m.get b=mW.get b
  gR:∃ v,SL mW v ws∧m.get bR=some (.cells [v] 0 0 false tyR)
  gB:m.get bB=some (.cells [.bool bad] 0 0 false tyB)
  gW:m.get bW=some (.cells [fW bR bB] 0 0 false tyW)
  gI:m.get bI=some (.cells [fI bR] 0 0 false tyI)
  hw:∀ w ∈ ws,w.length ≤ 4194304
  lR:mW.next ≤ bR
  lB:mW.next ≤ bB
  lW:mW.next ≤ bW
  lI:mW.next ≤ bI
  nR:bR < m.next
  nB:bB < m.next
  nW:bW < m.next
  nI:bI < m.next
  rb:bR ≠ bB
  wr:bW ≠ bR
  wb:bW ≠ bB
  ir:bI ≠ bR
  ib:bI ≠ bB
variable {mW:Mem} {bR bB bW bI:Nat} {m:Mem} {ws:List Str} {bad:Bool}
theorem SL.up {mW m:Mem} {v:Value} {ws:List Str} (h:SL mW v ws) (hn:mW.next ≤ m.next) (hg:∀ b,b < mW.next→m.get b=mW.get b):SL m v ws:=by
  obtain ⟨b,o,r,c,fro,ro,ty,h1,h2,h3,h4,h5⟩:=h
  exact ⟨b,o,r,c,fro,ro,ty,h1,Nat.lt_of_lt_of_le h2 hn,by rw [hg b h2]; exact h3,h4,h5⟩
theorem AS.frW {W:List Nat} {m':Mem} (h:AS mW bR bB bW bI m ws bad) (f:Fr W m m') (hW:∀ w ∈ W,mW.next ≤ w∧w ≠ bR∧w ≠ bB∧w ≠ bW∧w ≠ bI):AS mW bR bB bW bI m' ws bad:=by
  have n:=f.next
  have hx:=h.nx
  obtain ⟨v,g1,g2⟩:=h.gR
  have ni:∀ b,(b < mW.next∨b=bR∨b=bB∨b=bW∨b=bI)→b ∉ W:=by
    intro b hb hm
    have:=hW b hm
    rcases hb with e | e | e | e | e
    . omega
    . exact this.2.1 e
    . exact this.2.2.1 e
    . exact this.2.2.2.1 e
    . exact this.2.2.2.2 e
  exact { h with
    nx:=by omega
    gt:=fun b hb=>by rw [f.get b (by omega) (ni b (.inl hb))]; exact h.gt b hb
    gR:=⟨v,g1,by rw [f.get _ h.nR (ni _ (by simp))]; exact g2⟩
    gB:=by rw [f.get _ h.nB (ni _ (by simp))]; exact h.gB
    gW:=by rw [f.get _ h.nW (ni _ (by simp))]; exact h.gW
    gI:=by rw [f.get _ h.nI (ni _ (by simp))]; exact h.gI
    nR:=Nat.lt_of_lt_of_le h.nR n
    nB:=Nat.lt_of_lt_of_le h.nB n
    nW:=Nat.lt_of_lt_of_le h.nW n
    nI:=Nat.lt_of_lt_of_le h.nI n }
theorem AS.wl (h:AS mW bR bB bW bI m ws bad):AS mW bR bB bW bI (X4 m m.next) ws bad:={ h with }
theorem AS.out {m1 m2:Mem} {ws':List Str} {bad':Bool} (h:AS mW bR bB bW bI m ws bad) (k:AS mW bR bB bW bI m1 ws' bad') (q2:m.next ≤ m2.next) (q4:∀ b,b < m.next→m2.get b=m1.get b):AS mW bR bB bW bI m2 ws' bad':=by
  have hx:=h.nx
  obtain ⟨v,g1,g2⟩:=k.gR
  exact { k with
    nx:=by omega
    gt:=fun b hb=>by rw [q4 b (by omega)]; exact k.gt b hb
    gR:=⟨v,g1,by rw [q4 _ h.nR]; exact g2⟩
    gB:=by rw [q4 _ h.nB]; exact k.gB
    gW:=by rw [q4 _ h.nW]; exact k.gW
    gI:=by rw [q4 _ h.nI]; exact k.gI
    nR:=Nat.lt_of_lt_of_le h.nR q2
    nB:=Nat.lt_of_lt_of_le h.nB q2
    nW:=Nat.lt_of_lt_of_le h.nW q2
    nI:=Nat.lt_of_lt_of_le h.nI q2 }
theorem AS.setB {m0:Mem} (h:AS mW bR bB bW bI m ws bad) (F:Fr [bR,bB] m0 m) (c:Bool) :
    ∃ m',X7 1 (pt bB 0 0) (.bool c) m=some m'∧AS mW bR bB bW bI m' ws c∧Fr [bR,bB] m0 m'∧m'.next=m.next∧Fr [bB] m m':=by
  obtain ⟨m',k1,k2,k3,k4,k5⟩:=X2d (o:=0) (n:=1) (cs':=[.bool c]) F h.gB (.bool c) rfl rfl (by show 1 ≤ 1; omega) rfl (.inl (by simp))
  obtain ⟨m'',j1,j2,j3,j4,j5⟩:=X2d (W:=[bB]) (o:=0) (n:=1) (cs':=[.bool c]) (Fr.refl _ m) h.gB (.bool c) rfl rfl (by show 1 ≤ 1; omega) rfl (.inl (by simp))
  obtain rfl:m'=m'':=Option.some.inj (k1.symm.trans j1)
  obtain ⟨v,g1,g2⟩:=h.gR
  have hlB:=h.lB
  refine ⟨m',k1,?_,k2,k3,j2⟩
  exact { h with
    nx:=by rw [k3]; exact h.nx
    gt:=fun b hb=>by rw [k5 b (by omega)]; exact h.gt b hb
    gR:=⟨v,g1,by rw [k5 _ h.rb]; exact g2⟩
    gB:=k4
    gW:=by rw [k5 _ h.wb]; exact h.gW
    gI:=by rw [k5 _ h.ib]; exact h.gI
    nR:=by rw [k3]; exact h.nR
    nB:=by rw [k3]; exact h.nB
    nW:=by rw [k3]; exact h.nW
    nI:=by rw [k3]; exact h.nI }
theorem Xjy {v:Value} {ws:List Str} (h:SL m v ws):v.cells=#[v]∧one v=true:=by
  obtain ⟨b,o,r,c,fro,ro,ty,rfl,_⟩:=h
  exact ⟨rfl,rfl⟩
theorem AS.setR {m0:Mem} {ws':List Str} {v':Value} (h:AS mW bR bB bW bI m ws bad) (F:Fr [bR,bB] m0 m) (hv:SL mW v' ws') (hw':∀ w ∈ ws',w.length ≤ 4194304) :
    ∃ m',X7 1 (pt bR 0 0) v' m=some m'∧AS mW bR bB bW bI m' ws' bad∧Fr [bR,bB] m0 m'∧m'.next=m.next:=by
  obtain ⟨c1,c2⟩:=Xjy hv
  obtain ⟨v,g1,g2⟩:=h.gR
  obtain ⟨m',k1,k2,k3,k4,k5⟩:=X2d (o:=0) (n:=1) (cs':=[v']) F g2 v' (by rw [c1]; rfl) (by rw [c1]; simp [c2]) (by show 1 ≤ 1; omega) (by rw [c1]; rfl) (.inl (by simp))
  have hlR:=h.lR
  refine ⟨m',k1,?_,k2,k3⟩
  exact { h with
    nx:=by rw [k3]; exact h.nx
    gt:=fun b hb=>by rw [k5 b (by omega)]; exact h.gt b hb
    gR:=⟨v',hv,k4⟩
    gB:=by rw [k5 _ (fun e=>h.rb e.symm)]; exact h.gB
    gW:=by rw [k5 _ h.wr]; exact h.gW
    gI:=by rw [k5 _ h.ir]; exact h.gI
    hw:=hw'
    nR:=by rw [k3]; exact h.nR
    nB:=by rw [k3]; exact h.nB
    nW:=by rw [k3]; exact h.nW
    nI:=by rw [k3]; exact h.nI }
theorem c_word (h:AS mW bR bB bW bI m ws bad) (d:Nat):∃ m',TA (d + 1) Q86 [pt bR 0 0,pt bB 0 0] m=some (sv (ws.headD []),m')∧Fr [bR,bB] m m'∧AS mW bR bB bW bI m' ws.tail (bad || ws.isEmpty):=by
  have go:∃ m1,Q6q ⟨TA d,18446744073709551616⟩ (pt bR 0 0) (pt bB 0 0) (X4 m m.next)=some (sv (ws.headD []),m1)∧Fr [bR,bB] (X4 m m.next) m1∧AS mW bR bB bW bI m1 ws.tail (bad || ws.isEmpty):=by
    have k:=h.wl
    generalize X4 m m.next=m0 at k
    obtain ⟨v,g1,g2⟩:=k.gR
    have hs:SL m0 v ws:=SL.up g1 k.nx k.gt
    have ld:X6 false 1 (pt bR 0 0) m0=some v:=Xo g2 rfl
    unfold Q6q
    simp only [ld,X0,hs.len,Qp,X8]
    cases ws with
    | nil =>
      obtain ⟨m1,s1,s2,s3,_⟩:=k.setB (Fr.refl _ m0) true
      rw [if_pos (by rfl)]
      refine ⟨m1,?_,s3,?_⟩
      . simp only [s1,Xe]
        rfl
      . cases bad <;> exact s2
    | cons w ws =>
      rw [if_neg (by simp; omega)]
      obtain ⟨p,p1,p2⟩:=hs.at (i:=0) (w:=w) rfl
      have p1:X9 1 v (.int .i64 0)=some p:=p1
      obtain ⟨v',t1,t2⟩:=SL.tail g1
      have t1:X2w 1 v (some (.int .i64 1)) none=some v':=t1
      obtain ⟨m1,s1,s2,s3,_⟩:=k.setR (Fr.refl _ m0) t2 (fun x hx=>k.hw x (List.mem_cons_of_mem _ hx))
      refine ⟨m1,?_,s3,?_⟩
      . simp only [p1,p2,X0,ld,t1,s1,Xe]
        rfl
      . cases bad <;> exact s2
  obtain ⟨m1,k1,k2,k3⟩:=go
  rw [Xf4]
  obtain ⟨m2,q1,q2,_,q4⟩:=X9o (m:=m) k1 k2
  exact ⟨m2,q1,q2,h.out k3 q2.next q4⟩
theorem c_name (h:AS mW bR bB bW bI m ws bad) (d:Nat):∃ m',TA (d + 5) Qbm [pt bW 0 0,pt bB 0 0] m=some (sv (ws.headD []),m')∧Fr [bR,bB] m m'∧AS mW bR bB bW bI m' ws.tail (bad || ws.isEmpty || !Xy (ws.headD [])):=by
  have go:∃ m1,Q6r ⟨TA (d + 4),18446744073709551616⟩ (pt bW 0 0) (pt bB 0 0) (X4 m m.next)=some (sv (ws.headD []),m1)∧Fr [bR,bB] (X4 m m.next) m1∧AS mW bR bB bW bI m1 ws.tail (bad || ws.isEmpty || !Xy (ws.headD [])):=by
    have k:=h.wl
    generalize X4 m m.next=m0 at k
    have ld:X6 false 1 (pt bW 0 0) m0=some (fW bR bB):=Xo k.gW rfl
    obtain ⟨m1,w1,w2,w3⟩:=c_word k (d + 3)
    have w1:Xi (TA (d + 4)) (fW bR bB) [] m0=some (sv (ws.headD []),m1):=w1
    have ldb:X6 false 1 (pt bB 0 0) m1=some (.bool (bad || ws.isEmpty)):=Xo w3.gB rfl
    have un:∀ c:Bool,un .not (.bool c)=some (.bool !c):=fun c=>by cases c <;> exact Eq.trans rfl rfl
    have hl:(ws.headD []).length ≤ 4194304:=by
      cases ws with
      | nil=>simp
      | cons w ws=>exact h.hw w (by simp)
    unfold Q6r Qe7 Qe8 Qcm
    simp only [ld,X0,w1,X5,ldb]
    cases hb:(bad || ws.isEmpty) with
    | true =>
      obtain ⟨m2,s1,s2,s3,_⟩:=w3.setB w2 true
      refine ⟨m2,?_,s3,?_⟩
      . simp only [Xd,s1,Xe]
      . exact s2
    | false =>
      have n1:TA (d + 4) Qe9 [sv (ws.headD [])] m1=_:=c_lexName (ws.headD []) hl d m1
      obtain ⟨m2,s1,s2,s3,_⟩:=w3.setB w2 (!Xy (ws.headD []))
      refine ⟨m2,?_,s3,?_⟩
      . simp only [Xb,n1,X5,un,X0,s1,Xe]
      . exact s2
  obtain ⟨m1,k1,k2,k3⟩:=go
  rw [Xek]
  obtain ⟨m2,q1,q2,_,q4⟩:=X9o (m:=m) k1 k2
  exact ⟨m2,q1,q2,h.out k3 q2.next q4⟩
theorem c_is (h:AS mW bR bB bW bI m ws bad) (x:Str) (d:Nat):∃ m',TA (d + 1) Q87 [sv x,pt bR 0 0] m=some (.bool (decide (ws.head?=some x)),m')∧Fr [bR,bB] m m'∧AS mW bR bB bW bI m' (if ws.head?=some x then ws.tail else ws) bad:=by
  have go:∃ m1,Q6s ⟨TA d,18446744073709551616⟩ (pt bR 0 0) (sv x) (X4 m m.next)=some (.bool (decide (ws.head?=some x)),m1)∧Fr [bR,bB] (X4 m m.next) m1∧AS mW bR bB bW bI m1 (if ws.head?=some x then ws.tail else ws) bad:=by
    have k:=h.wl
    generalize X4 m m.next=m0 at k
    obtain ⟨v,g1,g2⟩:=k.gR
    have hs:SL m0 v ws:=SL.up g1 k.nx k.gt
    have ld:X6 false 1 (pt bR 0 0) m0=some v:=Xo g2 rfl
    unfold Q6s Qea Qcn
    simp only [ld,X0,hs.len,Qp,X8,Xd]
    cases ws with
    | nil =>
      rw [if_pos (by rfl)]
      exact ⟨m0,rfl,.refl _ _,by rw [if_neg (by simp)]; exact k⟩
    | cons w ws =>
      rw [if_neg (by simp; omega)]
      obtain ⟨p,p1,p2⟩:=hs.at (i:=0) (w:=w) rfl
      have p1:X9 1 v (.int .i64 0)=some p:=p1
      simp only [p1,p2,X0,Qf6,X8]
      by_cases hw:w=x
      . rw [if_neg (by simpa using hw)]
        obtain ⟨v',t1,t2⟩:=SL.tail g1
        have t1:X2w 1 v (some (.int .i64 1)) none=some v':=t1
        obtain ⟨m1,s1,s2,s3,_⟩:=k.setR (Fr.refl _ m0) t2 (fun x hx=>k.hw x (List.mem_cons_of_mem _ hx))
        refine ⟨m1,?_,s3,?_⟩
        . simp only [ld,t1,X0,s1,Xe]
          subst hw
          simp
        . rw [if_pos (by subst hw; rfl)]
          exact s2
      . rw [if_pos hw]
        have hne:¬ (w :: ws).head?=some x:=by simpa using hw
        refine ⟨m0,?_,.refl _ _,by rw [if_neg hne]; exact k⟩
        rw [decide_eq_false hne]
  obtain ⟨m1,k1,k2,k3⟩:=go
  rw [Xef]
  obtain ⟨m2,q1,q2,_,q4⟩:=X9o (m:=m) k1 k2
  exact ⟨m2,q1,q2,h.out k3 q2.next q4⟩
end Go.Ab.Sh

set_option maxRecDepth 100000
set_option linter.unusedSimpArgs false
set_option linter.unusedVariables false
namespace Go.Ab.Sh
open Go Go.Ab Go.Lib
variable {mW:Mem} {bR bB bW bI:Nat} {m:Mem} {ws:List Str} {bad:Bool}
theorem AS.putO {m0:Mem} {ws0:List Str} {bad0:Bool} (k:AS mW bR bB bW bI m0 ws0 bad0) (h:AS mW bR bB bW bI m ws bad) (F:Fr [bR,bB] m0 m) {b o n:Nat} {cs cs':List Value} {ty:Option Nat} (hg:m.get b=some (.cells cs 0 0 false ty)) (v:Value) (hn:v.cells.size=n) (h1:v.cells.toList.all one=true) (ho:o + n ≤ cs.length) (hc:cs.take o ++ v.cells.toList ++ cs.drop (o + n)=cs') (hb:m0.next ≤ b) :
    ∃ m',X7 n (pt b o 0) v m=some m'∧AS mW bR bB bW bI m' ws bad∧Fr [bR,bB] m0 m'∧m'.next=m.next∧m'.get b=some (.cells cs' 0 0 false ty)∧∀ c,c ≠ b→m'.get c=m.get c:=by
  obtain ⟨m',k1,k2,k3,k4,k5⟩:=X2d (o:=o) F hg v hn h1 ho hc (.inr hb)
  obtain ⟨u,g1,g2⟩:=h.gR
  have e1:=k.nR
  have e2:=k.nB
  have e3:=k.nW
  have e4:=k.nI
  have e5:=k.nx
  refine ⟨m',k1,?_,k2,k3,k4,k5⟩
  exact { h with
    nx:=by rw [k3]; exact h.nx
    gt:=fun c hc=>by rw [k5 c (by omega)]; exact h.gt c hc
    gR:=⟨u,g1,by rw [k5 _ (by omega)]; exact g2⟩
    gB:=by rw [k5 _ (by omega)]; exact h.gB
    gW:=by rw [k5 _ (by omega)]; exact h.gW
    gI:=by rw [k5 _ (by omega)]; exact h.gI
    nR:=by rw [k3]; exact h.nR
    nB:=by rw [k3]; exact h.nB
    nW:=by rw [k3]; exact h.nW
    nI:=by rw [k3]; exact h.nI }
def prfS (x:Str) (ws:List Str) (bad:Bool):Nat × Nat × List Str × Bool:=
  if ws.head?=some x then ((prefP (ws.tail.headD [])).1,(prefP (ws.tail.headD [])).2.1,ws.tail.tail,bad || ws.tail.isEmpty || decide ((prefP (ws.tail.headD [])).2.2 ≠ 0) || decide ((prefP (ws.tail.headD [])).2.1=0))
  else (0,0,ws,bad)
theorem X4g (h:∀ w ∈ ws,w.length ≤ 4194304):(ws.headD []).length ≤ 4194304:=by
  cases ws with
  | nil=>simp
  | cons w ws=>exact h w (by simp)
theorem c_prefix (h:AS mW bR bB bW bI m ws bad) (x:Str) (d:Nat):∃ m',TA (d + 6) Qbn [sv x,pt bI 0 0,pt bW 0 0,pt bB 0 0] m=some (pfx (prfS x ws bad).1 ((prfS x ws bad).2.1:Nat),m')∧Fr [bR,bB] m m'∧AS mW bR bB bW bI m' (prfS x ws bad).2.2.1 (prfS x ws bad).2.2.2:=by
  have go:∃ m1,Q6t ⟨TA (d + 5),18446744073709551616⟩ (pt bI 0 0) (sv x) (pt bW 0 0) (pt bB 0 0) (X4 m m.next)=some (pfx (prfS x ws bad).1 ((prfS x ws bad).2.1:Nat),m1)∧Fr [bR,bB] (X4 m m.next) m1∧AS mW bR bB bW bI m1 (prfS x ws bad).2.2.1 (prfS x ws bad).2.2.2:=by
    have k:=h.wl
    generalize X4 m m.next=m0 at k
    have zp:Q5=[.int .u32 0,I 0]:=rfl
    let m1:=m0.push (.cells Q5 0 0 false (some (2 * Q2 + 1)))
    have g5:m1.get m0.next=some (.cells Q5 0 0 false (some (2 * Q2 + 1))):=Xl m0 _
    have F1:Fr [bR,bB] m0 m1:=Fr.push _
    have k1:AS mW bR bB bW bI m1 ws bad:=k.frW (W:=[]) (Fr.push _) (by simp)
    have n1:m1.next=m0.next + 1:=rfl
    have r1:=k.nR
    have r2:=k.nB
    have ld:X6 false 1 (pt bI 0 0) (m0.push (.cells Q5 0 0 false (some (2 * Q2 + 1))))=some (fI bR):=Xo k1.gI rfl
    obtain ⟨m2,w1,w2,w3⟩:=c_is k1 x (d + 4)
    have w1:Xi (TA (d + 5)) (fI bR) [sv x] (m0.push (.cells Q5 0 0 false (some (2 * Q2 + 1))))=some (.bool (decide (ws.head?=some x)),m2):=w1
    have F2:=F1.trans w2
    have n2:=w2.next
    have g5':m2.get m0.next=some (.cells Q5 0 0 false (some (2 * Q2 + 1))):=by rw [w2.get _ (by omega) (by simp; omega)]; exact g5
    -- the end of it
    have ret:∀ (mm:Mem) (a:Nat) (b b6:Nat) (wz:List Str) (bd:Bool),AS mW bR bB bW bI mm wz bd→Fr [bR,bB] m0 mm→m0.next < mm.next→mm.get m0.next=some (.cells Q5 0 0 false (some (2 * Q2 + 1)))→mm.get b6=some (.cells [.int .u32 (a:Int),I (b:Nat)] 0 0 false (some (2 * Q2 + 1)))→∃ m9,Q4r ⟨TA (d + 5),18446744073709551616⟩ (pt b6 0 0) (pt m0.next 0 0) mm=some (pfx a (b:Nat),m9)∧Fr [bR,bB] m0 m9∧AS mW bR bB bW bI m9 wz bd:=by
      intro mm a b b6 wz bd hA hF hn hg5 hg6
      have l6:X6 true 2 (pt b6 0 0) mm=some (pfx a (b:Nat)):=Xk hg6 (by show 2 ≤ 2; omega) rfl
      obtain ⟨m9,s1,s2,s3,s4,s5,_⟩:=AS.putO k hA hF hg5 (o:=0) (n:=2) (pfx a (b:Nat)) rfl rfl (by show 2 ≤ 2; omega) rfl (Nat.le_refl _)
      have l5:X6 true 2 (pt m0.next 0 0) m9=some (pfx a (b:Nat)):=Xk s5 (by show 2 ≤ 2; omega) rfl
      refine ⟨m9,?_,s3,s2⟩
      unfold Q4r
      simp only [l6,X0,s1,Xe,l5,Xli]
      rfl
    unfold Q6t Qeb
    rw [Xh]
    simp only [ld,X0,w1,X5]
    unfold Qec
    rw [X8]
    by_cases hx:ws.head?=some x
    . rw [if_pos hx] at w3 ⊢
      have hS:prfS x ws bad=((prefP (ws.tail.headD [])).1,(prefP (ws.tail.headD [])).2.1,ws.tail.tail,bad || ws.tail.isEmpty || decide ((prefP (ws.tail.headD [])).2.2 ≠ 0) || decide ((prefP (ws.tail.headD [])).2.1=0)):=by unfold prfS; rw [if_pos hx]
      rw [hS]
      have ldw:X6 false 1 (pt bW 0 0) m2=some (fW bR bB):=Xo w3.gW rfl
      obtain ⟨m3,y1,y2,y3⟩:=c_word w3 (d + 4)
      have y1:Xi (TA (d + 5)) (fW bR bB) [] m2=some (sv (ws.tail.headD []),m3):=y1
      have n3:=y2.next
      have F3:=F2.trans y2
      have g53:m3.get m0.next=some (.cells Q5 0 0 false (some (2 * Q2 + 1))):=by rw [y2.get _ (by omega) (by simp; omega)]; exact g5'
      have cP:TA (d + 5) Q4f [sv (ws.tail.headD [])] m3=_:=c_addrPrefix (ws.tail.headD []) (X4g w3.hw) d m3
      generalize hpp:prefP (ws.tail.headD [])=P at *
      obtain ⟨a,b,e⟩:=P
      -- the prefix's own variable
      have k4:AS mW bR bB bW bI (m3.push (.cells Q5 0 0 false (some (2 * Q2 + 1)))) ws.tail.tail (bad || ws.tail.isEmpty):=y3.frW (W:=[]) (Fr.push _) (by simp)
      obtain ⟨m5,s1,s2,s3,s4,s5,s6⟩:=AS.putO k k4 (F3.trans (Fr.push _)) (Xl m3 _) (o:=0) (n:=2) (pfx a (b:Nat)) rfl rfl (by show 2 ≤ 2; omega) rfl (by omega)
      have nn5:m5.next=m3.next + 1:=s4
      have g55:m5.get m0.next=some (.cells Q5 0 0 false (some (2 * Q2 + 1))):=by rw [s6 _ (by omega),Mem.get_push,if_neg (by omega)]; exact g53
      have ldb:X6 false 1 (pt bB 0 0) m5=some (.bool (bad || ws.tail.isEmpty)):=Xo s2.gB rfl
      have ld61:X6 false 1 (pt m3.next (0 + 1) 0) m5=some (I (b:Nat)):=Xo s5 rfl
      have setb:∀ c:Bool,∃ m6,X7 1 (pt bB 0 0) (.bool c) m5=some m6∧∃ m9,Q4r ⟨TA (d + 5),18446744073709551616⟩ (pt m3.next 0 0) (pt m0.next 0 0) m6=some (pfx a (b:Nat),m9)∧Fr [bR,bB] m0 m9∧AS mW bR bB bW bI m9 ws.tail.tail c:=by
        intro c
        obtain ⟨m6,t1,t2,t3,t4,t5⟩:=s2.setB s3 c
        exact ⟨m6,t1,ret m6 a b m3.next _ _ t2 t3 (by omega) (by rw [t5.get _ (by omega) (by simp; omega)]; exact g55) (by rw [t5.get _ (by omega) (by simp; omega)]; exact s5)⟩
      have hsimp:∀ X:Mem→Prop,(∃ m1,Q8e ⟨TA (d + 5),18446744073709551616⟩ (pt bB 0 0) (I (e:Nat)) (pt m3.next 0 0) (pt m0.next 0 0) m5=some (pfx a (b:Nat),m1)∧X m1)→∃ m1,(bp (pur (X6 false 1 (pt bW 0 0) m2) m2) fun x6 m =>
  bp (Xi (TA (d + 5)) x6 [] m) fun x7 m =>
  bp (TA (d + 5) Q4f [x7] m) fun x8 m =>
  bp (pur (Xa x8 0) m) fun x9 m =>
  bp (pur (Xa x8 1) m) fun x10 m =>
  bp (some (aNew Q2 Q5 m)) fun x11 m =>
  bp (unt (X7 2 x11 x9 m)) fun _ m =>
  Q8e ⟨TA (d + 5),18446744073709551616⟩ (pt bB 0 0) x10 x11 (pt m0.next 0 0) m)=some (pfx a (b:Nat),m1)∧X m1:=by
        intro X ⟨m1,x1,x2⟩
        refine ⟨m1,?_,x2⟩
        simp only [ldw,X0,y1,X5,cP,Xlb,ex0,ex1]
        rw [Xh]
        simp only [s1,Xe]
        exact x1
      refine hsimp (fun m1=>Fr [bR,bB] m0 m1∧AS mW bR bB bW bI m1 ws.tail.tail (bad || ws.tail.isEmpty || decide (e ≠ 0) || decide (b=0))) ?_
      unfold Q8e
      simp only [ldb,X0,Q1o,Xg,ld61,Qp,X8]
      cases hb:(bad || ws.tail.isEmpty) with
      | true =>
        obtain ⟨m6,t1,m9,t2,t3,t4⟩:=setb true
        refine ⟨m9,?_,t3,?_⟩
        . simp only [Xd,t1,Xe]
          exact t2
        . simpa using t4
      | false =>
        rw [Xb]
        by_cases he:e=0
        . rw [if_neg (by simpa using he)]
          obtain ⟨m6,t1,m9,t2,t3,t4⟩:=setb (decide (((b:Nat):Int)=0))
          refine ⟨m9,?_,t3,?_⟩
          . simp only [t1,Xe]
            exact t2
          . have:(false || decide (e ≠ 0) || decide (b=0))=decide (((b:Nat):Int)=0):=by
              subst he
              by_cases hb0:b=0
              . subst hb0; rfl
              . rw [decide_eq_false hb0,decide_eq_false (by omega:¬ ((b:Nat):Int)=0)]; rfl
            rw [this]
            exact t4
        . rw [if_pos (by simpa using he)]
          obtain ⟨m6,t1,m9,t2,t3,t4⟩:=setb true
          refine ⟨m9,?_,t3,?_⟩
          . simp only [t1,Xe]
            exact t2
          . have:(false || decide (e ≠ 0) || decide (b=0))=true:=by rw [decide_eq_true he]; simp
            rw [this]
            exact t4
    . rw [if_neg hx] at w3 ⊢
      have hS:prfS x ws bad=(0,0,ws,bad):=by unfold prfS; rw [if_neg hx]
      rw [hS]
      have l5:X6 true 2 (pt m0.next 0 0) m2=some (pfx ((0:Nat):Int) ((0:Nat):Int)):=Xk g5' (by show 2 ≤ 2; omega) rfl
      obtain ⟨m9,s1,s2,s3,s4,s5,_⟩:=AS.putO k w3 F2 g5' (o:=0) (n:=2) (pfx ((0:Nat):Int) ((0:Nat):Int)) rfl rfl (by show 2 ≤ 2; omega) rfl (Nat.le_refl _)
      have l5':X6 true 2 (pt m0.next 0 0) m9=some (pfx ((0:Nat):Int) ((0:Nat):Int)):=Xk s5 (by show 2 ≤ 2; omega) rfl
      refine ⟨m9,?_,s3,s2⟩
      simp only [l5,X0,s1,Xe,l5',Xli]
      rfl
  obtain ⟨m1,k1,k2,k3⟩:=go
  rw [Xe8]
  obtain ⟨m2,q1,q2,_,q4⟩:=X9o (m:=m) k1 k2
  exact ⟨m2,q1,q2,h.out k3 q2.next q4⟩
end Go.Ab.Sh

set_option maxRecDepth 100000
set_option linter.unusedSimpArgs false
set_option linter.unusedVariables false
namespace Go.Ab.Sh
open Go Go.Ab Go.Lib
noncomputable abbrev tyA:Option Nat:=some (2 * Q12 + 1)
theorem Xvy:qC q0=Qj:=rfl
structure PA (mW:Mem) (b2 bR bB bW bI bQ:Nat) (m:Mem) (ws:List Str) (bad dead:Bool) (q:QN):Prop where
  a:AS mW bR bB bW bI m ws bad
  g2:m.get b2=some (.cells Qj 0 0 false tyA)
  gQ:∃ cs,m.get bQ=some (.cells cs 0 0 false tyA)∧cs.length=22∧(dead=false→cs=qC q)
  w2:b2 < mW.next
  wQ:mW.next ≤ bQ
  nQ:bQ < m.next
  q1:bQ ≠ bR
  q2:bQ ≠ bB
  q3:bQ ≠ bW
  q4:bQ ≠ bI
variable {mW:Mem} {b2 bR bB bW bI bQ:Nat} {m:Mem} {ws:List Str} {bad dead:Bool} {q:QN}
theorem PA.step {m':Mem} {ws':List Str} {bad':Bool} (h:PA mW b2 bR bB bW bI bQ m ws bad dead q) (f:Fr [bR,bB] m m') (k:AS mW bR bB bW bI m' ws' bad'):PA mW b2 bR bB bW bI bQ m' ws' bad' dead q∧Fb b2 m m':=by
  have e1:=h.a.lR
  have e2:=h.a.lB
  have e3:=h.w2
  have e4:=h.a.nx
  have e5:=h.q1
  have e6:=h.q2
  obtain ⟨cs,g1,g2,g3⟩:=h.gQ
  refine ⟨{ a:=k,g2:=by rw [f.get _ (by omega) (by simp; omega)]; exact h.g2,gQ:=⟨cs,by rw [f.get _ h.nQ (by simp; omega)]; exact g1,g2,g3⟩,w2:=h.w2,wQ:=h.wQ,nQ:=Nat.lt_of_lt_of_le h.nQ f.next,q1:=h.q1,q2:=h.q2,q3:=h.q3,q4:=h.q4 },f.toFbW (by simp; omega) (by omega)⟩
theorem PA.word (h:PA mW b2 bR bB bW bI bQ m ws bad dead q) (d:Nat):∃ m',Xi (TA (d + 6)) (fW bR bB) [] m=some (sv (ws.headD []),m')∧PA mW b2 bR bB bW bI bQ m' ws.tail (bad || ws.isEmpty) dead q∧Fb b2 m m':=by
  obtain ⟨m',k1,k2,k3⟩:=c_word h.a (d + 5)
  exact ⟨m',k1,h.step k2 k3⟩
theorem PA.name (h:PA mW b2 bR bB bW bI bQ m ws bad dead q) (d:Nat):∃ m',Xi (TA (d + 6)) (fN bW bB) [] m=some (sv (ws.headD []),m')∧PA mW b2 bR bB bW bI bQ m' ws.tail (bad || ws.isEmpty || !Xy (ws.headD [])) dead q∧Fb b2 m m':=by
  obtain ⟨m',k1,k2,k3⟩:=c_name h.a (d + 1)
  exact ⟨m',k1,h.step k2 k3⟩
theorem PA.is (h:PA mW b2 bR bB bW bI bQ m ws bad dead q) (x:Str) (d:Nat):∃ m',Xi (TA (d + 6)) (fI bR) [sv x] m=some (.bool (decide (ws.head?=some x)),m')∧PA mW b2 bR bB bW bI bQ m' (if ws.head?=some x then ws.tail else ws) bad dead q∧Fb b2 m m':=by
  obtain ⟨m',k1,k2,k3⟩:=c_is h.a x (d + 5)
  exact ⟨m',k1,h.step k2 k3⟩
theorem PA.prefix' (h:PA mW b2 bR bB bW bI bQ m ws bad dead q) (x:Str) (d:Nat):∃ m',Xi (TA (d + 6)) (fP bI bW bB) [sv x] m=some (pfx (prfS x ws bad).1 ((prfS x ws bad).2.1:Nat),m')∧PA mW b2 bR bB bW bI bQ m' (prfS x ws bad).2.2.1 (prfS x ws bad).2.2.2 dead q∧Fb b2 m m':=by
  obtain ⟨m',k1,k2,k3⟩:=c_prefix h.a x d
  exact ⟨m',k1,h.step k2 k3⟩
theorem PA.frn {m':Mem} (h:PA mW b2 bR bB bW bI bQ m ws bad dead q) (f:Fr [] m m'):PA mW b2 bR bB bW bI bQ m' ws bad dead q∧Fb b2 m m':=by
  obtain ⟨k1,k2⟩:=h.step (f.mono (by simp)) (h.a.frW f (by simp))
  exact ⟨k1,k2⟩
theorem PA.setB (h:PA mW b2 bR bB bW bI bQ m ws bad dead q) (c:Bool):∃ m',X7 1 (pt bB 0 0) (.bool c) m=some m'∧PA mW b2 bR bB bW bI bQ m' ws c dead q∧Fb b2 m m':=by
  obtain ⟨m',k1,k2,k3,_,_⟩:=h.a.setB (Fr.refl _ m) c
  exact ⟨m',k1,h.step k3 k2⟩
theorem PA.put (h:PA mW b2 bR bB bW bI bQ m ws bad dead q) (dead':Bool) (q':QN) (o n:Nat) (x:Value) (hn:x.cells.size=n) (h1:x.cells.toList.all one=true) (ho:o + n ≤ 22) (hc:dead'=false→dead=false∧(qC q).take o ++ x.cells.toList ++ (qC q).drop (o + n)=qC q') :
    ∃ m',X7 n (pt bQ o 0) x m=some m'∧PA mW b2 bR bB bW bI bQ m' ws bad dead' q'∧Fb b2 m m':=by
  obtain ⟨cs,g1,g2,g3⟩:=h.gQ
  obtain ⟨m',k1,k2,k3,k4,k5⟩:=X2d (W:=[bQ]) (o:=o) (Fr.refl _ m) g1 x hn h1 (by omega) rfl (.inl (by simp))
  have e1:=h.wQ
  have e2:=h.w2
  have e3:=h.a.nx
  have u1:=h.q1
  have u2:=h.q2
  have u3:=h.q3
  have u4:=h.q4
  refine ⟨m',k1,{ a:=h.a.frW k2 (by simp; omega),g2:=by rw [k5 _ (by omega)]; exact h.g2,gQ:=⟨_,k4,?_,?_⟩,w2:=h.w2,wQ:=h.wQ,nQ:=by rw [k3]; exact h.nQ,q1:=h.q1,q2:=h.q2,q3:=h.q3,q4:=h.q4 },k2.toFbW (by simp; omega) (by omega)⟩
  . have:x.cells.toList.length=n:=by rw [Array.length_toList]; exact hn
    simp only [List.length_append,List.length_take,List.length_drop]
    omega
  . intro hd
    obtain ⟨a1,a2⟩:=hc hd
    rw [g3 a1]
    exact a2
theorem PA.ldB (h:PA mW b2 bR bB bW bI bQ m ws bad dead q):X6 false 1 (pt bB 0 0) m=some (.bool bad):=Xo h.a.gB rfl
theorem PA.ldW (h:PA mW b2 bR bB bW bI bQ m ws bad dead q):X6 false 1 (pt bW 0 0) m=some (fW bR bB):=Xo h.a.gW rfl
theorem PA.ldI (h:PA mW b2 bR bB bW bI bQ m ws bad dead q):X6 false 1 (pt bI 0 0) m=some (fI bR):=Xo h.a.gI rfl
def A7 (ws:List Str) (q:QN):Option QN:=if ws=[] then some q else none
def A15 (ws:List Str) (q:QN):Option QN:=if ws.head?=some dportsW then (match X1v (ws.tail.headD []) with | none=>none | some (a,b)=>A7 ws.tail.tail { q with r:={ q.r with dl:=a,dh:=b } }) else A7 ws q
def A14 (ws:List Str) (q:QN):Option QN:=if ws.head?=some sportsW then (match X1v (ws.tail.headD []) with | none=>none | some (a,b)=>A15 ws.tail.tail { q with r:={ q.r with sl:=a,sh:=b } }) else A15 ws q
def A13 (ws:List Str) (q:QN):Option QN:=if ws.head?=some protoW then (match num 255 (ws.tail.headD []) with | none=>none | some n=>A14 ws.tail.tail { q with r:={ q.r with proto:=(n:Nat) } }) else A14 ws q
def resA (bad:Bool) (o:Option QN):Option QN:=if bad=true then none else o
theorem aBa (z:Value):Xn Qj [(0,1),(1,1),(2,1),(3,1),(4,1),(5,10),(15,5),(20,1),(21,1)] []=some (qV q0):=Eq.trans rfl rfl
theorem ask8 (G:Gt) (h:PA mW b2 bR bB bW bI bQ m ws bad dead q) (c:Bool) (hd:c=false→dead=false):∃ m',Q6u G (.bool c) (pt b2 0 0) (pt bQ 0 0) m=some (qnV (if c=true then none else some q),m')∧Fb b2 m m':=by
  unfold Q6u
  cases c with
  | true =>
    obtain ⟨m',k1,k2,_⟩:=X14 (n:=22) (tail:=[.int .i64 4]) (vs:=qC q0) h.g2 rfl rfl rfl (Nat.le_refl b2)
    refine ⟨m',?_,k2⟩
    rw [Xd,aBa undef,X0]
    exact k1
  | false =>
    obtain ⟨cs,g1,g2,g3⟩:=h.gQ
    have:=g3 (hd rfl)
    subst this
    obtain ⟨m',k1,k2,_⟩:=X14 (n:=22) (tail:=[.int .i64 0]) (vs:=qC q) h.g2 rfl rfl rfl (Nat.le_refl b2)
    refine ⟨m',?_,k2⟩
    have hl:X6 true 22 (pt bQ 0 0) m=some (qV q):=Xk g1 (by show 22 ≤ 22; omega) rfl
    rw [Xb,hl,X0]
    exact k1
theorem ask7 (G:Gt) (h:PA mW b2 bR bB bW bI bQ m ws bad bad q):∃ m',Ql G (pt bB 0 0) (pt bR 0 0) (pt b2 0 0) (pt bQ 0 0) m=some (qnV (resA bad (A7 ws q)),m')∧Fb b2 m m':=by
  unfold Ql resA
  rw [h.ldB,X0]
  cases bad with
  | true =>
    rw [Xd,if_pos rfl]
    exact ask8 G h true (fun x=>by cases x)
  | false =>
    obtain ⟨v,g1,g2⟩:=h.a.gR
    have hs:SL m v ws:=SL.up g1 h.a.nx h.a.gt
    have ld:X6 false 1 (pt bR 0 0) m=some v:=Xo g2 rfl
    rw [Xb,if_neg (by decide)]
    simp only [ld,X0,hs.len,Q4s]
    obtain ⟨m',k1,k2⟩:=ask8 G h (decide ((0:Int) < (ws.length:Int))) (fun _=>rfl)
    refine ⟨m',?_,k2⟩
    have:(if decide ((0:Int) < (ws.length:Int))=true then none else some q)=A7 ws q:=by
      unfold A7
      cases ws with
      | nil=>rfl
      | cons w ws=>rw [if_pos (by simp),if_neg (by simp)]
    rw [this] at k1
    exact k1
theorem Xub:X1v []=none:=rfl
theorem Xjs {o:Option (Nat × Nat)} {ws:List Str} (h:X1v (ws.headD [])=o) (he:ws.isEmpty=true):o=none:=by
  cases ws with
  | nil=>exact h.symm
  | cons w ws=>cases he
theorem X1u (c:Bool):un .not (.bool c)=some (.bool !c):=by cases c <;> exact Eq.trans rfl rfl
theorem Xs2 (d:Nat) (h:PA mW b2 bR bB bW bI bQ m ws bad bad q):∃ m',Q1v ⟨TA (d + 6),18446744073709551616⟩ (pt bI 0 0) (pt bW 0 0) (pt bB 0 0) (pt bQ 0 0) (pt bR 0 0) (pt b2 0 0) m=some (qnV (resA bad (A15 ws q)),m')∧Fb b2 m m':=by
  have ex:Value.string ⟨#[100,112,111,114,116,115]⟩=sv dportsW:=rfl
  obtain ⟨m1,k1,k2,k3⟩:=h.is dportsW d
  unfold Q1v
  simp only [ex,h.ldI,X0,k1,X5,X8]
  by_cases hx:ws.head?=some dportsW
  . rw [if_pos hx] at k2 ⊢
    have hA:A15 ws q=match X1v (ws.tail.headD []) with | none=>none | some (a,b)=>A7 ws.tail.tail { q with r:={ q.r with dl:=a,dh:=b } }:=by unfold A15; rw [if_pos hx]
    obtain ⟨m2,y1,y2,y3⟩:=k2.word d
    have hl:=X4g k2.a.hw
    obtain ⟨lo,hi,c1,c2⟩:=c_ports (ws.tail.headD []) hl (d + 3) m2
    have c1:TA (d + 6) Q5t [sv (ws.tail.headD [])] m2=_:=c1
    obtain ⟨m3,s1,s2,s3,s4⟩:=X1f [] m2 (some (2 * Qe + 1)) Qc (v:=Xz lo hi) (n:=2) rfl rfl rfl
    have s1:X7 2 (pt m2.next 0 0) (Xz lo hi) (m2.push (.cells Qc 0 0 false (some (2 * Qe + 1))))=some m3:=s1
    have lds:X6 true 2 (pt m2.next 0 0) m3=some (Xz lo hi):=Xk s4 (by show 2 ≤ 2; omega) rfl
    obtain ⟨p3,f3⟩:=y2.frn s2
    have hgo:∀ (X:Mem→Prop) (R:Value),(∃ m',(brb (.bool (bad || ws.tail.isEmpty))
    (bp (pur (X3 5 (pt bQ 0 0)) m3) fun x16 m =>
  bp (pur (X3 8 x16) m) fun x17 m =>
  bp (unt (X7 2 x17 (Xz lo hi) m)) fun _ m =>
  bp (unt (X7 1 (pt bB 0 0) (.bool true) m)) fun _ m =>
  Ql ⟨TA (d + 6),18446744073709551616⟩ (pt bB 0 0) (pt bR 0 0) (pt b2 0 0) (pt bQ 0 0) m)
    (bp (pur (un .not (.bool (X1v (ws.tail.headD [])).isSome)) m3) fun x18 m =>
  bp (pur (X3 5 (pt bQ 0 0)) m) fun x19 m =>
  bp (pur (X3 8 x19) m) fun x20 m =>
  bp (unt (X7 2 x20 (Xz lo hi) m)) fun _ m =>
  bp (unt (X7 1 (pt bB 0 0) x18 m)) fun _ m =>
  Ql ⟨TA (d + 6),18446744073709551616⟩ (pt bB 0 0) (pt bR 0 0) (pt b2 0 0) (pt bQ 0 0) m))=some (R,m')∧X m')→∃ m',(bp (pur (X6 false 1 (pt bW 0 0) m1) m1) fun x8 m =>
  bp (Xi (TA (d + 6)) x8 [] m) fun x9 m =>
  bp (TA (d + 6) Q5t [x9] m) fun x10 m =>
  bp (pur (Xa x10 0) m) fun x11 m =>
  bp (pur (Xa x10 1) m) fun x12 m =>
  bp (some (aNew Qe Qc m)) fun x13 m =>
  bp (unt (X7 2 x13 x11 m)) fun _ m =>
  bp (pur (X6 true 2 x13 m) m) fun x14 m =>
  bp (pur (X6 false 1 (pt bB 0 0) m) m) fun x15 m =>
  brb x15
    (bp (pur (X3 5 (pt bQ 0 0)) m) fun x16 m =>
  bp (pur (X3 8 x16) m) fun x17 m =>
  bp (unt (X7 2 x17 x14 m)) fun _ m =>
  bp (unt (X7 1 (pt bB 0 0) (.bool true) m)) fun _ m =>
  Ql ⟨TA (d + 6),18446744073709551616⟩ (pt bB 0 0) (pt bR 0 0) (pt b2 0 0) (pt bQ 0 0) m)
    (bp (pur (un .not x12) m) fun x18 m =>
  bp (pur (X3 5 (pt bQ 0 0)) m) fun x19 m =>
  bp (pur (X3 8 x19) m) fun x20 m =>
  bp (unt (X7 2 x20 x14 m)) fun _ m =>
  bp (unt (X7 1 (pt bB 0 0) x18 m)) fun _ m =>
  Ql ⟨TA (d + 6),18446744073709551616⟩ (pt bB 0 0) (pt bR 0 0) (pt b2 0 0) (pt bQ 0 0) m))=some (R,m')∧X m':=by
      intro X R ⟨m',r1,r2⟩
      refine ⟨m',?_,r2⟩
      rw [k2.ldW,X0,y1,X5,c1,X5,ex0,X0,ex1,X0,Xh]
      rw [s1,Xe,lds,X0,p3.ldB,X0]
      exact r1
    refine hgo _ _ ?_
    have F3:Fb b2 m m3:=(k3.trans y3).trans f3
    have lose:∀ c:Bool,∃ m4 m5,X7 2 (pt bQ (0 + 5 + 8) 0) (Xz lo hi) m3=some m4∧X7 1 (pt bB 0 0) (.bool true) m4=some m5∧PA mW b2 bR bB bW bI bQ m5 ws.tail.tail true true q∧Fb b2 m3 m5:=by
      intro c
      obtain ⟨m4,t1,t2,t3⟩:=p3.put true q 13 2 (Xz lo hi) rfl rfl (by omega) (fun x=>by cases x)
      obtain ⟨m5,u1,u2,u3⟩:=t2.setB true
      exact ⟨m4,m5,t1,u1,u2,t3.trans u3⟩
    obtain ⟨m4,m5,t1,t2,t3,t4⟩:=lose true
    obtain ⟨m6,z1,z2⟩:=ask7 ⟨TA (d + 6),18446744073709551616⟩ t3
    have z1:Ql ⟨TA (d + 6),18446744073709551616⟩ (pt bB 0 0) (pt bR 0 0) (pt b2 0 0) (pt bQ 0 0) m5=some (qnV none,m6):=z1
    cases hb:(bad || ws.tail.isEmpty) with
    | true =>
      have hn:resA bad (A15 ws q)=none:=by
        unfold resA
        cases bad with
        | true=>rfl
        | false =>
          rw [if_neg (by decide),hA]
          have:=Xjs (ws:=ws.tail) rfl (by simpa using hb)
          rw [this]
      rw [hn]
      refine ⟨m6,?_,(F3.trans t4).trans z2⟩
      simp only [Xd,Xg,X0,t1,Xe,t2]
      exact z1
    | false =>
      simp only [Bool.or_eq_false_iff] at hb
      obtain ⟨rfl,hb2⟩:=hb
      have hR:resA false (A15 ws q)=A15 ws q:=rfl
      rw [hR,hA]
      cases hp:X1v (ws.tail.headD []) with
      | none =>
        refine ⟨m6,?_,(F3.trans t4).trans z2⟩
        simp only [Xb,X1u,Option.isSome_none,Bool.not_false,Xg,X0,t1,Xe,t2]
        exact z1
      | some x =>
        obtain ⟨x,y⟩:=x
        obtain ⟨rfl,rfl⟩:=c2 x y hp
        obtain ⟨m4',v1,v2,v3⟩:=p3.put false { q with r:={ q.r with dl:=x,dh:=y } } 13 2 (Xz x y) rfl rfl (by omega) (fun _=>⟨rfl,rfl⟩)
        have v1:X7 2 (pt bQ (0 + 5 + 8) 0) (Xz x y) m3=some m4':=v1
        obtain ⟨m5',u1,u2,u3⟩:=v2.setB false
        obtain ⟨m6',z1',z2'⟩:=ask7 ⟨TA (d + 6),18446744073709551616⟩ u2
        refine ⟨m6',?_,((F3.trans v3).trans u3).trans z2'⟩
        simp only [Xb,X1u,Option.isSome_some,Bool.not_true,Xg,X0,v1,Xe,u1]
        exact z1'
  . rw [if_neg hx] at k2 ⊢
    have hA:A15 ws q=A7 ws q:=by unfold A15; rw [if_neg hx]
    rw [hA]
    obtain ⟨m',r1,r2⟩:=ask7 ⟨TA (d + 6),18446744073709551616⟩ k2
    exact ⟨m',r1,k3.trans r2⟩
end Go.Ab.Sh

set_option maxRecDepth 100000
set_option linter.unusedSimpArgs false
set_option linter.unusedVariables false
namespace Go.Ab.Sh
open Go Go.Ab Go.Lib
variable {mW:Mem} {b2 bR bB bW bI bQ:Nat} {m:Mem} {ws:List Str} {bad dead:Bool} {q:QN}
theorem Xrl (d:Nat) (h:PA mW b2 bR bB bW bI bQ m ws bad bad q):∃ m',Q5j ⟨TA (d + 6),18446744073709551616⟩ (pt bI 0 0) (pt bW 0 0) (pt bB 0 0) (pt bQ 0 0) (pt bR 0 0) (pt b2 0 0) m=some (qnV (resA bad (A14 ws q)),m')∧Fb b2 m m':=by
  have ex:Value.string ⟨#[115,112,111,114,116,115]⟩=sv sportsW:=rfl
  obtain ⟨m1,k1,k2,k3⟩:=h.is sportsW d
  unfold Q5j
  simp only [ex,h.ldI,X0,k1,X5,X8]
  by_cases hx:ws.head?=some sportsW
  . rw [if_pos hx] at k2 ⊢
    have hA:A14 ws q=match X1v (ws.tail.headD []) with | none=>none | some (a,b)=>A15 ws.tail.tail { q with r:={ q.r with sl:=a,sh:=b } }:=by unfold A14; rw [if_pos hx]; try rfl
    obtain ⟨m2,y1,y2,y3⟩:=k2.word d
    have hl:=X4g k2.a.hw
    obtain ⟨lo,hi,c1,c2⟩:=c_ports (ws.tail.headD []) hl (d + 3) m2
    have c1:TA (d + 6) Q5t [sv (ws.tail.headD [])] m2=_:=c1
    obtain ⟨m3,s1,s2,s3,s4⟩:=X1f [] m2 (some (2 * Qe + 1)) Qc (v:=Xz lo hi) (n:=2) rfl rfl rfl
    have s1:X7 2 (pt m2.next 0 0) (Xz lo hi) (m2.push (.cells Qc 0 0 false (some (2 * Qe + 1))))=some m3:=s1
    have lds:X6 true 2 (pt m2.next 0 0) m3=some (Xz lo hi):=Xk s4 (by show 2 ≤ 2; omega) rfl
    obtain ⟨p3,f3⟩:=y2.frn s2
    have hgo:∀ (X:Mem→Prop) (R:Value),(∃ m',(brb (.bool (bad || ws.tail.isEmpty))
    (bp (pur (X3 5 (pt bQ 0 0)) m3) fun x16 m =>
  bp (pur (X3 6 x16) m) fun x17 m =>
  bp (unt (X7 2 x17 (Xz lo hi) m)) fun _ m =>
  bp (unt (X7 1 (pt bB 0 0) (.bool true) m)) fun _ m =>
  Q1v ⟨TA (d + 6),18446744073709551616⟩ (pt bI 0 0) (pt bW 0 0) (pt bB 0 0) (pt bQ 0 0) (pt bR 0 0) (pt b2 0 0) m)
    (bp (pur (un .not (.bool (X1v (ws.tail.headD [])).isSome)) m3) fun x18 m =>
  bp (pur (X3 5 (pt bQ 0 0)) m) fun x19 m =>
  bp (pur (X3 6 x19) m) fun x20 m =>
  bp (unt (X7 2 x20 (Xz lo hi) m)) fun _ m =>
  bp (unt (X7 1 (pt bB 0 0) x18 m)) fun _ m =>
  Q1v ⟨TA (d + 6),18446744073709551616⟩ (pt bI 0 0) (pt bW 0 0) (pt bB 0 0) (pt bQ 0 0) (pt bR 0 0) (pt b2 0 0) m))=some (R,m')∧X m')→∃ m',(bp (pur (X6 false 1 (pt bW 0 0) m1) m1) fun x8 m =>
  bp (Xi (TA (d + 6)) x8 [] m) fun x9 m =>
  bp (TA (d + 6) Q5t [x9] m) fun x10 m =>
  bp (pur (Xa x10 0) m) fun x11 m =>
  bp (pur (Xa x10 1) m) fun x12 m =>
  bp (some (aNew Qe Qc m)) fun x13 m =>
  bp (unt (X7 2 x13 x11 m)) fun _ m =>
  bp (pur (X6 true 2 x13 m) m) fun x14 m =>
  bp (pur (X6 false 1 (pt bB 0 0) m) m) fun x15 m =>
  brb x15
    (bp (pur (X3 5 (pt bQ 0 0)) m) fun x16 m =>
  bp (pur (X3 6 x16) m) fun x17 m =>
  bp (unt (X7 2 x17 x14 m)) fun _ m =>
  bp (unt (X7 1 (pt bB 0 0) (.bool true) m)) fun _ m =>
  Q1v ⟨TA (d + 6),18446744073709551616⟩ (pt bI 0 0) (pt bW 0 0) (pt bB 0 0) (pt bQ 0 0) (pt bR 0 0) (pt b2 0 0) m)
    (bp (pur (un .not x12) m) fun x18 m =>
  bp (pur (X3 5 (pt bQ 0 0)) m) fun x19 m =>
  bp (pur (X3 6 x19) m) fun x20 m =>
  bp (unt (X7 2 x20 x14 m)) fun _ m =>
  bp (unt (X7 1 (pt bB 0 0) x18 m)) fun _ m =>
  Q1v ⟨TA (d + 6),18446744073709551616⟩ (pt bI 0 0) (pt bW 0 0) (pt bB 0 0) (pt bQ 0 0) (pt bR 0 0) (pt b2 0 0) m))=some (R,m')∧X m':=by
      intro X R ⟨m',r1,r2⟩
      refine ⟨m',?_,r2⟩
      rw [k2.ldW,X0,y1,X5,c1,X5,ex0,X0,ex1,X0,Xh]
      rw [s1,Xe,lds,X0,p3.ldB,X0]
      exact r1
    refine hgo _ _ ?_
    have F3:Fb b2 m m3:=(k3.trans y3).trans f3
    have lose:∀ c:Bool,∃ m4 m5,X7 2 (pt bQ (0 + 5 + 6) 0) (Xz lo hi) m3=some m4∧X7 1 (pt bB 0 0) (.bool true) m4=some m5∧PA mW b2 bR bB bW bI bQ m5 ws.tail.tail true true q∧Fb b2 m3 m5:=by
      intro c
      obtain ⟨m4,t1,t2,t3⟩:=p3.put true q 11 2 (Xz lo hi) rfl rfl (by omega) (fun x=>by cases x)
      obtain ⟨m5,u1,u2,u3⟩:=t2.setB true
      exact ⟨m4,m5,t1,u1,u2,t3.trans u3⟩
    obtain ⟨m4,m5,t1,t2,t3,t4⟩:=lose true
    obtain ⟨m6,z1,z2⟩:=Xs2 d t3
    have z1:Q1v ⟨TA (d + 6),18446744073709551616⟩ (pt bI 0 0) (pt bW 0 0) (pt bB 0 0) (pt bQ 0 0) (pt bR 0 0) (pt b2 0 0) m5=some (qnV none,m6):=z1
    cases hb:(bad || ws.tail.isEmpty) with
    | true =>
      have hn:resA bad (A14 ws q)=none:=by
        unfold resA
        cases bad with
        | true=>rfl
        | false =>
          rw [if_neg (by decide),hA]
          have:=Xjs (ws:=ws.tail) rfl (by simpa using hb)
          rw [this]
      rw [hn]
      refine ⟨m6,?_,(F3.trans t4).trans z2⟩
      simp only [Xd,Xg,X0,t1,Xe,t2]
      exact z1
    | false =>
      simp only [Bool.or_eq_false_iff] at hb
      obtain ⟨rfl,hb2⟩:=hb
      have hR:resA false (A14 ws q)=A14 ws q:=rfl
      rw [hR,hA]
      cases hp:X1v (ws.tail.headD []) with
      | none =>
        refine ⟨m6,?_,(F3.trans t4).trans z2⟩
        simp only [Xb,X1u,Option.isSome_none,Bool.not_false,Xg,X0,t1,Xe,t2]
        exact z1
      | some x =>
        obtain ⟨x,y⟩:=x
        obtain ⟨rfl,rfl⟩:=c2 x y hp
        obtain ⟨m4',v1,v2,v3⟩:=p3.put false { q with r:={ q.r with sl:=x,sh:=y } } 11 2 (Xz x y) rfl rfl (by omega) (fun _=>⟨rfl,rfl⟩)
        have v1:X7 2 (pt bQ (0 + 5 + 6) 0) (Xz x y) m3=some m4':=v1
        obtain ⟨m5',u1,u2,u3⟩:=v2.setB false
        obtain ⟨m6',z1',z2'⟩:=Xs2 d u2
        refine ⟨m6',?_,((F3.trans v3).trans u3).trans z2'⟩
        simp only [Xb,X1u,Option.isSome_some,Bool.not_true,Xg,X0,v1,Xe,u1]
        exact z1'
  . rw [if_neg hx] at k2 ⊢
    have hA:A14 ws q=A15 ws q:=by unfold A14; rw [if_neg hx]
    rw [hA]
    obtain ⟨m',r1,r2⟩:=Xs2 d k2
    exact ⟨m',r1,k3.trans r2⟩
theorem num_nil (n:Nat):num n []=none:=by
  cases h:num n [] with
  | none=>rfl
  | some k =>
    have:=(num_some.mp h).1
    exact absurd this.symm (by intro e; have:=Xha k; exact this e)
theorem Xun (d:Nat) (h:PA mW b2 bR bB bW bI bQ m ws bad bad q):∃ m',Qcv ⟨TA (d + 6),18446744073709551616⟩ (pt bI 0 0) (pt bW 0 0) (pt bB 0 0) (pt bQ 0 0) (pt bR 0 0) (pt b2 0 0) m=some (qnV (resA bad (A13 ws q)),m')∧Fb b2 m m':=by
  have ex:Value.string ⟨#[112,114,111,116,111]⟩=sv protoW:=rfl
  obtain ⟨m1,k1,k2,k3⟩:=h.is protoW d
  unfold Qcv
  simp only [ex,h.ldI,X0,k1,X5,X8]
  by_cases hx:ws.head?=some protoW
  . rw [if_pos hx] at k2 ⊢
    have hA:A13 ws q=match num 255 (ws.tail.headD []) with | none=>none | some n=>A14 ws.tail.tail { q with r:={ q.r with proto:=(n:Nat) } }:=by unfold A13; rw [if_pos hx]; try rfl
    obtain ⟨m2,y1,y2,y3⟩:=k2.word d
    have hl:=X4g k2.a.hw
    have c1:TA (d + 6) Q1k [sv (ws.tail.headD []),.int .i64 255] m2=_:=c_lexNumber' (ws.tail.headD []) hl 255 (by omega) (d + 5) m2
    simp only [k2.ldW,X0,y1,X5,c1,ex0,ex1,y2.ldB]
    have F3:Fb b2 m m2:=k3.trans y3
    obtain ⟨m4,t1,v2,v3⟩:=y2.put true q 6 1 (I (numV (num 255 (ws.tail.headD [])))) rfl rfl (by omega) (fun x=>by cases x)
    have t1:X7 1 (pt bQ (0 + 5 + 1) 0) (I (numV (num 255 (ws.tail.headD [])))) m2=some m4:=t1
    obtain ⟨m5,t2,t3,u3⟩:=v2.setB true
    obtain ⟨m6,z1,z2⟩:=Xrl d t3
    have z1:Q5j ⟨TA (d + 6),18446744073709551616⟩ (pt bI 0 0) (pt bW 0 0) (pt bB 0 0) (pt bQ 0 0) (pt bR 0 0) (pt b2 0 0) m5=some (qnV none,m6):=z1
    have F6:Fb b2 m m6:=((F3.trans v3).trans u3).trans z2
    cases hb:(bad || ws.tail.isEmpty) with
    | true =>
      have hn:resA bad (A13 ws q)=none:=by
        unfold resA
        cases bad with
        | true=>rfl
        | false =>
          rw [if_neg (by decide),hA]
          have he:ws.tail.headD []=[]:=by
            cases hw:ws.tail with
            | nil=>rfl
            | cons a b=>rw [hw] at hb; cases hb
          rw [he,num_nil]
      rw [hn]
      refine ⟨m6,?_,F6⟩
      simp only [Xd,Xg,X0,t1,Xe,t2]
      exact z1
    | false =>
      simp only [Bool.or_eq_false_iff] at hb
      obtain ⟨rfl,hb2⟩:=hb
      have hR:resA false (A13 ws q)=A13 ws q:=rfl
      rw [hR,hA]
      cases hp:num 255 (ws.tail.headD []) with
      | none =>
        rw [hp] at t1
        refine ⟨m6,?_,F6⟩
        simp only [Xb,X1u,Option.isSome_none,Bool.not_false,Xg,X0,t1,Xe,t2]
        exact z1
      | some n =>
        obtain ⟨m4',v1,v2',v3'⟩:=y2.put false { q with r:={ q.r with proto:=(n:Nat) } } 6 1 (I (n:Nat)) rfl rfl (by omega) (fun _=>⟨rfl,rfl⟩)
        have v1:X7 1 (pt bQ (0 + 5 + 1) 0) (I (n:Nat)) m2=some m4':=v1
        obtain ⟨m5',u1,u2,u3'⟩:=v2'.setB false
        obtain ⟨m6',z1',z2'⟩:=Xrl d u2
        refine ⟨m6',?_,((F3.trans v3').trans u3').trans z2'⟩
        simp only [Xb,X1u,Option.isSome_some,Bool.not_true,Xg,X0,numV,Option.getD_some,v1,Xe,u1]
        exact z1'
  . rw [if_neg hx] at k2 ⊢
    have hA:A13 ws q=A14 ws q:=by unfold A13; rw [if_neg hx]
    rw [hA]
    obtain ⟨m',r1,r2⟩:=Xrl d k2
    exact ⟨m',r1,k3.trans r2⟩
end Go.Ab.Sh

set_option maxRecDepth 100000
set_option linter.unusedSimpArgs false
set_option linter.unusedVariables false
namespace Go.Ab.Sh
open Go Go.Ab Go.Lib
variable {mW:Mem} {b2 bR bB bW bI bQ:Nat} {m:Mem} {ws:List Str} {bad dead:Bool} {q:QN}
theorem PA.weaken (h:PA mW b2 bR bB bW bI bQ m ws bad false q) (dead:Bool):PA mW b2 bR bB bW bI bQ m ws bad dead q:=by
  obtain ⟨cs,g1,g2,g3⟩:=h.gQ
  exact { h with gQ:=⟨cs,g1,g2,fun _=>g3 rfl⟩ }
def prfO (x:Str) (ws:List Str):Option (Nat × Nat × List Str):=
  if ws.head?=some x then (if (prefP (ws.tail.headD [])).2.2=0∧(prefP (ws.tail.headD [])).2.1 ≠ 0 then some ((prefP (ws.tail.headD [])).1,(prefP (ws.tail.headD [])).2.1,ws.tail.tail) else none) else some (0,0,ws)
theorem Xlv:prefP []=(0,0,4):=rfl
theorem Xcc {ws:List Str} (h:ws.isEmpty=true):ws.headD []=[]:=by
  cases ws with
  | nil=>rfl
  | cons a b=>cases h
theorem Xkb (x:Str) (ws:List Str) (bad:Bool):(prfS x ws bad).2.2.2=(bad || (prfO x ws).isNone):=by
  unfold prfS prfO
  by_cases hx:ws.head?=some x
  . rw [if_pos hx,if_pos hx]
    simp only
    cases he:ws.tail.isEmpty with
    | true =>
      rw [Xcc he,Xlv]
      cases bad <;> rfl
    | false =>
      by_cases h1:(prefP (ws.tail.headD [])).2.2=0
      . by_cases h2:(prefP (ws.tail.headD [])).2.1=0
        . rw [if_neg (fun h=>h.2 h2),decide_eq_true h2,decide_eq_false (fun h=>h h1)]
          cases bad <;> rfl
        . rw [if_pos ⟨h1,h2⟩,decide_eq_false h2,decide_eq_false (fun h=>h h1)]
          cases bad <;> rfl
      . rw [if_neg (fun h=>h1 h.1),decide_eq_true h1]
        cases bad <;> simp
  . rw [if_neg hx,if_neg hx]
    cases bad <;> rfl
theorem Xga {x:Str} {ws ws':List Str} {bad:Bool} {a b:Nat} (h:prfO x ws=some (a,b,ws')):(prfS x ws bad).1=a∧(prfS x ws bad).2.1=b∧(prfS x ws bad).2.2.1=ws':=by
  unfold prfO at h
  unfold prfS
  by_cases hx:ws.head?=some x
  . rw [if_pos hx] at h ⊢
    split at h
    . cases h
      exact ⟨rfl,rfl,rfl⟩
    . cases h
  . rw [if_neg hx] at h ⊢
    cases h
    exact ⟨rfl,rfl,rfl⟩
def A12 (ws:List Str) (q:QN):Option QN:=match prfO fromW ws with
  | none=>none
  | some (a,b,ws1)=>match prfO toW ws1 with
    | none=>none
    | some (c,e,ws2)=>A13 ws2 { q with r:={ q.r with sa:=a,sb:=(b:Nat),da:=c,db:=(e:Nat) } }
def A11 (ws:List Str) (q:QN):Option QN:=if q.kind < 3 then (if posG 0 endsL (ws.headD [])=0 then none else A12 ws.tail { q with en:=posG 0 endsL (ws.headD []) }) else A12 ws q
def A10 (ws:List Str) (q:QN):Option QN:=if Xy (ws.headD [])=true∧Xy (ws.tail.headD [])=true then A11 ws.tail.tail { q with dev:=ws.headD [],ifc:=ws.tail.headD [],r:=rlH } else none
theorem Xrx (d:Nat) (h:PA mW b2 bR bB bW bI bQ m ws bad false q):∃ m',Q7l ⟨TA (d + 6),18446744073709551616⟩ (fP bI bW bB) (pt bQ 0 0) (pt bI 0 0) (pt bW 0 0) (pt bB 0 0) (pt bR 0 0) (pt b2 0 0) m=some (qnV (resA bad (A12 ws q)),m')∧Fb b2 m m':=by
  have e1:Value.string ⟨#[102,114,111,109]⟩=sv fromW:=rfl
  have e2:Value.string ⟨#[116,111]⟩=sv toW:=rfl
  obtain ⟨m1,k1,k2,k3⟩:=h.prefix' fromW d
  obtain ⟨m2,y1,y2,y3⟩:=k2.prefix' toW d
  obtain ⟨A,hA⟩:∃ A,A=prfS fromW ws bad:=⟨_,rfl⟩
  rw [← hA] at k1 k2 y1 y2
  obtain ⟨B,hB⟩:∃ B,B=prfS toW A.2.2.1 A.2.2.2:=⟨_,rfl⟩
  rw [← hB] at y1 y2
  obtain ⟨m3,s1,s2,s3⟩:=y2.put false { q with r:={ q.r with sa:=A.1,sb:=(A.2.1:Nat) } } 7 2 (pfx A.1 (A.2.1:Nat)) rfl rfl (by omega) (fun _=>⟨rfl,rfl⟩)
  have s1:X7 2 (pt bQ (0 + 5 + 2) 0) (pfx A.1 (A.2.1:Nat)) m2=some m3:=s1
  obtain ⟨m4,t1,t2,t3⟩:=s2.put false { q with r:={ q.r with sa:=A.1,sb:=(A.2.1:Nat),da:=B.1,db:=(B.2.1:Nat) } } 9 2 (pfx B.1 (B.2.1:Nat)) rfl rfl (by omega) (fun _=>⟨rfl,rfl⟩)
  have t1:X7 2 (pt bQ (0 + 5 + 4) 0) (pfx B.1 (B.2.1:Nat)) m3=some m4:=t1
  obtain ⟨m5,z1,z2⟩:=Xun d (t2.weaken B.2.2.2)
  refine ⟨m5,?_,((((k3.trans y3).trans s3).trans t3).trans z2)⟩
  unfold Q7l
  simp only [e1,e2,k1,X5,y1,Xg,X0,s1,Xe,t1]
  rw [z1]
  congr 3
  have b1:A.2.2.2=(bad || (prfO fromW ws).isNone):=by rw [hA]; exact Xkb fromW ws bad
  have b2:B.2.2.2=(A.2.2.2 || (prfO toW A.2.2.1).isNone):=by rw [hB]; exact Xkb toW _ _
  unfold resA A12
  cases bad with
  | true =>
    rw [b2,b1]
    rfl
  | false =>
    rw [if_neg (show ¬ false=true by decide)]
    cases ho:prfO fromW ws with
    | none =>
      rw [b2,b1,ho]
      rfl
    | some x =>
      obtain ⟨a,b,ws1⟩:=x
      obtain ⟨c1,c2,c3⟩:=Xga (bad:=false) ho
      rw [← hA] at c1 c2 c3
      rw [c3] at b2
      simp only
      cases ho2:prfO toW ws1 with
      | none =>
        rw [b2,ho2]
        simp
      | some y =>
        obtain ⟨c,e,ws2⟩:=y
        have hA2:A.2.2.2=false:=by rw [b1,ho]; rfl
        rw [← c3] at ho2
        obtain ⟨f1,f2,f3⟩:=Xga (bad:=A.2.2.2) ho2
        rw [← hB] at f1 f2 f3
        have hB2:B.2.2.2=false:=by rw [b2,hA2,← c3,ho2]; rfl
        rw [hB2,if_neg (by decide),f3,c1,c2,f1,f2]
theorem Xv5 (d:Nat) (h:PA mW b2 bR bB bW bI bQ m ws bad false q) (hk:q.kind < 256):∃ m',Qcw ⟨TA (d + 6),18446744073709551616⟩ (pt bQ 0 0) (pt bW 0 0) (pt bB 0 0) (fP bI bW bB) (pt bI 0 0) (pt bR 0 0) (pt b2 0 0) m=some (qnV (resA bad (A11 ws q)),m')∧Fb b2 m m':=by
  obtain ⟨cs,g1,g2,g3⟩:=h.gQ
  have:=g3 rfl
  subst this
  have l0:X6 false 1 (pt bQ (0 + 0) 0) m=some (.int .u8 (q.kind:Int)):=Xo g1 rfl
  unfold Qcw
  simp only [Xg,l0,X0,Qf,X8]
  by_cases k3:q.kind < 3
  . rw [if_pos (by omega)]
    have hA:A11 ws q=if posG 0 endsL (ws.headD [])=0 then none else A12 ws.tail { q with en:=posG 0 endsL (ws.headD []) }:=by unfold A11; rw [if_pos k3]
    obtain ⟨m2,y1,y2,y3⟩:=h.word d
    have hpos:=X4d endsL 0 (ws.headD [])
    have hel:endsL.length=7:=rfl
    have cp:TA (d + 6) Q3y [sv Xb3,sv (ws.headD [])] m2=some (I (posG 0 endsL (ws.headD []):Nat),m2):=c_placeE (ws.headD []) (d + 4) m2
    have wr:IntKind.u8.wrap ((posG 0 endsL (ws.headD []):Nat):Int)=((posG 0 endsL (ws.headD []):Nat):Int):=by rw [IntWalk.u8_in _ (by omega)]
    obtain ⟨m3,s1,s2,s3⟩:=y2.put false { q with en:=posG 0 endsL (ws.headD []) } 4 1 (.int .u8 ((posG 0 endsL (ws.headD []):Nat):Int)) rfl rfl (by omega) (fun _=>⟨rfl,rfl⟩)
    have s1:X7 1 (pt bQ (0 + 4) 0) (.int .u8 ((posG 0 endsL (ws.headD []):Nat):Int)) m2=some m3:=s1
    obtain ⟨cs,j1,j2,j3⟩:=s2.gQ
    have:=j3 rfl
    subst this
    have l4:X6 false 1 (pt bQ (0 + 4) 0) m3=some (.int .u8 ((posG 0 endsL (ws.headD []):Nat):Int)):=Xo j1 rfl
    rw [h.ldW,X0,y1,X5]
    have hgo:∀ (X:Mem→Prop) (R:Value) (K:Value→Mem→Option Rs),(∃ m',K (I (posG 0 endsL (ws.headD []):Nat)) m2=some (R,m')∧X m')→∃ m',bp (TA (d + 6) Q3y [sv Xb3,sv (ws.headD [])] m2) K=some (R,m')∧X m':=by
      intro X R K ⟨m',r1,r2⟩
      exact ⟨m',by rw [cp,X5]; exact r1,r2⟩
    refine hgo _ _ _ ?_
    simp only [X5,c_int,wr,Xg,X0,s1,Xe,s2.ldB,l4,Qp]
    have F3:=y3.trans s3
    cases hb:(bad || ws.isEmpty) with
    | true =>
      obtain ⟨m4,t1,t2,t3⟩:=s2.setB true
      obtain ⟨m5,z1,z2⟩:=Xrx d t2
      refine ⟨m5,?_,(F3.trans t3).trans z2⟩
      simp only [Xd,t1,Xe]
      rw [z1]
      congr 3
      unfold resA
      rw [if_pos rfl]
      cases bad with
      | true=>rfl
      | false =>
        rw [if_neg (by decide),hA,Xcc (by simpa using hb)]
        rfl
    | false =>
      simp only [Bool.or_eq_false_iff] at hb
      obtain ⟨rfl,hb2⟩:=hb
      obtain ⟨m4,t1,t2,t3⟩:=s2.setB (decide (((posG 0 endsL (ws.headD []):Nat):Int)=0))
      obtain ⟨m5,z1,z2⟩:=Xrx d t2
      refine ⟨m5,?_,(F3.trans t3).trans z2⟩
      simp only [Xb,t1,Xe]
      rw [z1,hA]
      congr 3
      unfold resA
      rw [if_neg (show ¬ false=true by decide)]
      by_cases h0:posG 0 endsL (ws.headD [])=0
      . rw [if_pos h0,decide_eq_true (by omega),if_pos rfl]
      . rw [if_neg h0,decide_eq_false (by omega),if_neg (by decide)]
  . rw [if_neg (by omega)]
    have hA:A11 ws q=A12 ws q:=by unfold A11; rw [if_neg k3]
    rw [hA]
    exact Xrx d h
theorem Xvn (d:Nat) (h:PA mW b2 bR bB bW bI bQ m ws bad false q) (hk:q.kind < 256) (p35:Value):∃ m',Q4g ⟨TA (d + 6),18446744073709551616⟩ (.bool true) (fN bW bB) (pt bQ 0 0) (pt bW 0 0) (pt bB 0 0) (fP bI bW bB) (pt bI 0 0) (pt bR 0 0) (pt b2 0 0) p35 m=some (qnV (resA bad (A10 ws q)),m')∧Fb b2 m m':=by
  obtain ⟨m1,k1,k2,k3⟩:=h.name d
  obtain ⟨m2,y1,y2,y3⟩:=k2.name d
  have ch:TA (d + 6) Qdc [] m2=some (rlV rlH,m2):=c_heads (d + 5) m2
  obtain ⟨m3,s1,s2,s3⟩:=y2.put false { q with dev:=ws.headD [] } 1 1 (sv (ws.headD [])) rfl rfl (by omega) (fun _=>⟨rfl,rfl⟩)
  have s1:X7 1 (pt bQ (0 + 1) 0) (sv (ws.headD [])) m2=some m3:=s1
  obtain ⟨m4,t1,t2,t3⟩:=s2.put false { q with dev:=ws.headD [],ifc:=ws.tail.headD [] } 2 1 (sv (ws.tail.headD [])) rfl rfl (by omega) (fun _=>⟨rfl,rfl⟩)
  have t1:X7 1 (pt bQ (0 + 2) 0) (sv (ws.tail.headD [])) m3=some m4:=t1
  obtain ⟨m5,u1,u2,u3⟩:=t2.put false { q with dev:=ws.headD [],ifc:=ws.tail.headD [],r:=rlH } 5 10 (rlV rlH) rfl rfl (by omega) (fun _=>⟨rfl,rfl⟩)
  have u1:X7 10 (pt bQ (0 + 5) 0) (rlV rlH) m4=some m5:=u1
  obtain ⟨m6,z1,z2⟩:=Xv5 d u2 hk
  refine ⟨m6,?_,(((((k3.trans y3).trans s3).trans t3).trans u3).trans z2)⟩
  unfold Q4g
  simp only [Xd,k1,X5,y1,ch,Xg,X0,s1,Xe,t1,u1]
  rw [z1]
  congr 3
  have nn:∀ l:List Str,(l.isEmpty || !Xy (l.headD []))=!Xy (l.headD []):=by
    intro l
    cases l with
    | nil=>rfl
    | cons a b=>rfl
  unfold resA A10
  have e:(bad || ws.isEmpty || !Xy (ws.headD []) || ws.tail.isEmpty || !Xy (ws.tail.headD []))=(bad || !Xy (ws.headD []) || !Xy (ws.tail.headD [])):=by
    rw [← nn ws,← nn ws.tail]
    simp only [Bool.or_assoc]
    rw [← Bool.or_assoc ws.isEmpty,← Bool.or_assoc ws.tail.isEmpty]
    simp
  rw [e]
  cases bad with
  | true=>rfl
  | false =>
    rw [if_neg (show ¬ false=true by decide)]
    cases n1:Xy (ws.headD []) with
    | false=>simp
    | true =>
      cases n2:Xy (ws.tail.headD []) with
      | false=>simp
      | true=>simp
end Go.Ab.Sh

set_option maxRecDepth 100000
set_option linter.unusedSimpArgs false
set_option linter.unusedVariables false
namespace Go.Ab.Sh
open Go Go.Ab Go.Lib
variable {mW:Mem} {b2 bR bB bW bI bQ:Nat} {m:Mem} {ws:List Str} {bad dead:Bool} {q:QN}
theorem Xal (l:List Str) (bad:Bool):(bad || l.isEmpty || !Xy (l.headD []))=(bad || !Xy (l.headD [])):=by
  cases l with
  | nil=>cases bad <;> rfl
  | cons a b=>cases bad <;> rfl
def A17 (ws:List Str) (q:QN):Option QN:=if Xy (ws.headD [])=true then (if ws.tail.head?=some vrfW then (if Xy (ws.tail.tail.headD [])=true then A7 ws.tail.tail.tail { q with dev:=ws.headD [],vrf:=ws.tail.tail.headD [] } else none) else A7 ws.tail { q with dev:=ws.headD [] }) else none
def A17o (ws:List Str) (q:QN):Option QN:=match X2p (ws.headD []) with | none=>none | some a=>A7 ws.tail { q with ad:=a }
theorem Xqj (d:Nat) (h:PA mW b2 bR bB bW bI bQ m ws bad false q) (p35:Value):∃ m',Q30 ⟨TA (d + 6),18446744073709551616⟩ (.bool true) (fN bW bB) (pt bQ 0 0) (pt bI 0 0) (pt bB 0 0) (pt bR 0 0) (pt b2 0 0) p35 (pt bW 0 0) m=some (qnV (resA bad (A17 ws q)),m')∧Fb b2 m m':=by
  have ex:Value.string ⟨#[118,114,102]⟩=sv vrfW:=rfl
  obtain ⟨m1,k1,k2,k3⟩:=h.name d
  rw [Xal] at k2
  obtain ⟨m2,s1,s2,s3⟩:=k2.put false { q with dev:=ws.headD [] } 1 1 (sv (ws.headD [])) rfl rfl (by omega) (fun _=>⟨rfl,rfl⟩)
  have s1:X7 1 (pt bQ (0 + 1) 0) (sv (ws.headD [])) m1=some m2:=s1
  obtain ⟨m3,y1,y2,y3⟩:=s2.is vrfW d
  have F3:=(k3.trans s3).trans y3
  unfold Q30
  simp only [Xd,k1,X5,Xg,X0,s1,Xe,s2.ldI,ex,y1,X8]
  by_cases hv:ws.tail.head?=some vrfW
  . rw [if_pos hv] at y2 ⊢
    obtain ⟨m4,j1,j2,j3⟩:=y2.name d
    rw [Xal] at j2
    obtain ⟨m5,t1,t2,t3⟩:=j2.put false { q with dev:=ws.headD [],vrf:=ws.tail.tail.headD [] } 3 1 (sv (ws.tail.tail.headD [])) rfl rfl (by omega) (fun _=>⟨rfl,rfl⟩)
    have t1:X7 1 (pt bQ (0 + 3) 0) (sv (ws.tail.tail.headD [])) m4=some m5:=t1
    obtain ⟨m6,z1,z2⟩:=ask7 ⟨TA (d + 6),18446744073709551616⟩ (t2.weaken _)
    refine ⟨m6,?_,((F3.trans j3).trans t3).trans z2⟩
    simp only [j1,X5,Xg,X0,t1,Xe]
    rw [z1]
    congr 3
    unfold resA A17
    rw [if_pos hv]
    cases bad with
    | true=>rfl
    | false =>
      cases n1:Xy (ws.headD []) with
      | false=>simp
      | true =>
        cases n2:Xy (ws.tail.tail.headD []) with
        | false=>simp
        | true=>simp
  . rw [if_neg hv] at y2 ⊢
    obtain ⟨m6,z1,z2⟩:=ask7 ⟨TA (d + 6),18446744073709551616⟩ (y2.weaken _)
    refine ⟨m6,?_,F3.trans z2⟩
    rw [z1]
    congr 3
    unfold resA A17
    rw [if_neg hv]
    cases bad with
    | true=>rfl
    | false =>
      cases n1:Xy (ws.headD []) with
      | false=>simp
      | true=>simp
theorem Xgd:X2p []=none:=rfl
theorem Xui (d:Nat) (h:PA mW b2 bR bB bW bI bQ m ws bad false q):∃ m',Q30 ⟨TA (d + 6),18446744073709551616⟩ (.bool false) (fN bW bB) (pt bQ 0 0) (pt bI 0 0) (pt bB 0 0) (pt bR 0 0) (pt b2 0 0) (.int .u8 ((7:Nat):Int)) (pt bW 0 0) m=some (qnV (resA bad (A17o ws q)),m')∧Fb b2 m m':=by
  obtain ⟨m1,k1,k2,k3⟩:=h.word d
  have hl:=X4g h.a.hw
  have c1:TA (d + 6) Q6e [sv (ws.headD [])] m1=_:=c_addrParse (ws.headD []) hl (d + 2) m1
  unfold Q30
  simp only [Xb,Qp,X0,X8]
  rw [if_pos (by decide)]
  simp only [h.ldW,X0,k1,X5,c1]
  unfold A17o
  cases ha:X2p (ws.headD []) with
  | none =>
    obtain ⟨m2,s1,s2,s3⟩:=k2.put false { q with ad:=0 } 21 1 (.int .u32 0) rfl rfl (by omega) (fun _=>⟨rfl,rfl⟩)
    have s1:X7 1 (pt bQ (0 + 21) 0) (.int .u32 0) m1=some m2:=s1
    obtain ⟨m3,t1,t2,t3⟩:=s2.setB true
    obtain ⟨m4,z1,z2⟩:=ask7 ⟨TA (d + 6),18446744073709551616⟩ (t2.weaken _)
    have hr:resA bad none=none:=by unfold resA; split <;> rfl
    refine ⟨m4,?_,((k3.trans s3).trans t3).trans z2⟩
    simp only [X3u,ex0,ex1,X0,k2.ldB,Q1o,Xg,s1,Xe]
    rw [hr]
    have t1':X7 1 (pt bB 0 0) (.bool (decide ((4:Int) ≠ 0))) m2=some m3:=t1
    cases (bad || ws.isEmpty) with
    | true=>rw [Xd,t1,Xe]; exact z1
    | false=>rw [Xb,t1',Xe]; exact z1
  | some a =>
    have hne:ws.isEmpty=false:=by
      cases ws with
      | nil=>rw [show ([]:List Str).headD []=[] from rfl,Xgd] at ha; cases ha
      | cons x y=>rfl
    obtain ⟨m2,s1,s2,s3⟩:=k2.put false { q with ad:=a } 21 1 (.int .u32 (a:Int)) rfl rfl (by omega) (fun _=>⟨rfl,rfl⟩)
    have s1:X7 1 (pt bQ (0 + 21) 0) (.int .u32 (a:Int)) m1=some m2:=s1
    rw [hne,Bool.or_false] at s2 k2
    obtain ⟨m3,t1,t2,t3⟩:=s2.setB bad
    obtain ⟨m4,z1,z2⟩:=ask7 ⟨TA (d + 6),18446744073709551616⟩ (t2.weaken _)
    refine ⟨m4,?_,((k3.trans s3).trans t3).trans z2⟩
    simp only [X3u,ex0,ex1,X0,k2.ldB,Q1o,Xg,s1,Xe]
    cases bad with
    | true=>rw [Xd,t1,Xe]; exact z1
    | false =>
      have t1':X7 1 (pt bB 0 0) (.bool (decide ((0:Int) ≠ 0))) m2=some m3:=t1
      rw [Xb,t1',Xe]; exact z1
theorem Xt6 (d:Nat) (h:PA mW b2 bR bB bW bI bQ m ws bad false q):∃ m',Q30 ⟨TA (d + 6),18446744073709551616⟩ (.bool false) (fN bW bB) (pt bQ 0 0) (pt bI 0 0) (pt bB 0 0) (pt bR 0 0) (pt b2 0 0) (.int .u8 ((0:Nat):Int)) (pt bW 0 0) m=some (qnV none,m')∧Fb b2 m m':=by
  unfold Q30
  simp only [Xb,Qp,X0,X8]
  rw [if_neg (by decide)]
  obtain ⟨m3,t1,t2,t3⟩:=h.setB true
  obtain ⟨m4,z1,z2⟩:=ask7 ⟨TA (d + 6),18446744073709551616⟩ (t2.weaken _)
  refine ⟨m4,?_,t3.trans z2⟩
  rw [t1,Xe]
  exact z1
end Go.Ab.Sh

set_option maxRecDepth 100000
set_option linter.unusedSimpArgs false
set_option linter.unusedVariables false
namespace Go.Ab.Sh
open Go Go.Ab Go.Lib
variable {mW:Mem} {b2 bR bB bW bI bQ:Nat} {m:Mem} {ws:List Str} {bad dead:Bool} {q:QN}
theorem X6h (c:UInt8) (l:List Str):(Xw [c] l.tail).length ≤ (Xw [c] l).length:=by
  match l with
  | []=>exact Nat.le_refl _
  | [a]=>exact Nat.zero_le _
  | a :: b :: l =>
    have e:Xw [c] (a :: b :: l)=a ++ c :: Xw [c] (b :: l):=by simp [Xw,List.intercalate,List.intersperse]
    rw [e]
    simp only [List.tail_cons,List.length_append,List.length_cons]
    omega
theorem Xu5 (G:Gt) (g2:m.get b2=some (.cells Qj 0 0 false tyA)) (gQ:m.get bQ=some (.cells (qC q) 0 0 false tyA)) (c:Bool):∃ m',Q6u G (.bool c) (pt b2 0 0) (pt bQ 0 0) m=some (qnV (if c=true then none else some q),m')∧Fb b2 m m':=by
  unfold Q6u
  cases c with
  | true =>
    obtain ⟨m',k1,k2,_⟩:=X14 (n:=22) (tail:=[.int .i64 4]) (vs:=qC q0) g2 rfl rfl rfl (Nat.le_refl b2)
    refine ⟨m',?_,k2⟩
    rw [Xd,aBa undef,X0]
    exact k1
  | false =>
    obtain ⟨m',k1,k2,_⟩:=X14 (n:=22) (tail:=[.int .i64 0]) (vs:=qC q) g2 rfl rfl rfl (Nat.le_refl b2)
    refine ⟨m',?_,k2⟩
    have hl:X6 true 22 (pt bQ 0 0) m=some (qV q):=Xk gQ (by show 22 ≤ 22; omega) rfl
    rw [Xb,hl,X0]
    exact k1
theorem Xvs (G:Gt) (h:PA mW b2 bR bB bW bI bQ m ws bad false q) (c:Bool):∃ m7 m8,X7 1 (pt bR 0 0) (.slice none 0 0) m=some m7∧X7 1 (pt bB 0 0) (.bool c) m7=some m8 ∧
    ∃ m',Ql G (pt bB 0 0) (pt bR 0 0) (pt b2 0 0) (pt bQ 0 0) m8=some (qnV (if c=true then none else some q),m')∧Fb b2 m m':=by
  obtain ⟨v,g1,gr⟩:=h.a.gR
  obtain ⟨cs,j1,j2,j3⟩:=h.gQ
  have:=j3 rfl
  subst this
  have e1:=h.a.lR
  have e2:=h.a.lB
  have e3:=h.w2
  have e4:=h.a.nx
  have u1:=h.q1
  have u2:=h.q2
  have u3:=h.a.rb
  have e5:=h.a.nB
  have e6:=h.a.nR
  obtain ⟨m7,s1,s2,s3,s4,s5⟩:=X2d (W:=[bR]) (o:=0) (n:=1) (cs':=[.slice none 0 0]) (Fr.refl _ m) gr (.slice none 0 0) rfl rfl (by show 1 ≤ 1; omega) rfl (.inl (by simp))
  have gb:m7.get bB=some (.cells [.bool bad] 0 0 false tyB):=by rw [s5 _ (fun e=>u3 e.symm)]; exact h.a.gB
  obtain ⟨m8,t1,t2,t3,t4,t5⟩:=X2d (W:=[bB]) (o:=0) (n:=1) (cs':=[.bool c]) (Fr.refl _ m7) gb (.bool c) rfl rfl (by show 1 ≤ 1; omega) rfl (.inl (by simp))
  have F:Fb b2 m m8:=(s2.toFbW (by simp; omega) (by omega)).trans (t2.toFbW (by simp; omega) (by omega))
  have ldb:X6 false 1 (pt bB 0 0) m8=some (.bool c):=Xo t4 rfl
  have ldr:X6 false 1 (pt bR 0 0) m8=some (.slice none 0 0):=Xo (by rw [t5 _ u3]; exact s4) rfl
  have g2:m8.get b2=some (.cells Qj 0 0 false tyA):=by rw [t5 _ (by omega),s5 _ (by omega)]; exact h.g2
  have gQ:m8.get bQ=some (.cells (qC q) 0 0 false tyA):=by rw [t5 _ u2,s5 _ u1]; exact j1
  refine ⟨m7,m8,s1,t1,?_⟩
  have ln:lenK 1 (.slice none 0 0) m8=some (I 0):=by rw [Xeq]; rfl
  unfold Ql
  simp only [ldb,X0,ldr,ln,Q4s]
  cases c with
  | true =>
    obtain ⟨m',r1,r2⟩:=Xu5 G g2 gQ true
    exact ⟨m',by rw [Xd]; exact r1,F.trans r2⟩
  | false =>
    obtain ⟨m',r1,r2⟩:=Xu5 G g2 gQ false
    exact ⟨m',by rw [Xb]; exact r1,F.trans r2⟩
def A16 (ws:List Str) (q:QN):Option QN:=if Xy (ws.headD [])=true∧Xy (ws.tail.headD [])=true then (match num 255 (ws.tail.tail.headD []),prH (Xw [32] ws.tail.tail.tail) with
  | some h,some (a,m,b,n,p)=>some { q with dev:=ws.headD [],ifc:=ws.tail.headD [],hops:=(h:Nat),a:=a,b:=b,p:=p,m:=m,n:=n }
  | _,_=>none) else none
theorem X8b (a b p m n:Nat) (mm:Mem):again (pur (some (hdr a b p m n)) mm) (hdr a b p m n)=true:=Xg0 a b p m n mm
theorem Xt9 (d:Nat) (h:PA mW b2 bR bB bW bI bQ m ws bad false q) (hn:ws.length ≤ 140737488355328) (hj:(Xw [32] ws).length ≤ 4194304) (p35:Value):∃ m',Q9y ⟨TA (d + 6),18446744073709551616⟩ (.bool true) (fN bW bB) (pt bQ 0 0) (pt bW 0 0) (pt bR 0 0) (pt bB 0 0) (pt b2 0 0) p35 (pt bI 0 0) m=some (qnV (resA bad (A16 ws q)),m')∧Fb b2 m m':=by
  obtain ⟨m1,k1,k2,k3⟩:=h.name d
  rw [Xal] at k2
  obtain ⟨m2,y1,y2,y3⟩:=k2.name d
  rw [Xal] at y2
  obtain ⟨m3,s1,s2,s3⟩:=y2.put false { q with dev:=ws.headD [] } 1 1 (sv (ws.headD [])) rfl rfl (by omega) (fun _=>⟨rfl,rfl⟩)
  have s1:X7 1 (pt bQ (0 + 1) 0) (sv (ws.headD [])) m2=some m3:=s1
  obtain ⟨m4,t1,t2,t3⟩:=s2.put false { q with dev:=ws.headD [],ifc:=ws.tail.headD [] } 2 1 (sv (ws.tail.headD [])) rfl rfl (by omega) (fun _=>⟨rfl,rfl⟩)
  have t1:X7 1 (pt bQ (0 + 2) 0) (sv (ws.tail.headD [])) m3=some m4:=t1
  obtain ⟨m5,w1,w2,w3⟩:=t2.word d
  have hl:=X4g t2.a.hw
  have cN:TA (d + 6) Q1k [sv (ws.tail.tail.headD []),.int .i64 255] m5=_:=c_lexNumber' (ws.tail.tail.headD []) hl 255 (by omega) (d + 5) m5
  obtain ⟨v,g1,gr⟩:=w2.a.gR
  have hs:SL m5 v ws.tail.tail.tail:=SL.up g1 w2.a.nx w2.a.gt
  have ldr:X6 false 1 (pt bR 0 0) m5=some v:=Xo gr rfl
  have hj3:(Xw [32] ws.tail.tail.tail).length ≤ 4194304:=Nat.le_trans (X6h 32 _) (Nat.le_trans (X6h 32 _) (Nat.le_trans (X6h 32 _) hj))
  have cJ:TA (d + 6) Q31 [v,sv [32]] m5=_:=c_Join v _ [32] m5 hs (by simp; omega) (by omega) (d + 6)
  obtain ⟨T,hT⟩:∃ T,T=Xw [32] ws.tail.tail.tail:=⟨_,rfl⟩
  rw [← hT] at cJ hj3
  have cH:TA (d + 6) Q9z [sv T] m5=_:=c_header T hj3 (d + 1) m5
  obtain ⟨hd,hhd⟩:∃ hd:Nat × Nat × Nat × Nat × Nat,hd=(prH T).getD (0,0,0,0,0):=⟨_,rfl⟩
  obtain ⟨a,mm,b,n,p⟩:=hd
  have hV:hdrV (prH T)=.tuple ⟨[hdr a b p mm n,I (if (prH T).isSome=true then 0 else 4)]⟩:=by
    cases hx:prH T with
    | none=>rw [hx] at hhd; cases hhd; rfl
    | some x=>rw [hx] at hhd; cases hhd; rfl
  rw [hV] at cH
  obtain ⟨m6,x1,x2,x3,x4⟩:=X1f [] m5 (some (2 * Q3 + 1)) Q7 (v:=hdr a b p mm n) (n:=5) rfl rfl rfl
  have x1:X7 5 (pt m5.next 0 0) (hdr a b p mm n) (m5.push (.cells Q7 0 0 false (some (2 * Q3 + 1))))=some m6:=x1
  have ldh:∀ mk,mk.get m5.next=some (.cells (hdr a b p mm n).cells.toList 0 0 false (some (2 * Q3 + 1)))→X6 true 5 (pt m5.next 0 0) mk=some (hdr a b p mm n):=fun mk hk=>Xk hk (by show 5 ≤ 5; omega) rfl
  obtain ⟨p6,f6⟩:=w2.frn x2
  let z:Nat:=numV (num 255 (ws.tail.tail.headD []))
  have hb5:bQ < m5.next:=w2.nQ
  obtain ⟨cs,j1,j2,j3⟩:=p6.gQ
  obtain ⟨m7,a1,a2,a3⟩:=p6.put false { q with dev:=ws.headD [],ifc:=ws.tail.headD [],hops:=(z:Nat) } 20 1 (I (z:Nat)) rfl rfl (by omega) (fun _=>⟨rfl,rfl⟩)
  have a1:X7 1 (pt bQ (0 + 20) 0) (I (numV (num 255 (ws.tail.tail.headD [])))) m6=some m7:=a1
  have x5:m7.get m5.next=some (.cells (hdr a b p mm n).cells.toList 0 0 false (some (2 * Q3 + 1))):=by
    obtain ⟨mq,i1,i2,i3,i4,i5⟩:=X2d (W:=[bQ]) (o:=20) (n:=1) (Fr.refl _ m6) j1 (I (z:Nat)) rfl rfl (by omega) rfl (.inl (by simp))
    have i1:X7 1 (pt bQ (0 + 20) 0) (I (numV (num 255 (ws.tail.tail.headD [])))) m6=some mq:=i1
    obtain rfl:mq=m7:=Option.some.inj (i1.symm.trans a1)
    rw [i5 _ (by omega)]
    exact x4
  obtain ⟨m8,c1,c2,c3⟩:=a2.put false { q with dev:=ws.headD [],ifc:=ws.tail.headD [],hops:=(z:Nat),a:=a,b:=b,p:=p,m:=mm,n:=n } 15 5 (hdr a b p mm n) rfl rfl (by omega) (fun _=>⟨rfl,rfl⟩)
  have c1:X7 5 (pt bQ (0 + 15) 0) (hdr a b p mm n) m7=some m8:=c1
  have F8:Fb b2 m m8:=((((((k3.trans y3).trans s3).trans t3).trans w3).trans f6).trans a3).trans c3
  have l6:=ldh m6 x4
  have l7:=ldh m7 x5
  have es:Value.string ⟨#[32]⟩=sv [32]:=rfl
  unfold Q9y
  simp only [Xd,k1,X5,y1,Xg,X0,s1,Xe,t1,t2.ldW,w1,cN,ex0,ex1,ldr,es,cJ,cH]
  have hgo:∀ (X:Mem→Prop) (R:Value) (K:Value→Mem→Option Rs),(∃ m',bp (unt (X7 5 (pt m5.next 0 0) (hdr a b p mm n) (m5.push (.cells Q7 0 0 false (some (2 * Q3 + 1)))))) (fun _ mk=>K (pt m5.next 0 0) mk)=some (R,m')∧X m')→∃ m',bp (some (aNew Q3 Q7 m5)) (fun x87 mk=>bp (unt (X7 5 x87 (hdr a b p mm n) mk)) fun _ mk=>K x87 mk)=some (R,m')∧X m':=by
    intro X R K ⟨m',r1,r2⟩
    refine ⟨m',?_,r2⟩
    rw [Xh]
    exact r1
  refine hgo _ _ _ ?_
  simp only [x1,Xe,l6,X0,p6.ldB]
  have fin:∀ c:Bool,∃ m',(bp (unt (X7 1 (pt bR 0 0) (.slice none 0 0) m8)) fun _ m=>bp (unt (X7 1 (pt bB 0 0) (.bool c) m)) fun _ m=>Ql ⟨TA (d + 6),18446744073709551616⟩ (pt bB 0 0) (pt bR 0 0) (pt b2 0 0) (pt bQ 0 0) m)=some (qnV (if c=true then none else some { q with dev:=ws.headD [],ifc:=ws.tail.headD [],hops:=(z:Nat),a:=a,b:=b,p:=p,m:=mm,n:=n }),m')∧Fb b2 m m':=by
    intro c
    obtain ⟨m9,m10,d1,d2,m11,d3,d4⟩:=Xvs ⟨TA (d + 6),18446744073709551616⟩ c2 c
    exact ⟨m11,by rw [d1,Xe,d2,Xe]; exact d3,F8.trans d4⟩
  -- the flag so far
  obtain ⟨B,hB⟩:∃ B,B=(bad || !Xy (ws.headD []) || !Xy (ws.tail.headD []) || ws.tail.tail.isEmpty):=⟨_,rfl⟩
  rw [← hB]
  have brt_t:∀ {α:Type} (a b s:Option α),brt (.bool true) a b s=a:=fun _ _ _=>rfl
  have brt_f:∀ {α:Type} (a b s:Option α),brt (.bool false) a b s=b:=fun _ _ _=>rfl
  cases B with
  | true =>
    obtain ⟨m',r1,r2⟩:=fin true
    refine ⟨m',?_,r2⟩
    rw [brt_t]
    simp only [a1,Xe,l7,X8b,Bool.and_true,X18,c1,X0]
    rw [r1]
    congr 3
    unfold resA A16
    cases bad with
    | true=>rfl
    | false =>
      cases n1:Xy (ws.headD []) with
      | false=>simp
      | true =>
        cases n2:Xy (ws.tail.headD []) with
        | false=>simp
        | true =>
          rw [n1,n2] at hB
          have he:ws.tail.tail.headD []=[]:=Xcc (by simpa using hB.symm)
          rw [he,num_nil]
          simp
  | false =>
    have hB:=hB.symm
    simp only [Bool.or_eq_false_iff,Bool.not_eq_false'] at hB
    obtain ⟨⟨⟨rfl,n1⟩,n2⟩,_⟩:=hB
    rw [brt_f]
    unfold resA A16
    rw [if_neg (show ¬ false=true by decide),if_pos (show Xy (ws.headD [])=true∧Xy (ws.tail.headD [])=true from ⟨n1,n2⟩),← hT]
    cases hnn:num 255 (ws.tail.tail.headD []) with
    | none =>
      obtain ⟨m',r1,r2⟩:=fin true
      refine ⟨m',?_,r2⟩
      rw [hnn] at a1
      simp only [Option.isSome_none,X1u,Bool.not_false,X0,brt_t,a1,Xe,l7,X8b,Bool.and_true,X18,c1]
      exact r1
    | some hh =>
      have hz:z=hh:=by show numV (num 255 (ws.tail.tail.headD []))=hh; rw [hnn]; rfl
      rw [hnn] at a1
      have e0:∀ c:Bool,bin .neq true true .int (I (if c=true then 0 else 4)) (.int .i64 0)=some (.bool !c):=fun c=>by cases c <;> exact Q1o _ _ _ _ _
      obtain ⟨m',r1,r2⟩:=fin (!(prH T).isSome)
      refine ⟨m',?_,r2⟩
      simp only [Option.isSome_some,X1u,Bool.not_true,X0,brt_f,e0,a1,Xe,l7,X8b,Bool.and_true,X18,c1]
      rw [r1]
      congr 3
      cases hx:prH T with
      | none=>rfl
      | some x =>
        rw [hx] at hhd
        have hhd:(a,mm,b,n,p)=x:=hhd
        subst hhd
        rw [hz]
        rfl
end Go.Ab.Sh

set_option maxRecDepth 100000
set_option linter.unusedSimpArgs false
set_option linter.unusedVariables false
namespace Go.Ab.Sh
open Go Go.Ab Go.Lib
variable {mW:Mem} {b2 bR bB bW bI bQ:Nat} {m:Mem} {ws:List Str} {bad dead:Bool} {q:QN}
def askK (k:Nat) (ws:List Str):Option QN:=
  if k=0 then none
  else if k ≤ 3 then A10 ws { q0 with kind:=k }
  else if k=4 then A16 ws { q0 with kind:=4 }
  else if k ≤ 6 then A17 ws { q0 with kind:=k }
  else A17o ws { q0 with kind:=7 }
def askW (ws:List Str):Option QN:=askK (posG 0 kindsL (ws.headD [])) ws.tail
theorem ask9 (d k:Nat) (hk:k ≤ 7) (h:PA mW b2 bR bB bW bI bQ m ws bad false { q0 with kind:=k }) (hn:ws.length ≤ 140737488355328) (hj:(Xw [32] ws).length ≤ 4194304):∃ m',Qdq ⟨TA (d + 6),18446744073709551616⟩ (.int .u8 (k:Int)) (fN bW bB) (pt bQ 0 0) (pt bW 0 0) (pt bB 0 0) (fP bI bW bB) (pt bI 0 0) (pt bR 0 0) (pt b2 0 0) m=some (qnV (resA bad (askK k ws)),m')∧Fb b2 m m':=by
  have way:k=1∨k=2∨k=3→∃ m',Q4g ⟨TA (d + 6),18446744073709551616⟩ (.bool true) (fN bW bB) (pt bQ 0 0) (pt bW 0 0) (pt bB 0 0) (fP bI bW bB) (pt bI 0 0) (pt bR 0 0) (pt b2 0 0) (.int .u8 (k:Int)) m=some (qnV (resA bad (askK k ws)),m')∧Fb b2 m m':=by
    intro hk3
    have e:askK k ws=A10 ws { q0 with kind:=k }:=by unfold askK; rw [if_neg (by omega),if_pos (by omega)]
    rw [e]
    exact Xvn d h (by show k < 256; omega) _
  unfold Qdq
  simp only [Qp,X0,X8]
  by_cases k1:k=1
  . rw [if_pos (by omega),decide_eq_true (by omega:(k:Int)=1)]
    exact way (.inl k1)
  rw [if_neg (by omega)]
  by_cases k2:k=2
  . rw [if_pos (by omega),decide_eq_true (by omega:(k:Int)=2)]
    exact way (.inr (.inl k2))
  rw [if_neg (by omega)]
  by_cases k3:k=3
  . rw [decide_eq_true (by omega:(k:Int)=3)]
    exact way (.inr (.inr k3))
  rw [decide_eq_false (by omega:¬ (k:Int)=3)]
  unfold Q4g
  simp only [Xb,Qp,X0]
  by_cases k4:k=4
  . subst k4
    rw [decide_eq_true (by decide:((4:Nat):Int)=4)]
    have e:askK 4 ws=A16 ws { q0 with kind:=4 }:=rfl
    rw [e]
    exact Xt9 d h hn hj _
  rw [decide_eq_false (by omega:¬ (k:Int)=4)]
  unfold Q9y
  simp only [Xb,Qp,X0,X8]
  by_cases k5:k=5
  . rw [if_pos (by omega),decide_eq_true (by omega:(k:Int)=5)]
    have e:askK k ws=A17 ws { q0 with kind:=k }:=by unfold askK; rw [if_neg (by omega),if_neg (by omega),if_neg (by omega),if_pos (by omega)]
    rw [e]
    exact Xqj d h _
  rw [if_neg (by omega)]
  by_cases k6:k=6
  . rw [decide_eq_true (by omega:(k:Int)=6)]
    have e:askK k ws=A17 ws { q0 with kind:=k }:=by unfold askK; rw [if_neg (by omega),if_neg (by omega),if_neg (by omega),if_pos (by omega)]
    rw [e]
    exact Xqj d h _
  rw [decide_eq_false (by omega:¬ (k:Int)=6)]
  by_cases k7:k=7
  . subst k7
    have e:askK 7 ws=A17o ws { q0 with kind:=7 }:=rfl
    rw [e]
    exact Xui d h
  . obtain rfl:k=0:=by omega
    have e:resA bad (askK 0 ws)=none:=by unfold resA askK; split <;> rfl
    rw [e]
    exact Xt6 d h
theorem aBak (k:Nat):Xn Qj [(0,1),(1,1),(2,1),(3,1),(4,1),(5,10),(15,5),(20,1),(21,1)] [(0,(.int .u8 (k:Int)))]=some (qV { q0 with kind:=k }):=Eq.trans rfl rfl
theorem c_askParse (s:Str) (hs:s.length ≤ 4194304) (d:Nat) (m:Mem):TA (d + 7) Q7j [sv s] m=some (qnV (askW (split 32 s)),m):=by
  rw [Xhj]
  let M:=(X4 m m.next).push (.cells Qj 0 0 false tyA)
  have g0:M.get m.next=some (.cells Qj 0 0 false tyA):=Xl (X4 m m.next) _
  have F0:Fb m.next (X4 m m.next) M:=Fb.push _ (Nat.le_refl _)
  have nM:M.next=m.next + 1:=rfl
  have go:∃ m1,Qdr ⟨TA (d + 6),18446744073709551616⟩ (sv s) (pt m.next 0 0) M=some (qnV (askW (split 32 s)),m1)∧Fb m.next M m1:=by
    obtain ⟨v,mW,w1,w2,w3,_⟩:=c_Split s hs 32 (d + 3) M
    have w1:TA (d + 6) Q2m [sv s,.string ⟨#[32]⟩] M=some (v,mW):=w1
    have hl:(split 32 s).length ≤ 140737488355328:=by
      have:=X60 32 s.length s (Nat.le_refl _)
      have:=List.count_le_length (a:=(32:UInt8)) (l:=s)
      omega
    have hj:(Xw [32] (split 32 s)).length ≤ 4194304:=by
      have:=(split_eq_iff.mp (rfl:split 32 s=split 32 s)).2.1
      rw [← this]; exact hs
    have hw:∀ w ∈ split 32 s,w.length ≤ 4194304:=fun w hw=>by have:=X2k 32 s w hw; omega
    generalize split 32 s=ws at *
    have gW:mW.get m.next=some (.cells Qj 0 0 false tyA):=by rw [w2.get _ (by omega) (by simp)]; exact g0
    have nW:=w2.next
    have FW:Fb m.next M mW:=w2.toFb (by omega)
    obtain ⟨vc,vo⟩:=Xjy w3
    -- the variables
    let mP:=(mW.push (.cells [(.slice none 0 0)] 0 0 false tyR)).push (.cells [(.bool false)] 0 0 false tyB)
    have nP:mP.next=mW.next + 2:=rfl
    have fP:Fr [] mW mP:=(Fr.push _).trans (Fr.push _)
    have gR0:mP.get mW.next=some (.cells [(.slice none 0 0)] 0 0 false tyR):=by
      show ((mW.push (.cells [(.slice none 0 0)] 0 0 false tyR)).push (.cells [(.bool false)] 0 0 false tyB)).get mW.next=_
      rw [Mem.get_push,if_neg (by show ¬ mW.next + 1=mW.next; omega),Mem.get_push,if_pos rfl]
    have gB0:mP.get (mW.next + 1)=some (.cells [(.bool false)] 0 0 false tyB):=Xl (mW.push (.cells [(.slice none 0 0)] 0 0 false tyR)) _
    obtain ⟨m1,s1,f1,n1,r1,o1⟩:=X2d (W:=[]) (o:=0) (n:=1) (cs':=[v]) fP gR0 v (by rw [vc]; rfl) (by rw [vc]; simp [vo]) (by show 1 ≤ 1; omega) (by rw [vc]; rfl) (.inr (Nat.le_refl _))
    have gB1:m1.get (mW.next + 1)=some (.cells [(.bool false)] 0 0 false tyB):=by rw [o1 _ (by omega)]; exact gB0
    obtain ⟨m2,s2,f2,n2,r2,o2⟩:=X2d (W:=[]) (o:=0) (n:=1) (cs':=[.bool false]) f1 gB1 (.bool false) rfl rfl (by show 1 ≤ 1; omega) rfl (.inr (by omega))
    have gR2:m2.get mW.next=some (.cells [v] 0 0 false tyR):=by rw [o2 _ (by omega)]; exact r1
    have nn2:m2.next=mW.next + 2:=by rw [n2,n1,nP]
    obtain ⟨m3,s3,f3,n3,r3⟩:=X1f [] m2 tyW [.nilFunc] (v:=fW mW.next (mW.next + 1)) (n:=1) rfl rfl rfl
    obtain ⟨m4,s4,f4,n4,r4⟩:=X1f [] m3 tyI [.nilFunc] (v:=fI mW.next) (n:=1) rfl rfl rfl
    have f24:Fr [] m2 m4:=f3.trans f4
    have fW4:Fr [] mW m4:=f2.trans f24
    rw [nn2] at r3 s3 n3
    rw [n3] at r4 s4 n4
    have hA:AS mW mW.next (mW.next + 1) (mW.next + 2) (mW.next + 2 + 1) m4 ws false:={
      nx:=fW4.next
      gt:=fun b hb=>fW4.get b hb (by simp)
      gR:=⟨v,w3,by rw [f24.get _ (by omega) (by simp)]; exact gR2⟩
      gB:=by rw [f24.get _ (by omega) (by simp)]; exact r2
      gW:=by rw [f4.get _ (by omega) (by simp)]; exact r3
      gI:=r4
      hw:=hw
      lR:=by omega
      lB:=by omega
      lW:=by omega
      lI:=by omega
      nR:=by omega
      nB:=by omega
      nW:=by omega
      nI:=by omega
      rb:=by omega
      wr:=by omega
      wb:=by omega
      ir:=by omega
      ib:=by omega }
    obtain ⟨m5,u1,u2,u3⟩:=c_word hA (d + 5)
    have u1:Xi (TA (d + 6)) (fW mW.next (mW.next + 1)) [] m4=some (sv (ws.headD []),m5):=u1
    have n5:=u2.next
    have hpos:=X4d kindsL 0 (ws.headD [])
    have hkl:kindsL.length=7:=rfl
    have cp:TA (d + 6) Q3y [sv X61,sv (ws.headD [])] m5=some (I (posG 0 kindsL (ws.headD []):Nat),m5):=c_placeK (ws.headD []) (d + 4) m5
    have hE:askW ws=askK (posG 0 kindsL (ws.headD [])) ws.tail:=rfl
    have hnone:ws=[]→askW ws=none:=by rintro rfl; rfl
    rw [hE] at hnone ⊢
    generalize posG 0 kindsL (ws.headD [])=k at *
    have wr:IntKind.u8.wrap (k:Int)=(k:Int):=by rw [IntWalk.u8_in _ (by omega)]
    obtain ⟨m6,t1,t2,t3,t4⟩:=X1f [] m5 tyA Qj (v:=qV { q0 with kind:=k }) (n:=22) rfl rfl rfl
    have hA6:=u3.frW t2 (by simp)
    have f5:Fb m.next M m5:=(FW.trans (fW4.toFb (by omega))).trans (u2.toFbW (by simp; omega) (by omega))
    have f6:Fb m.next M m6:=f5.trans (t2.toFb (by omega))
    have hP:PA mW m.next mW.next (mW.next + 1) (mW.next + 2) (mW.next + 2 + 1) m5.next m6 ws.tail (false || ws.isEmpty) false { q0 with kind:=k }:={
      a:=hA6
      g2:=by rw [t2.get _ (by omega) (by simp),u2.get _ (by omega) (by simp; omega),fW4.get _ (by omega) (by simp)]; exact gW
      gQ:=⟨_,t4,rfl,fun _=>rfl⟩
      w2:=by omega
      wQ:=by omega
      nQ:=by omega
      q1:=by omega
      q2:=by omega
      q3:=by omega
      q4:=by omega }
    have l0:X6 false 1 (pt m5.next (0 + 0) 0) m6=some (.int .u8 (k:Int)):=Xo t4 rfl
    obtain ⟨m7,z1,z2⟩:=ask9 d k (by omega) hP (by simp; omega) (Nat.le_trans (X6h 32 _) hj)
    refine ⟨m7,?_,f6.trans z2⟩
    have hres:resA (false || ws.isEmpty) (askK k ws.tail)=askK k ws.tail:=by
      cases he:ws.isEmpty with
      | false=>rfl
      | true=>rw [hnone (by simpa using he)]; rfl
    rw [hres] at z1
    have ld3:X6 false 1 (pt (mW.next + 2) 0 0) m4=some (fW mW.next (mW.next + 1)):=Xo hA.gW rfl
    unfold Qdr Qf9 Qfa Qfb Qfc Qfd Qfe
    dsimp only
    rw [w1,X5,Xh,Xh]
    have s1:X7 1 (pt mW.next 0 0) v ((mW.push (.cells [(.slice none 0 0)] 0 0 false tyR)).push (.cells [(.bool false)] 0 0 false tyB))=some m1:=s1
    show bp (unt (X7 1 (pt mW.next 0 0) v ((mW.push (.cells [(.slice none 0 0)] 0 0 false tyR)).push (.cells [(.bool false)] 0 0 false tyB)))) _=_
    rw [s1,Xe]
    have s2:X7 1 (pt (mW.push (.cells [(.slice none 0 0)] 0 0 false tyR)).next 0 0) (.bool false) m1=some m2:=s2
    rw [s2,Xe,Xh]
    rw [show m2.next=mW.next + 2 from nn2]
    have s3:X7 1 (pt (mW.next + 2) 0 0) (.func (.func Q86) ⟨[]⟩ ⟨[pt mW.next 0 0,pt (mW.push (.cells [(.slice none 0 0)] 0 0 false tyR)).next 0 0]⟩) (m2.push (.cells [.nilFunc] 0 0 false (some (2 * Qf8 + 1))))=some m3:=s3
    rw [s3,Xe,Xh]
    rw [show m3.next=mW.next + 2 + 1 from n3]
    have s4:X7 1 (pt (mW.next + 2 + 1) 0 0) (.func (.func Q87) ⟨[]⟩ ⟨[pt mW.next 0 0]⟩) (m3.push (.cells [.nilFunc] 0 0 false (some (2 * Qd2 + 1))))=some m4:=s4
    rw [s4,Xe,ld3,X0,u1,X5]
    show bp (TA (d + 6) Q3y [sv X61,sv (ws.headD [])] m5) _=_
    rw [cp,X5]
    rw [show conv (.int .u8) (I (k:Nat)) m5=some (.int .u8 (k:Int),m5) by rw [c_int,wr],X5,aBak,X0,Xh]
    have t1:X7 22 (pt m5.next 0 0) (qV { q0 with kind:=k }) (m5.push (.cells Qj 0 0 false (some (2 * Q12 + 1))))=some m6:=t1
    rw [t1,Xe,Xg,X0,l0,X0]
    exact z1
  obtain ⟨m1,k1,k2⟩:=go
  refine Xq (m1:=m1) ?_ (F0.trans k2) (Xjm _ _)
  unfold Qbq
  rw [Xh]
  exact k1
end Go.Ab.Sh

set_option maxRecDepth 100000
set_option linter.unusedSimpArgs false
set_option linter.unusedVariables false
namespace Go.Ab
open Go Go.Lib Go.Ab.Sh
theorem Xjw {ws:List Str} {w:Str} (h:ws.head?=some w) (ht:ws.tail ≠ []):ws=w :: ws.tail.headD [] :: ws.tail.tail:=by
  match ws,h,ht with
  | [],h,_=>cases h
  | [a],_,ht=>exact absurd rfl ht
  | a :: b :: l,h,_ =>
    have:a=w:=by simpa using h
    subst this
    rfl
theorem X77 {ws:List Str} (h:ws ≠ []):ws=ws.headD [] :: ws.tail:=by
  cases ws with
  | nil=>exact absurd rfl h
  | cons a l=>rfl
theorem Xc4 {ws:List Str} {q q':QN} (h:A7 ws q=some q'):ws=[]∧q'=q:=by
  unfold A7 at h
  split at h
  . rename_i e; cases h; exact ⟨e,rfl⟩
  . cases h
theorem Xjf {l:List Str} {x:Nat × Nat} (h:X1v (l.headD [])=some x):l ≠ []:=by
  rintro rfl
  cases h
theorem Xjh {ws:List Str} {q q':QN} (d1:q.r.dl=0) (d2:q.r.dh=65535) (h:A15 ws q=some q'):∃ dl dh,dl ≤ dh∧dh ≤ 65535∧q'={ q with r:={ q.r with dl:=dl,dh:=dh } }∧ws=optW (cD q'.r) dportsW (Xu dl dh):=by
  unfold A15 at h
  split at h
  . rename_i hx
    split at h
    . cases h
    . rename_i a b hp
      obtain ⟨h7,rfl⟩:=Xc4 h
      obtain ⟨e1,e2,e3,e4⟩:=portsP_iff.mp hp
      refine ⟨a,b,e2,e3,rfl,?_⟩
      have hc:cD { q.r with dl:=a,dh:=b }=true:=by
        unfold cD
        exact decide_eq_true (by simp only; omega)
      rw [Xjw hx (Xjf hp),h7,e1]
      show _=optW (cD { q.r with dl:=a,dh:=b }) dportsW (Xu a b)
      rw [hc]
      rfl
  . obtain ⟨h7,rfl⟩:=Xc4 h
    refine ⟨0,65535,by omega,by omega,?_,?_⟩
    . obtain ⟨k,dv,ic,vr,en,r,a,b,p,m,n,ho,ad⟩:=q'
      obtain ⟨pm,pr,sa,sb,da,db,sl,sh,dl,dh⟩:=r
      simp only at d1 d2
      subst d1 d2
      rfl
    . have hc:cD q'.r=false:=by
        unfold cD
        exact decide_eq_false (by rw [d1,d2]; decide)
      rw [hc,h7]
      rfl
theorem Xj7 {ws:List Str} {q q':QN} (s1:q.r.sl=0) (s2:q.r.sh=65535) (d1:q.r.dl=0) (d2:q.r.dh=65535) (h:A14 ws q=some q'):∃ sl sh dl dh,sl ≤ sh∧sh ≤ 65535∧dl ≤ dh∧dh ≤ 65535∧q'={ q with r:={ q.r with sl:=sl,sh:=sh,dl:=dl,dh:=dh } }∧ws=optW (cS q'.r) sportsW (Xu sl sh) ++ optW (cD q'.r) dportsW (Xu dl dh):=by
  unfold A14 at h
  split at h
  . rename_i hx
    split at h
    . cases h
    . rename_i a b hp
      obtain ⟨dl,dh,c1,c2,rfl,c4⟩:=Xjh (by exact d1) (by exact d2) h
      obtain ⟨e1,e2,e3,e4⟩:=portsP_iff.mp hp
      refine ⟨a,b,dl,dh,e2,e3,c1,c2,rfl,?_⟩
      have hc:cS { q.r with sl:=a,sh:=b,dl:=dl,dh:=dh }=true:=by
        unfold cS
        exact decide_eq_true (by simp only; omega)
      rw [Xjw hx (Xjf hp),c4,e1]
      show _=optW (cS { q.r with sl:=a,sh:=b,dl:=dl,dh:=dh }) sportsW (Xu a b) ++ _
      rw [hc]
      rfl
  . obtain ⟨dl,dh,c1,c2,rfl,c4⟩:=Xjh d1 d2 h
    refine ⟨0,65535,dl,dh,by omega,by omega,c1,c2,?_,?_⟩
    . obtain ⟨k,dv,ic,vr,en,r,a,b,p,m,n,ho,ad⟩:=q
      obtain ⟨pm,pr,sa,sb,da,db,sl,sh,dl,dh⟩:=r
      simp only at s1 s2
      subst s1 s2
      rfl
    . have hc:cS { q.r with dl:=dl,dh:=dh }=false:=by
        unfold cS
        exact decide_eq_false (by simp only; rw [s1,s2]; decide)
      show _=optW (cS { q.r with dl:=dl,dh:=dh }) _ _ ++ _
      rw [hc]
      exact c4
theorem Xqb {l:List Str} {n:Nat} (h:num 255 (l.headD [])=some n):l ≠ []:=by
  rintro rfl
  rw [show ([]:List Str).headD []=[] from rfl,num_nil] at h
  cases h
theorem Xop {ws:List Str} {q q':QN} (p1:q.r.proto=-1) (s1:q.r.sl=0) (s2:q.r.sh=65535) (d1:q.r.dl=0) (d2:q.r.dh=65535) (h:A13 ws q=some q'):∃ (pr:Int) (sl sh dl dh:Nat),(pr=-1∨(0 ≤ pr∧pr ≤ 255))∧sl ≤ sh∧sh ≤ 65535∧dl ≤ dh∧dh ≤ 65535∧q'={ q with r:={ q.r with proto:=pr,sl:=sl,sh:=sh,dl:=dl,dh:=dh } }∧ws=optW (cP q'.r) protoW (itoa pr) ++ (optW (cS q'.r) sportsW (Xu sl sh) ++ optW (cD q'.r) dportsW (Xu dl dh)):=by
  unfold A13 at h
  split at h
  . rename_i hx
    split at h
    . cases h
    . rename_i n hp
      obtain ⟨sl,sh,dl,dh,c1,c2,c3,c4,rfl,c6⟩:=Xj7 (by exact s1) (by exact s2) (by exact d1) (by exact d2) h
      obtain ⟨e1,e2⟩:=num_some.mp hp
      refine ⟨(n:Nat),sl,sh,dl,dh,.inr ⟨by omega,by omega⟩,c1,c2,c3,c4,rfl,?_⟩
      have hc:cP { q.r with proto:=(n:Nat),sl:=sl,sh:=sh,dl:=dl,dh:=dh }=true:=by
        unfold cP
        exact decide_eq_true (by show ((n:Nat):Int) ≠ -1; omega)
      rw [Xjw hx (Xqb hp),c6,e1,X21]
      show _=optW (cP { q.r with proto:=(n:Nat),sl:=sl,sh:=sh,dl:=dl,dh:=dh }) _ _ ++ _
      rw [hc]
      rfl
  . obtain ⟨sl,sh,dl,dh,c1,c2,c3,c4,rfl,c6⟩:=Xj7 s1 s2 d1 d2 h
    refine ⟨-1,sl,sh,dl,dh,.inl rfl,c1,c2,c3,c4,?_,?_⟩
    . obtain ⟨k,dv,ic,vr,en,r,a,b,p,m,n,ho,ad⟩:=q
      obtain ⟨pm,pr,sa,sb,da,db,sl,sh,dl,dh⟩:=r
      simp only at p1
      subst p1
      rfl
    . have hc:cP { q.r with sl:=sl,sh:=sh,dl:=dl,dh:=dh }=false:=by
        unfold cP
        exact decide_eq_false (by simp only; rw [p1]; decide)
      show _=optW (cP { q.r with sl:=sl,sh:=sh,dl:=dl,dh:=dh }) _ _ ++ _
      rw [hc]
      exact c6
theorem Xh6 {x:Str} {ws ws':List Str} {a b:Nat} (h:prfO x ws=some (a,b,ws')):(a < 4294967296∧b ≤ 32∧a % 2 ^ (32 - b)=0)∧ws=optW (decide (((b:Nat):Int) ≠ 0)) x (X1c a (b:Nat)) ++ ws':=by
  unfold prfO at h
  split at h
  . rename_i hx
    split at h
    . rename_i hc
      cases h
      obtain ⟨e1,e2,e3,e4⟩:=prefP_iff.mp (show prefP (ws.tail.headD [])=((prefP (ws.tail.headD [])).1,(prefP (ws.tail.headD [])).2.1,0) by rw [← hc.1])
      have hne:ws.tail ≠ []:=by
        intro e
        rw [e] at hc
        exact absurd hc.1 (by decide)
      refine ⟨⟨e2,e3,e4⟩,?_⟩
      have hd:decide ((((prefP (ws.tail.headD [])).2.1:Nat):Int) ≠ 0)=true:=decide_eq_true (by have:=hc.2; omega)
      rw [hd,← e1]
      exact Xjw hx hne
    . cases h
  . cases h
    exact ⟨⟨by omega,by omega,rfl⟩,rfl⟩
theorem Xjv {ws:List Str} {q q':QN} (hr:q.r=rlH) (h:A12 ws q=some q'):∃ r,GoodR r∧q'={ q with r:=r }∧ws=X1b r:=by
  unfold A12 at h
  cases ho:prfO fromW ws with
  | none=>rw [ho] at h; cases h
  | some x =>
    obtain ⟨a,b,ws1⟩:=x
    rw [ho] at h
    simp only at h
    cases ho2:prfO toW ws1 with
    | none=>rw [ho2] at h; cases h
    | some y =>
      obtain ⟨c,e,ws2⟩:=y
      rw [ho2] at h
      simp only at h
      obtain ⟨⟨f1,f2,f3⟩,f4⟩:=Xh6 ho
      obtain ⟨⟨g1,g2,g3⟩,g4⟩:=Xh6 ho2
      obtain ⟨pr,sl,sh,dl,dh,c1,c2,c3,c4,c5,rfl,c7⟩:=Xop (by show q.r.proto=-1; rw [hr]; rfl) (by show q.r.sl=0; rw [hr]; rfl) (by show q.r.sh=65535; rw [hr]; rfl) (by show q.r.dl=0; rw [hr]; rfl) (by show q.r.dh=65535; rw [hr]; rfl) h
      refine ⟨⟨true,pr,a,(b:Nat),c,(e:Nat),sl,sh,dl,dh⟩,⟨rfl,c1,⟨by simp only; omega,by simp only; omega⟩,f1,f3,⟨by simp only; omega,by simp only; omega⟩,g1,g3,c2,c3,c4,c5⟩,?_,?_⟩
      . rw [hr]
        rfl
      . rw [f4,g4,c7]
        unfold X1b
        simp only [List.append_assoc]
        rfl
end Go.Ab

set_option maxRecDepth 100000
set_option linter.unusedSimpArgs false
set_option linter.unusedVariables false
namespace Go.Ab
open Go Go.Lib Go.Ab.Sh
theorem Xer:∀ (ws:List Str) (i:Nat) (s:Str),posG i ws s ≠ 0→∃ j,posG i ws s=i + j + 1∧ws[j]?=some s
  | [],i,s,h=>absurd rfl h
  | w :: ws,i,s,h=>by
    unfold posG at h ⊢
    by_cases e:s=w
    . rw [if_pos e]
      exact ⟨0,rfl,by rw [e]; rfl⟩
    . rw [if_neg e] at h ⊢
      obtain ⟨j,h1,h2⟩:=Xer ws (i + 1) s h
      exact ⟨j + 1,by omega,h2⟩
theorem Xsk {s:Str} (h:posG 0 kindsL s ≠ 0):s=X16 (posG 0 kindsL s):=by
  obtain ⟨j,h1,h2⟩:=Xer kindsL 0 s h
  unfold X16
  rw [h1,show 0 + j + 1 - 1=j by omega,List.getD_eq_getElem?_getD,h2]
  rfl
theorem Xsy {s:Str} (h:posG 0 endsL s ≠ 0):s=endW (posG 0 endsL s):=by
  obtain ⟨j,h1,h2⟩:=Xer endsL 0 s h
  unfold endW
  rw [h1,show 0 + j + 1 - 1=j by omega,List.getD_eq_getElem?_getD,h2]
  rfl
theorem X9z {l:List Str} (h:Xy (l.headD [])=true):l ≠ []:=by
  rintro rfl
  cases h
theorem Xtk {l:List Str} (h:posG 0 endsL (l.headD []) ≠ 0):l ≠ []:=by
  rintro rfl
  exact absurd rfl h
theorem Xse {l:List Str} (h:posG 0 kindsL (l.headD []) ≠ 0):l ≠ []:=by
  rintro rfl
  exact absurd rfl h
theorem Xq6 {ws:List Str} {q:QN} (h32:∀ w ∈ ws,(32:UInt8) ∉ w) (h:askW ws=some q):GoodQ q∧ws=X17 q:=by
  unfold askW askK at h
  have hpos:=X4d kindsL 0 (ws.headD [])
  have hkl:kindsL.length=7:=rfl
  by_cases k0:posG 0 kindsL (ws.headD [])=0
  . rw [if_pos k0] at h; cases h
  rw [if_neg k0] at h
  have hk:=Xsk k0
  have hws:=X77 (Xse k0)
  generalize posG 0 kindsL (ws.headD [])=k at *
  generalize ws.headD []=w at *
  subst hk
  have h32':∀ x ∈ ws.tail,(32:UInt8) ∉ x:=fun x hx=>h32 x (List.mem_of_mem_tail hx)
  generalize ws.tail=l at *
  subst hws
  clear h32
  by_cases k3:k ≤ 3
  . rw [if_pos k3] at h
    unfold A10 at h
    split at h
    . rename_i hn
      have e1:=X77 (X9z hn.1)
      have e2:=X77 (X9z hn.2)
      unfold A11 at h
      simp only at h
      by_cases kk:k < 3
      . rw [if_pos kk] at h
        split at h
        . cases h
        . rename_i he
          have e3:=X77 (Xtk he)
          have e4:=Xsy he
          obtain ⟨r,hr,rfl,e5⟩:=Xjv rfl h
          have hel:=X4d endsL 0 (l.tail.tail.headD [])
          have hll:endsL.length=7:=rfl
          refine ⟨GoodQ.way k (l.headD []) (l.tail.headD []) (posG 0 endsL (l.tail.tail.headD [])) r (by omega) hn.1 hn.2 (by omega) (by omega) hr,?_⟩
          unfold X17
          rw [if_pos (show k ≤ 2 by omega)]
          show X16 k :: l=X16 k :: l.headD [] :: l.tail.headD [] :: endW _ :: X1b r
          rw [← e4,← e5,← e3,← e2,← e1]
      . rw [if_neg kk] at h
        obtain ⟨r,hr,rfl,e5⟩:=Xjv rfl h
        obtain rfl:k=3:=by omega
        refine ⟨GoodQ.loop _ _ r hn.1 hn.2 hr,?_⟩
        show X16 3 :: l=X16 3 :: l.headD [] :: l.tail.headD [] :: X1b r
        rw [← e5,← e2,← e1]
    . cases h
  rw [if_neg k3] at h
  by_cases k4:k=4
  . rw [if_pos k4] at h
    subst k4
    unfold A16 at h
    split at h
    . rename_i hn
      have e1:=X77 (X9z hn.1)
      have e2:=X77 (X9z hn.2)
      split at h
      . rename_i hh a m b n p f1 f2
        cases h
        have e3:=X77 (Xqb f1)
        obtain ⟨g1,g2⟩:=num_some.mp f1
        have hb:=prH_iff.mp f2
        refine ⟨GoodQ.trace _ _ hh a b p m n hn.1 hn.2 g2 hb.2,?_⟩
        have e4:l.tail.tail.tail=[endT a m,endT b n,decDigits p]:=by
          have hne:l.tail.tail.tail ≠ []:=by
            intro e
            rw [e] at f2
            cases f2
          have s1:split 32 (Xw [32] l.tail.tail.tail)=l.tail.tail.tail:=split_eq_iff.mpr ⟨hne,rfl,fun w hw=>h32' w (List.mem_of_mem_tail (List.mem_of_mem_tail (List.mem_of_mem_tail hw)))⟩
          rw [← s1,hb.1,X8y,X5q _ (X47 a m),X5q _ (X47 b n),Xbr (X2i p 32 d32)]
        show X16 4 :: l=X16 4 :: l.headD [] :: l.tail.headD [] :: itoa (hh:Nat) :: [endT a m,endT b n,decDigits p]
        rw [X21,← g1,← e4,← e3,← e2,← e1]
      . cases h
    . cases h
  rw [if_neg k4] at h
  by_cases k6:k ≤ 6
  . rw [if_pos k6] at h
    unfold A17 at h
    split at h
    . rename_i hn
      have e1:=X77 (X9z hn)
      split at h
      . rename_i hv
        split at h
        . rename_i hn2
          obtain ⟨h7,rfl⟩:=Xc4 h
          have e2:=X77 (X9z hn2)
          have hne:l.tail ≠ []:=by intro e; rw [e] at hv; cases hv
          have e3:l.tail=vrfW :: l.tail.tail:=by
            cases hl:l.tail with
            | nil=>exact absurd hl hne
            | cons a b=>rw [hl] at hv; simp at hv; subst hv; rfl
          refine ⟨GoodQ.tableV k _ _ (by omega) hn hn2,?_⟩
          unfold X17
          rw [if_neg (show ¬ k ≤ 2 by omega),if_neg (show ¬ k=3 by omega),if_neg k4,if_pos k6,if_pos (Xbx hn2)]
          show X16 k :: l=[X16 k,l.headD [],vrfW,l.tail.tail.headD []]
          rw [h7] at e2
          rw [← e2,← e3,← e1]
        . cases h
      . obtain ⟨h7,rfl⟩:=Xc4 h
        refine ⟨GoodQ.table k _ (by omega) hn,?_⟩
        have hT:X17 { q0 with kind:=k,dev:=l.headD [] }=[X16 k,l.headD []]:=by
          unfold X17
          rw [if_neg (show ¬ k ≤ 2 by omega),if_neg (show ¬ k=3 by omega),if_neg (show ¬ k=4 by omega),if_pos (show k ≤ 6 by omega)]
          rfl
        refine Eq.trans ?_ hT.symm
        rw [h7] at e1
        rw [← e1]
    . cases h
  rw [if_neg k6] at h
  obtain rfl:k=7:=by omega
  unfold A17o at h
  split at h
  . cases h
  . rename_i a ha
    obtain ⟨h7,rfl⟩:=Xc4 h
    obtain ⟨g1,g2⟩:=addrP_iff.mp ha
    have hne:l ≠ []:=by
      rintro rfl
      rw [show ([]:List Str).headD []=[] from rfl,Xgd] at ha
      cases ha
    have e1:=X77 hne
    refine ⟨GoodQ.owner a g2,?_⟩
    show X16 7 :: l=[X16 7,X1j a]
    rw [h7,g1] at e1
    rw [e1]
end Go.Ab

set_option maxRecDepth 100000
set_option linter.unusedSimpArgs false
set_option linter.unusedVariables false
namespace Go.Ab
open Go Go.Lib Go.Ab.Sh
theorem X6a (c:Bool) (w v:Str) (rest:List Str):(optW c w v ++ rest).head?=if c=true then some w else rest.head?:=by
  cases c <;> rfl
theorem X8g (c:Bool) (w v:Str):(optW c w v).head?=if c=true then some w else none:=by
  cases c <;> rfl
theorem Xsr {dl dh:Nat} (h1:dl ≤ dh) (h2:dh ≤ 65535) {q:QN} (d1:q.r.dl=0) (d2:q.r.dh=65535):A15 (optW (decide (dl ≠ 0∨dh ≠ 65535)) dportsW (Xu dl dh)) q=some { q with r:={ q.r with dl:=dl,dh:=dh } }:=by
  by_cases hc:dl ≠ 0∨dh ≠ 65535
  . rw [decide_eq_true hc]
    show A15 [dportsW,Xu dl dh] q=_
    unfold A15
    rw [if_pos (show ([dportsW,Xu dl dh]:List Str).head?=some dportsW from rfl)]
    show (match X1v (Xu dl dh) with | none=>none | some (a,b)=>A7 [] { q with r:={ q.r with dl:=a,dh:=b } })=_
    rw [portsP_iff.mpr ⟨rfl,h1,h2,by omega⟩]
    rfl
  . rw [decide_eq_false hc]
    simp only [not_or,Decidable.not_not] at hc
    obtain ⟨rfl,rfl⟩:=hc
    obtain ⟨k,dv,ic,vr,en,r,a,b,p,m,n,ho,ad⟩:=q
    obtain ⟨pm,pr,sa,sb,da,db,sl,sh,dl,dh⟩:=r
    simp only at d1 d2
    subst d1 d2
    rfl
theorem Xt2 {sl sh dl dh:Nat} (s1:sl ≤ sh) (s2:sh ≤ 65535) (h1:dl ≤ dh) (h2:dh ≤ 65535) {q:QN} (e1:q.r.sl=0) (e2:q.r.sh=65535) (d1:q.r.dl=0) (d2:q.r.dh=65535):A14 (optW (decide (sl ≠ 0∨sh ≠ 65535)) sportsW (Xu sl sh) ++ optW (decide (dl ≠ 0∨dh ≠ 65535)) dportsW (Xu dl dh)) q=some { q with r:={ q.r with sl:=sl,sh:=sh,dl:=dl,dh:=dh } }:=by
  by_cases hc:sl ≠ 0∨sh ≠ 65535
  . rw [decide_eq_true hc]
    show A14 (sportsW :: Xu sl sh :: optW (decide (dl ≠ 0∨dh ≠ 65535)) dportsW (Xu dl dh)) q=_
    unfold A14
    rw [if_pos (show (sportsW :: Xu sl sh :: optW (decide (dl ≠ 0∨dh ≠ 65535)) dportsW (Xu dl dh)).head?=some sportsW from rfl)]
    show (match X1v (Xu sl sh) with | none=>none | some (a,b)=>A15 (optW (decide (dl ≠ 0∨dh ≠ 65535)) dportsW (Xu dl dh)) { q with r:={ q.r with sl:=a,sh:=b } })=_
    rw [portsP_iff.mpr ⟨rfl,s1,s2,by omega⟩]
    exact Xsr h1 h2 d1 d2
  . rw [decide_eq_false hc]
    show A14 (optW (decide (dl ≠ 0∨dh ≠ 65535)) dportsW (Xu dl dh)) q=_
    unfold A14
    rw [if_neg (by rw [X8g]; split <;> decide),Xsr h1 h2 d1 d2]
    simp only [not_or,Decidable.not_not] at hc
    obtain ⟨rfl,rfl⟩:=hc
    obtain ⟨k,dv,ic,vr,en,r,a,b,p,m,n,ho,ad⟩:=q
    obtain ⟨pm,pr,sa,sb,da,db,sl,sh,dl,dh⟩:=r
    simp only at e1 e2
    subst e1 e2
    rfl
theorem Xv1 {pr:Int} {sl sh dl dh:Nat} (hp:pr=-1∨(0 ≤ pr∧pr ≤ 255)) (s1:sl ≤ sh) (s2:sh ≤ 65535) (h1:dl ≤ dh) (h2:dh ≤ 65535) {q:QN} (ep:q.r.proto=-1) (e1:q.r.sl=0) (e2:q.r.sh=65535) (d1:q.r.dl=0) (d2:q.r.dh=65535):A13 (optW (decide (pr ≠ -1)) protoW (itoa pr) ++ (optW (decide (sl ≠ 0∨sh ≠ 65535)) sportsW (Xu sl sh) ++ optW (decide (dl ≠ 0∨dh ≠ 65535)) dportsW (Xu dl dh))) q=some { q with r:={ q.r with proto:=pr,sl:=sl,sh:=sh,dl:=dl,dh:=dh } }:=by
  by_cases hc:pr ≠ -1
  . rw [decide_eq_true hc]
    obtain ⟨f1,f2⟩:=hp.resolve_left hc
    obtain ⟨n,rfl⟩:=Int.eq_ofNat_of_zero_le f1
    show A13 (protoW :: itoa ((n:Nat):Int) :: (optW (decide (sl ≠ 0∨sh ≠ 65535)) sportsW (Xu sl sh) ++ optW (decide (dl ≠ 0∨dh ≠ 65535)) dportsW (Xu dl dh))) q=_
    unfold A13
    rw [if_pos (show (protoW :: itoa ((n:Nat):Int) :: (optW (decide (sl ≠ 0∨sh ≠ 65535)) sportsW (Xu sl sh) ++ optW (decide (dl ≠ 0∨dh ≠ 65535)) dportsW (Xu dl dh))).head?=some protoW from rfl)]
    show (match num 255 (itoa ((n:Nat):Int)) with | none=>none | some n=>A14 (optW (decide (sl ≠ 0∨sh ≠ 65535)) sportsW (Xu sl sh) ++ optW (decide (dl ≠ 0∨dh ≠ 65535)) dportsW (Xu dl dh)) { q with r:={ q.r with proto:=(n:Nat) } })=_
    rw [X21,X2a (by have:((n:Nat):Int) ≤ 255:=f2; omega)]
    exact Xt2 s1 s2 h1 h2 e1 e2 d1 d2
  . rw [decide_eq_false hc]
    show A13 (optW (decide (sl ≠ 0∨sh ≠ 65535)) sportsW (Xu sl sh) ++ optW (decide (dl ≠ 0∨dh ≠ 65535)) dportsW (Xu dl dh)) q=_
    unfold A13
    rw [if_neg (by rw [X6a,X8g]; split <;> (try split) <;> decide),Xt2 s1 s2 h1 h2 e1 e2 d1 d2]
    simp only [Decidable.not_not] at hc
    subst hc
    obtain ⟨k,dv,ic,vr,en,r,a,b,p,m,n,ho,ad⟩:=q
    obtain ⟨pm,pr,sa,sb,da,db,sl,sh,dl,dh⟩:=r
    simp only at ep
    subst ep
    rfl
theorem Xqk {a:Nat} {b:Int} {x:Str} {rest:List Str} (ha:a < 4294967296) (hb:0 ≤ b∧b ≤ 32) (hm:a % 2 ^ (32 - b.toNat)=0) (hx:rest.head? ≠ some x):prfO x (optW (decide (b ≠ 0)) x (X1c a b) ++ rest)=some (a,b.toNat,rest):=by
  by_cases hc:b ≠ 0
  . rw [decide_eq_true hc]
    show prfO x (x :: X1c a b :: rest)=_
    unfold prfO
    rw [if_pos (show (x :: X1c a b :: rest).head?=some x from rfl)]
    show (if (prefP (X1c a b)).2.2=0∧(prefP (X1c a b)).2.1 ≠ 0 then some ((prefP (X1c a b)).1,(prefP (X1c a b)).2.1,rest) else none)=_
    rw [X9t ha hb hm,if_pos ⟨rfl,by show b.toNat ≠ 0; omega⟩]
  . rw [decide_eq_false hc]
    show prfO x rest=_
    unfold prfO
    rw [if_neg hx]
    simp only [Decidable.not_not] at hc
    have:=mod0 ha hc hm
    rw [this,hc]
    rfl
theorem Xu9 {r:Rl} (h:GoodR r) {q:QN} (hq:q.r=rlH):A12 (X1b r) q=some { q with r:=r }:=by
  obtain ⟨pm,pr,sa,sb,da,db,sl,sh,dl,dh⟩:=r
  have hpm:pm=true:=h.permit
  subst hpm
  unfold X1b
  simp only [List.append_assoc]
  have c1:cF ⟨true,pr,sa,sb,da,db,sl,sh,dl,dh⟩=decide (sb ≠ 0):=rfl
  have c2:cT ⟨true,pr,sa,sb,da,db,sl,sh,dl,dh⟩=decide (db ≠ 0):=rfl
  have c3:cP ⟨true,pr,sa,sb,da,db,sl,sh,dl,dh⟩=decide (pr ≠ -1):=rfl
  have c4:cS ⟨true,pr,sa,sb,da,db,sl,sh,dl,dh⟩=decide (sl ≠ 0∨sh ≠ 65535):=rfl
  have c5:cD ⟨true,pr,sa,sb,da,db,sl,sh,dl,dh⟩=decide (dl ≠ 0∨dh ≠ 65535):=rfl
  rw [c1,c2,c3,c4,c5]
  unfold A12
  rw [Xqk h.sa h.sb h.sm (by rw [X6a,X6a,X6a,X8g]; split <;> (try split) <;> (try split) <;> (try split) <;> decide)]
  simp only
  rw [Xqk h.da h.db h.dm (by rw [X6a,X6a,X8g]; split <;> (try split) <;> (try split) <;> decide)]
  simp only
  rw [Xv1 h.proto h.s1 h.s2 h.d1 h.d2 (by show q.r.proto=-1; rw [hq]; rfl) (by show q.r.sl=0; rw [hq]; rfl) (by show q.r.sh=65535; rw [hq]; rfl) (by show q.r.dl=0; rw [hq]; rfl) (by show q.r.dh=65535; rw [hq]; rfl)]
  have n1:((sb.toNat:Nat):Int)=sb:=Int.toNat_of_nonneg h.sb.1
  have n2:((db.toNat:Nat):Int)=db:=Int.toNat_of_nonneg h.db.1
  simp only [n1,n2,hq]
  rfl
theorem Xnd {q:QN} (h:GoodQ q):askW (X17 q)=some q:=by
  cases h with
  | way k dev ifc en r hk hd hi e1 e7 hr =>
    have hk1:k ≤ 2:=by omega
    have hw:X17 { q0 with kind:=k,dev:=dev,ifc:=ifc,en:=en,r:=r }=X16 k :: dev :: ifc :: endW en :: X1b r:=by unfold X17; rw [if_pos hk1]; rfl
    rw [hw]
    show askK (posG 0 kindsL (X16 k)) (dev :: ifc :: endW en :: X1b r)=_
    rw [(kpos (show 1 ≤ k by omega) (by omega)).1]
    unfold askK
    rw [if_neg (by omega),if_pos (by omega)]
    unfold A10
    rw [if_pos (show Xy ((dev :: ifc :: endW en :: X1b r).headD [])=true∧Xy ((dev :: ifc :: endW en :: X1b r).tail.headD [])=true from ⟨hd,hi⟩)]
    unfold A11
    rw [if_pos (show k < 3 by omega)]
    have hp:posG 0 endsL ((dev :: ifc :: endW en :: X1b r).tail.tail.headD [])=en:=(epos e1 e7).1
    rw [hp,if_neg (by omega)]
    exact Xu9 hr rfl
  | loop dev ifc r hd hi hr =>
    have hw:X17 { q0 with kind:=3,dev:=dev,ifc:=ifc,r:=r }=X16 3 :: dev :: ifc :: X1b r:=rfl
    rw [hw]
    show askK (posG 0 kindsL (X16 3)) (dev :: ifc :: X1b r)=_
    rw [(kpos (show 1 ≤ 3 by omega) (by omega)).1]
    show A10 (dev :: ifc :: X1b r) { q0 with kind:=3 }=_
    unfold A10
    rw [if_pos (show Xy ((dev :: ifc :: X1b r).headD [])=true∧Xy ((dev :: ifc :: X1b r).tail.headD [])=true from ⟨hd,hi⟩)]
    unfold A11
    rw [if_neg (show ¬ 3 < 3 by omega)]
    exact Xu9 hr rfl
  | trace dev ifc hops a b p m n hd hi hh hb =>
    have hw:X17 { q0 with kind:=4,dev:=dev,ifc:=ifc,hops:=(hops:Nat),a:=a,b:=b,p:=p,m:=m,n:=n }=[X16 4,dev,ifc,itoa (hops:Nat),endT a m,endT b n,decDigits p]:=rfl
    rw [hw]
    show askK (posG 0 kindsL (X16 4)) [dev,ifc,itoa (hops:Nat),endT a m,endT b n,decDigits p]=_
    rw [(kpos (show 1 ≤ 4 by omega) (by omega)).1]
    show A16 [dev,ifc,itoa (hops:Nat),endT a m,endT b n,decDigits p] { q0 with kind:=4 }=_
    unfold A16
    rw [if_pos (show Xy ([dev,ifc,itoa (hops:Nat),endT a m,endT b n,decDigits p].headD [])=true∧Xy ([dev,ifc,itoa (hops:Nat),endT a m,endT b n,decDigits p].tail.headD [])=true from ⟨hd,hi⟩)]
    have c1:num 255 ([dev,ifc,itoa (hops:Nat),endT a m,endT b n,decDigits p].tail.tail.headD [])=some hops:=by
      show num 255 (itoa (hops:Nat))=_
      rw [X21]; exact X2a hh
    have c2:prH (Xw [32] [dev,ifc,itoa (hops:Nat),endT a m,endT b n,decDigits p].tail.tail.tail)=some (a,m,b,n,p):=by
      refine prH_iff.mpr ⟨?_,hb⟩
      rw [X8y]
      simp [Xw,List.intercalate,List.intersperse]
    rw [c1,c2]
    rfl
  | table k dev hk hd =>
    have hw:X17 { q0 with kind:=k,dev:=dev }=[X16 k,dev]:=by
      unfold X17
      rw [if_neg (show ¬ k ≤ 2 by omega),if_neg (show ¬ k=3 by omega),if_neg (show ¬ k=4 by omega),if_pos (show k ≤ 6 by omega)]
      rfl
    rw [hw]
    show askK (posG 0 kindsL (X16 k)) [dev]=_
    rw [(kpos (show 1 ≤ k by omega) (by omega)).1]
    unfold askK
    rw [if_neg (by omega),if_neg (by omega),if_neg (by omega),if_pos (by omega)]
    unfold A17
    rw [if_pos (show Xy ([dev].headD [])=true from hd)]
    rfl
  | tableV k dev vrf hk hd hv =>
    have hne:=Xbx hv
    have hw:X17 { q0 with kind:=k,dev:=dev,vrf:=vrf }=[X16 k,dev,vrfW,vrf]:=by
      unfold X17
      rw [if_neg (show ¬ k ≤ 2 by omega),if_neg (show ¬ k=3 by omega),if_neg (show ¬ k=4 by omega),if_pos (show k ≤ 6 by omega),if_pos hne]
    rw [hw]
    show askK (posG 0 kindsL (X16 k)) [dev,vrfW,vrf]=_
    rw [(kpos (show 1 ≤ k by omega) (by omega)).1]
    unfold askK
    rw [if_neg (by omega),if_neg (by omega),if_neg (by omega),if_pos (by omega)]
    unfold A17
    rw [if_pos (show Xy ([dev,vrfW,vrf].headD [])=true from hd),if_pos (show [dev,vrfW,vrf].tail.head?=some vrfW from rfl),if_pos (show Xy ([dev,vrfW,vrf].tail.tail.headD [])=true from hv)]
    rfl
  | owner ad ha =>
    have hw:X17 { q0 with kind:=7,ad:=ad }=[X16 7,X1j ad]:=rfl
    rw [hw]
    show askK (posG 0 kindsL (X16 7)) [X1j ad]=_
    rw [(kpos (show 1 ≤ 7 by omega) (by omega)).1]
    show A17o [X1j ad] { q0 with kind:=7 }=_
    unfold A17o
    rw [show X2p ([X1j ad].headD [])=some ad from addrP_iff.mpr ⟨rfl,ha⟩]
    rfl
theorem ask_iff {s:Str} {q:QN}:askW (split 32 s)=some q ↔ GoodQ q∧s=writeT q:=by
  constructor
  . intro h
    obtain ⟨e1,e2,e3⟩:=split_eq_iff.mp (rfl:split 32 s=split 32 s)
    obtain ⟨h1,h2⟩:=Xq6 e3 h
    refine ⟨h1,?_⟩
    have h4:=(split_eq_iff.mp (X42 h1)).2.1
    rw [e2,h2,← h4]
  . rintro ⟨h,rfl⟩
    rw [X42 h]
    exact Xnd h
theorem Xn8 (s:Str):askW (split 32 s)=refW (split 32 s) s:=by
  apply Option.ext
  intro q
  rw [show (askW (split 32 s)=some q ↔ refW (split 32 s) s=some q) ↔ _ from Iff.rfl]
  exact ask_iff.trans ref_iff.symm
end Go.Ab

set_option maxRecDepth 100000
set_option linter.unusedSimpArgs false
set_option linter.unusedVariables false
namespace Go.Ab
open Go Go.Lib Go.Ab.Sh
abbrev plR:EqPl:=.struct [(0,1,false,.bool),(1,1,false,.int),(2,2,true,(.struct [(0,1,false,.int),(1,1,false,.int)])),(4,2,true,(.struct [(0,1,false,.int),(1,1,false,.int)])),(6,2,true,(.struct [(0,1,false,.int),(1,1,false,.int)])),(8,2,true,(.struct [(0,1,false,.int),(1,1,false,.int)]))]
abbrev plQ:EqPl:=.struct [(0,1,false,.int),(1,1,false,.str),(2,1,false,.str),(3,1,false,.str),(4,1,false,.int),(5,10,true,(.struct [(0,1,false,.bool),(1,1,false,.int),(2,2,true,(.struct [(0,1,false,.int),(1,1,false,.int)])),(4,2,true,(.struct [(0,1,false,.int),(1,1,false,.int)])),(6,2,true,(.struct [(0,1,false,.int),(1,1,false,.int)])),(8,2,true,(.struct [(0,1,false,.int),(1,1,false,.int)]))])),(15,5,true,(.struct [(0,1,false,.int),(1,1,false,.int),(2,1,false,.int),(3,1,false,.int),(4,1,false,.int)])),(20,1,false,.int),(21,1,false,.int)]
theorem X26 {off size:Nat} {agg:Bool} {p:EqPl} {fs:List (Nat × Nat × Bool × EqPl)} {xs ys:Array Value} {a b:Value} {c d:Prop} [Decidable c] [Decidable d] (h1:partOf agg size off xs=some a) (h2:partOf agg size off ys=some b) (h3:aEq p a b=some (decide c)) (h4:aEqs fs xs ys=some (decide d)):aEqs ((off,size,agg,p) :: fs) xs ys=some (decide (c∧d)):=by
  rw [aEqs,h1,h2]
  simp only [h3]
  by_cases hc:c
  . rw [decide_eq_true hc]
    simp only [h4,Option.some.injEq]
    by_cases hd:d
    . rw [decide_eq_true hd,decide_eq_true ⟨hc,hd⟩]
    . rw [decide_eq_false hd,decide_eq_false (fun h=>hd h.2)]
  . rw [decide_eq_false hc,decide_eq_false (fun h=>hc h.1)]
theorem Xkg (xs ys:Array Value):aEqs [] xs ys=some (decide True):=by rw [aEqs]; rfl
theorem X36 (k:IntKind) (a b:Int):aEq .int (.int k a) (.int k b)=some (decide (a=b)):=by
  rw [aEq,if_pos rfl]
  by_cases h:a=b <;> simp [h]
theorem Xij (a b:Str):aEq .str (sv a) (sv b)=some (decide (a=b)):=by
  show aEq .str (.string ⟨⟨a⟩⟩) (.string ⟨⟨b⟩⟩)=_
  rw [aEq]
  by_cases h:a=b <;> simp [h]
theorem Xpa (a b:Bool):aEq .bool (.bool a) (.bool b)=some (decide (a=b)):=by
  rw [aEq]
  by_cases h:a=b <;> simp [h]
theorem Xbg (k k':IntKind) (a b a' b':Int):aEq (.struct [(0,1,false,.int),(1,1,false,.int)]) (.agg ⟨[.int k a,.int k' b]⟩) (.agg ⟨[.int k a',.int k' b']⟩)=some (decide (a=a'∧b=b'∧True)):=by
  rw [aEq]
  exact X26 rfl rfl (X36 k a a') (X26 rfl rfl (X36 k' b b') (Xkg _ _))
theorem Xq0 (r s:Rl):aEq plR (rlV r) (rlV s)=some (decide (r.permit=s.permit∧r.proto=s.proto∧((r.sa:Int)=(s.sa:Int)∧r.sb=s.sb∧True)∧((r.da:Int)=(s.da:Int)∧r.db=s.db∧True)∧((r.sl:Int)=(s.sl:Int)∧(r.sh:Int)=(s.sh:Int)∧True)∧((r.dl:Int)=(s.dl:Int)∧(r.dh:Int)=(s.dh:Int)∧True)∧True)):=by
  rw [aEq]
  exact X26 rfl rfl (Xpa _ _) (X26 rfl rfl (X36 _ _ _) (X26 rfl rfl (Xbg _ _ _ _ _ _) (X26 rfl rfl (Xbg _ _ _ _ _ _) (X26 rfl rfl (Xbg _ _ _ _ _ _) (X26 rfl rfl (Xbg _ _ _ _ _ _) (Xkg _ _))))))
theorem Xsl (a b p m n a' b' p' m' n':Nat):aEq (.struct [(0,1,false,.int),(1,1,false,.int),(2,1,false,.int),(3,1,false,.int),(4,1,false,.int)]) (hdr a b p m n) (hdr a' b' p' m' n')=some (decide ((a:Int)=(a':Int)∧(b:Int)=(b':Int)∧(p:Int)=(p':Int)∧(m:Int)=(m':Int)∧(n:Int)=(n':Int)∧True)):=by
  rw [aEq]
  exact X26 rfl rfl (X36 _ _ _) (X26 rfl rfl (X36 _ _ _) (X26 rfl rfl (X36 _ _ _) (X26 rfl rfl (X36 _ _ _) (X26 rfl rfl (X36 _ _ _) (Xkg _ _)))))
theorem Xu2 (q s:QN):∃ b,aEq plQ (qV q) (qV s)=some b∧(b=true ↔ q=s):=by
  have h:aEq plQ (qV q) (qV s)=some (decide ((q.kind:Int)=(s.kind:Int)∧q.dev=s.dev∧q.ifc=s.ifc∧q.vrf=s.vrf∧(q.en:Int)=(s.en:Int)∧(q.r.permit=s.r.permit∧q.r.proto=s.r.proto∧((q.r.sa:Int)=(s.r.sa:Int)∧q.r.sb=s.r.sb∧True)∧((q.r.da:Int)=(s.r.da:Int)∧q.r.db=s.r.db∧True)∧((q.r.sl:Int)=(s.r.sl:Int)∧(q.r.sh:Int)=(s.r.sh:Int)∧True)∧((q.r.dl:Int)=(s.r.dl:Int)∧(q.r.dh:Int)=(s.r.dh:Int)∧True)∧True)∧((q.a:Int)=(s.a:Int)∧(q.b:Int)=(s.b:Int)∧(q.p:Int)=(s.p:Int)∧(q.m:Int)=(s.m:Int)∧(q.n:Int)=(s.n:Int)∧True)∧q.hops=s.hops∧(q.ad:Int)=(s.ad:Int)∧True)):=by
    rw [aEq]
    exact X26 rfl rfl (X36 _ _ _) (X26 rfl rfl (Xij _ _) (X26 rfl rfl (Xij _ _) (X26 rfl rfl (Xij _ _) (X26 rfl rfl (X36 _ _ _) (X26 rfl rfl (Xq0 q.r s.r) (X26 rfl rfl (Xsl q.a q.b q.p q.m q.n s.a s.b s.p s.m s.n) (X26 rfl rfl (X36 _ _ _) (X26 rfl rfl (X36 _ _ _) (Xkg _ _)))))))))
  refine ⟨_,h,?_⟩
  . rw [decide_eq_true_eq]
    obtain ⟨k,dv,ic,vr,en,r,a,b,p,m,n,ho,ad⟩:=q
    obtain ⟨pm,pr,sa,sb,da,db,sl,sh,dl,dh⟩:=r
    obtain ⟨k',dv',ic',vr',en',r',a',b',p',m',n',ho',ad'⟩:=s
    obtain ⟨pm',pr',sa',sb',da',db',sl',sh',dl',dh'⟩:=r'
    simp only [QN.mk.injEq,Rl.mk.injEq,Int.natCast_inj,and_true]
    constructor
    . rintro ⟨h1,h2,h3,h4,h5,⟨i1,i2,⟨i3,i4⟩,⟨i5,i6⟩,⟨i7,i8⟩,i9,i10⟩,⟨j1,j2,j3,j4,j5⟩,h8,h9⟩
      exact ⟨h1,h2,h3,h4,h5,⟨i1,i2,i3,i4,i5,i6,i7,i8,i9,i10⟩,j1,j2,j3,j4,j5,h8,h9⟩
    . rintro ⟨h1,h2,h3,h4,h5,⟨i1,i2,i3,i4,i5,i6,i7,i8,i9,i10⟩,j1,j2,j3,j4,j5,h8,h9⟩
      exact ⟨h1,h2,h3,h4,h5,⟨i1,i2,⟨i3,i4⟩,⟨i5,i6⟩,⟨i7,i8⟩,i9,i10⟩,⟨j1,j2,j3,j4,j5⟩,h8,h9⟩
theorem Qmr (q s:QN):∃ b:Bool,bin .eql false true plQ (qV q) (qV s)=some (.bool b)∧(b=true ↔ q=s):=by
  obtain ⟨b,h1,h2⟩:=Xu2 q s
  refine ⟨b,?_,h2⟩
  rw [X1n]
  show (if (true || Xd5 (qV q)) && (false || notNil (qV q) (qV s)) then match aEq plQ (qV q) (qV s) with | some b=>some (Value.bool b) | none=>none else none)=_
  rw [h1]
  rfl
theorem Qln (q s:QN):∃ b:Bool,bin .neq false true plQ (qV q) (qV s)=some (.bool !b)∧(b=true ↔ q=s):=by
  obtain ⟨b,h1,h2⟩:=Xu2 q s
  refine ⟨b,?_,h2⟩
  rw [X1n]
  show (if (true || Xd5 (qV q)) && (false || notNil (qV q) (qV s)) then match aEq plQ (qV q) (qV s) with | some b=>some (Value.bool !b) | none=>none else none)=_
  rw [h1]
  rfl
end Go.Ab

set_option maxRecDepth 100000
set_option linter.unusedSimpArgs false
set_option linter.unusedVariables false
namespace Go.Ab.Sh
open Go Go.Ab Go.Lib
theorem Xdm (o:Option QN):qnV o=.tuple ⟨[qV (o.getD q0),I (if o.isSome=true then 0 else 4)]⟩:=by cases o <;> rfl
theorem c_Is (q:QN) (h:QOk q) (hl:(writeT q).length ≤ 4194304) (d:Nat) (m:Mem):∃ b:Bool,TA (d + 8) Q9s [qV q] m=some (.bool b,m)∧(b=true ↔ GoodQ q):=by
  obtain ⟨o,ho⟩:∃ o,o=refW (split 32 (writeT q)) (writeT q):=⟨_,rfl⟩
  obtain ⟨b,hb1,hb2⟩:=Qmr (o.getD q0) q
  have hgood:(o.isSome=true∧b=true) ↔ GoodQ q:=by
    rw [hb2]
    constructor
    . rintro ⟨h1,h2⟩
      obtain ⟨x,hx⟩:=Option.isSome_iff_exists.mp h1
      rw [hx] at h2
      have h2:x=q:=h2
      subst h2
      exact (ref_iff.mp (ho.symm.trans hx)).1
    . intro hg
      have:o=some q:=ho.trans (ref_iff.mpr ⟨hg,rfl⟩)
      rw [this]
      exact ⟨rfl,rfl⟩
  refine ⟨o.isSome && b,?_,by rw [Bool.and_eq_true]; exact hgood⟩
  rw [X99]
  let M:=(X4 m m.next).push (.cells (qC q) 0 0 false tyQ)
  have g0:M.get m.next=some (.cells (qC q) 0 0 false tyQ):=Xl (X4 m m.next) _
  have F0:Fb m.next (X4 m m.next) M:=Fb.push _ (Nat.le_refl _)
  have nM:M.next=m.next + 1:=rfl
  have l0:X6 true 22 (pt m.next 0 0) M=some (qV q):=Xk g0 (by show 22 ≤ 22; omega) rfl
  have cw:TA (d + 7) Qt [qV q] M=_:=c_Write q h (d + 1) M
  have cp:TA (d + 7) Q25 [sv (writeT q)] M=_:=c_refParse (writeT q) hl d M
  rw [← ho,Xdm] at cp
  obtain ⟨m2,s1,s2,s3,s4⟩:=X1f [] M tyQ Q0 (v:=qV (o.getD q0)) (n:=22) rfl rfl rfl
  have l1:X6 true 22 (pt M.next 0 0) m2=some (qV (o.getD q0)):=Xk s4 (by show 22 ≤ 22; omega) rfl
  have l2:X6 true 22 (pt m.next 0 0) m2=some (qV q):=Xk (by rw [s2.get _ (by omega) (by simp)]; exact g0) (by show 22 ≤ 22; omega) rfl
  refine Xq (m1:=m2) ?_ (F0.trans (s2.toFb (by omega))) rfl
  have hcs:(Value.cells (qV q)).toList=qC q:=rfl
  unfold Q55 Qbv
  rw [hcs,Xh]
  show bp (pur (X6 true 22 (pt m.next 0 0) M) M) _=_
  rw [l0,X0]
  dsimp only
  rw [cw,X5,cp,X5,ex0,X0,ex1,X0,Xh]
  have s1:X7 22 (pt M.next 0 0) (qV (o.getD q0)) (M.push (.cells Q0 0 0 false (some (2 * Qb + 1))))=some m2:=s1
  rw [s1,Xe]
  unfold Qbw Q7x
  rw [Qp,X0,X8]
  cases hs:o.isSome with
  | true =>
    have l2':X6 true 22 (pt (X4 m m.next).next 0 0) m2=some (qV q):=l2
    rw [if_pos (by rfl),l1,X0,l2',X0,hb1,X0,Bool.true_and]
  | false =>
    rw [if_neg (by decide),Bool.false_and]
theorem c_of (q:QN) (d:Nat) (m:Mem):TA (d + 1) Q3m [qV q] m=some (qV q,m):=by
  rw [X94]
  let M:=((X4 m m.next).push (.cells (qC q) 0 0 false tyA)).push (.cells Q0 0 0 false tyQ)
  have g0:M.get m.next=some (.cells (qC q) 0 0 false tyA):=by
    show (((X4 m m.next).push (.cells (qC q) 0 0 false tyA)).push (.cells Q0 0 0 false tyQ)).get m.next=_
    rw [Mem.get_push,if_neg (by show ¬ m.next + 1=m.next; omega)]
    exact Xl (X4 m m.next) _
  have g1:M.get (m.next + 1)=some (.cells Q0 0 0 false tyQ):=Xl ((X4 m m.next).push (.cells (qC q) 0 0 false tyA)) _
  have F0:Fb m.next (X4 m m.next) M:=(Fb.push (m:=X4 m m.next) _ (Nat.le_refl _)).trans (Fb.push _ (by show m.next ≤ m.next + 1; omega))
  have ld:∀ o v,(qC q)[o]?=some v→X6 false 1 (pt m.next o 0) M=some v:=fun o v hv=>Xo g0 hv
  have x5:X6 true 10 (pt m.next (0 + 5) 0) M=some (rlV q.r):=Xk g0 (by show 0 + 5 + 10 ≤ 22; omega) rfl
  have x15:X6 true 5 (pt m.next (0 + 15) 0) M=some (hdr q.a q.b q.p q.m q.n):=Xk g0 (by show 0 + 15 + 5 ≤ 22; omega) rfl
  have x0:=ld (0 + 0) (.int .u8 (q.kind:Int)) rfl
  have x1:=ld (0 + 1) (sv q.dev) rfl
  have x2:=ld (0 + 2) (sv q.ifc) rfl
  have x3:=ld (0 + 3) (sv q.vrf) rfl
  have x4:=ld (0 + 4) (.int .u8 (q.en:Int)) rfl
  have x20:=ld (0 + 20) (I q.hops) rfl
  have x21:=ld (0 + 21) (.int .u32 (q.ad:Int)) rfl
  have aB:Xn Q0 [(0,1),(1,1),(2,1),(3,1),(4,1),(5,10),(15,5),(20,1),(21,1)] [(0,.int .u8 (q.kind:Int)),(1,sv q.dev),(2,sv q.ifc),(3,sv q.vrf),(4,.int .u8 (q.en:Int)),(5,rlV q.r),(6,hdr q.a q.b q.p q.m q.n),(7,I q.hops),(8,.int .u32 (q.ad:Int))]=some (qV q):=Eq.trans rfl rfl
  obtain ⟨mE,r1,r2,_⟩:=X14 (n:=22) (tail:=[]) (vs:=qC q) g1 rfl rfl rfl (show m.next ≤ m.next + 1 by omega)
  refine Xq (m1:=mE) ?_ (F0.trans r2) rfl
  have hcs:(Value.cells (qV q)).toList=qC q:=rfl
  unfold Q56
  rw [hcs,Xh,Xh]
  show bp (pur (X3 0 (pt m.next 0 0)) M) _=_
  have e1:(X4 m m.next).next=m.next:=rfl
  have e2:((X4 m m.next).push (.cells (qC q) 0 0 false (some (2 * Q12 + 1)))).next=m.next + 1:=rfl
  simp only [e1,e2,Xg,X0,x0,x1,x2,x3,x4,x5,x15,x20,x21,aB]
  exact r1
end Go.Ab.Sh

set_option maxRecDepth 100000
set_option linter.unusedSimpArgs false
set_option linter.unusedVariables false
namespace Go.Ab
open Go Go.Lib Go.Ab.Sh
def X24 (ws:List Str) (n:Nat):Str:=if n < 1 then [] else if ws.length < n then [] else ws.getD (n - 1) []
end Go.Ab
namespace Go.Ab.Sh
open Go Go.Ab Go.Lib
theorem Xk3 (all:Str) (ws:List Str) (ha:(Nat.blt (⟨⟨all⟩⟩:ByteArray).size 4294967281 && X78 all)=true) (hf:X1w all=ws.map sv) (n:Nat) (hn:n < 256) (d:Nat) (m:Mem) :
    TA (d + 1) Q7o [sv all,.int .u8 (n:Int)] m=some (sv (X24 ws n),m):=by
  rw [Xfs]
  refine Xq (m1:=(X4 m m.next).push (.cells (ws.map sv) 0 0 false none)) ?_ (Fb.push _ (Nat.le_refl _)) rfl
  have hS:=Xel (X4 m m.next) ws none
  have w1:IntKind.i64.wrap (n:Int)=(n:Int):=by rw [IntWalk.i64_in _ (by omega)]
  have hn0:(X4 m m.next).next=m.next:=rfl
  unfold Qa0 Qeu Qev Qcx
  simp only [c_Fields all ha ws hf,X5,Qf,X0,X8,Xd,c_int,w1,hS.len,Q4s]
  unfold X24
  by_cases h1:n < 1
  . rw [if_pos (by omega),if_pos h1]
    rfl
  . rw [if_neg (by omega),if_neg h1]
    by_cases h2:ws.length < n
    . rw [if_pos (by omega),if_pos h2]
      rfl
    . rw [if_neg (by omega),if_neg h2]
      have w2:IntKind.u8.wrap ((n:Int) - 1)=((n - 1:Nat):Int):=by rw [IntWalk.u8_in _ (by omega)]; omega
      obtain ⟨p,p1,p2⟩:=hS.atk .u8 (getD_at (ws:=ws) (i:=n - 1) (by omega))
      simp only [Q9t,w2,X0,p1,p2]
theorem c_wordK (n:Nat) (hn:n < 256) (d:Nat) (m:Mem):TA (d + 1) Q7o [sv X61,.int .u8 (n:Int)] m=some (sv (X24 kindsL n),m):=Xk3 X61 kindsL aK fK n hn d m
theorem c_wordE (n:Nat) (hn:n < 256) (d:Nat) (m:Mem):TA (d + 1) Q7o [sv Xb3,.int .u8 (n:Int)] m=some (sv (X24 endsL n),m):=Xk3 Xb3 endsL aE fE n hn d m
end Go.Ab.Sh

set_option maxRecDepth 100000
set_option linter.unusedSimpArgs false
set_option linter.unusedVariables false
namespace Go.Ab
open Go Go.Lib Go.Ab.Sh
theorem Xu4 {m:Mem} {b r:Nat} {c:List Value} {fro:Nat} {ro:Bool} {ty:Option Nat} {k:Nat} (hr:r / 2=0) (h:m.get b=some (.cells c 0 fro ro ty)) (hc:c.length=k):X1p 1 k (.slice (some ⟨b,0,some 1⟩) k r) m=some c:=by
  simp [X1p,Xt,X13,h,hc,hr]
  rw [← hc,List.take_length]
theorem Xvf {m:Mem} {e bytes b b2 len ver fro2 k r:Nat} {c new:List Value} {ty ty2:Option Nat} {ro2:Bool} (hr:r / 2=0) (h:m.get b=some (.cells c ver 0 false ty)) (h2:m.get b2=some (.cells new 0 fro2 ro2 ty2)) (hn:new.length=k) (hk:k ≠ 0) (h1:new.all one=true)
    (hl:len ≤ c.length) (hb:fits (len + k) bytes=true) :
    ∃ m',apS e 1 bytes (.slice (some ⟨b,0,some 1⟩) len (2 * ver)) (.slice (some ⟨b2,0,some 1⟩) k r) m=some (.slice (some ⟨b,0,some 1⟩) (len + k) (2 * (ver + 1)),m') ∧
      MEq (m.put b (.cells (c.take len ++ new) (ver + 1) 0 false (tyOf ty (2 * e)))) m':=by
  have hO:X1t e 1 bytes (.slice (some ⟨b,0,some 1⟩) len (2 * ver)) (.slice (some ⟨b2,0,some 1⟩) k r) m =
      some (.slice (some ⟨b,0,some 1⟩) (len + k) (2 * (ver + 1)),m.put b (.cells (c.take len ++ new) (ver + 1) 0 false (tyOf ty (2 * e)))):=by
    unfold X1t
    have e1:2 * ver / 2=ver:=by omega
    have e2:¬ 2 * ver % 2=1:=by omega
    have e5:Nat.ble len c.length=true:=Nat.ble_eq.mpr hl
    have e6:Nat.ble 1 1=true:=rfl
    have e7:Nat.ble 0 len=true:=Nat.ble_eq.mpr (Nat.zero_le _)
    simp only [X2c,Xu4 hr h2 hn,h1,e6,Bool.and_self,Bool.not_true,Bool.false_eq_true,if_false,h,Nat.zero_add,e1,Nat.beq_refl,Nat.mul_one,e5,hb,beq_self_eq_true,e2,e7,Bool.not_false,if_true,hk]
  have hx:∃ p,X2t e 1 bytes (.slice (some ⟨b,0,some 1⟩) len (2 * ver)) (.slice (some ⟨b2,0,some 1⟩) k r) m=some p:=by
    unfold X2t
    have e1:Nat.div (2 * ver) 2=ver:=by show 2 * ver / 2=ver; omega
    have e2:(Nat.beq k 0 || Nat.beq (2 * ver % 2) 1)=false:=by
      have h2:2 * ver % 2=0:=by omega
      have h3:Nat.beq k 0=false:=by
        cases k with
        | zero=>exact absurd rfl hk
        | succ k=>rfl
      rw [h2,h3]; rfl
    have e6:Nat.ble 1 1=true:=rfl
    rw [Mem.get_def] at h
    cases hrr:m.tr.get (b + 1) with
    | none=>rw [hrr] at h; cases h
    | some rr =>
      rw [hrr] at h
      simp only [Option.map_some,Option.some.injEq] at h
      obtain ⟨r',kk⟩:=Xfx (new:=new) (ty2:=2 * e) h (Nat.zero_le _) hl
      simp only [X2c,e2,Xu4 hr h2 hn,X2h,h1,e6,Bool.and_self,Nat.succ_eq_add_one,hrr,e1,X1k,decide_true,hb,Nat.zero_add,Nat.mul_one,kk]
      exact ⟨_,rfl⟩
  obtain ⟨⟨v,m'⟩,hx⟩:=hx
  obtain ⟨m2,k1,k2⟩:=X84 hx
  rw [hO] at k1
  cases k1
  exact ⟨m',Xkm hx,k2⟩
end Go.Ab

set_option maxRecDepth 100000
set_option linter.unusedSimpArgs false
set_option linter.unusedVariables false
namespace Go.Ab.Sh
open Go Go.Ab Go.Lib
structure TS (m:Mem) (bV b:Nat) (ws:List Str):Prop where
  g:∃ ver ty,m.get bV=some (.cells [.slice (some ⟨b,0,some 1⟩) ws.length (2 * ver)] 0 0 false tyR)∧m.get b=some (.cells (ws.map sv) ver 0 false ty)
  nV:bV < m.next
  nb:b < m.next
  ne:bV ≠ b
theorem Xrj (xs:List Str):(xs.map sv).all one=true:=by
  induction xs with
  | nil=>rfl
  | cons x xs ih =>
    rw [List.map_cons,List.all_cons,ih]
    rfl
theorem c_put {m:Mem} {bV b b2:Nat} {ws xs:List Str} {ty2:Option Nat} (h:TS m bV b ws) (hx:m.get b2=some (.cells (xs.map sv) 0 0 false ty2)) (hk:xs ≠ []) (hl:ws.length + xs.length ≤ 1000) (is:Bool) (d:Nat) :
    ∃ m',TA (d + 1) Q7p [.bool is,.slice (some ⟨b2,0,some 1⟩) xs.length 1,pt bV 0 0] m=some (.tuple ⟨[]⟩,m')∧Fr [bV,b] m m'∧TS m' bV b (if is=true then ws ++ xs else ws):=by
  have go:∃ m1,Q3z ⟨TA d,18446744073709551616⟩ (.bool is) (pt bV 0 0) (.slice (some ⟨b2,0,some 1⟩) xs.length 1) (X4 m m.next)=some (.tuple ⟨[]⟩,m1)∧Fr [bV,b] (X4 m m.next) m1∧TS m1 bV b (if is=true then ws ++ xs else ws):=by
    have k:TS (X4 m m.next) bV b ws:={ h with }
    have hx:(X4 m m.next).get b2=some (.cells (xs.map sv) 0 0 false ty2):=hx
    generalize X4 m m.next=m0 at k hx
    unfold Q3z
    cases is with
    | false =>
      rw [Xb,if_neg (by decide)]
      exact ⟨m0,rfl,.refl _ _,k⟩
    | true =>
      rw [Xd,if_pos rfl]
      obtain ⟨ver,ty,g1,g2⟩:=k.g
      have ld:X6 false 1 (pt bV 0 0) m0=some (.slice (some ⟨b,0,some 1⟩) ws.length (2 * ver)):=Xo g1 rfl
      have hlen:xs.length ≠ 0:=fun e=>hk (List.length_eq_zero_iff.mp e)
      have hfit:fits (ws.length + xs.length) 16=true:=by
        simp only [fits,Bool.and_eq_true,Nat.ble_eq]; omega
      obtain ⟨m1,a1,a2⟩:=Xvf (e:=Q4) (bytes:=16) (len:=ws.length) (k:=xs.length) (r:=1) (by decide) g2 hx (by simp) hlen (Xrj xs) (by simp) hfit
      have F1:Fr [bV,b] m0 m1:=((Fr.refl _ m0).put _ (.inl (by simp))).meq a2
      have gV1:m1.get bV=some (.cells [.slice (some ⟨b,0,some 1⟩) ws.length (2 * ver)] 0 0 false tyR):=by
        rw [a2.get,Mem.get_put,if_neg (fun e=>k.ne e.symm)]; exact g1
      obtain ⟨m2,s1,s2,s3,s4,s5⟩:=X2d (o:=0) (n:=1) (cs':=[.slice (some ⟨b,0,some 1⟩) (ws.length + xs.length) (2 * (ver + 1))]) F1 gV1 (.slice (some ⟨b,0,some 1⟩) (ws.length + xs.length) (2 * (ver + 1))) rfl rfl (by show 1 ≤ 1; omega) rfl (.inl (by simp))
      refine ⟨m2,?_,s2,⟨⟨ver + 1,tyOf ty (2 * Q4),?_,?_⟩,Nat.lt_of_lt_of_le k.nV s2.next,Nat.lt_of_lt_of_le k.nb s2.next,k.ne⟩⟩
      . rw [ld,X0,a1,X5,s1,Xe]
      . rw [s4,List.length_append]
      . rw [s5 _ (fun e=>k.ne e.symm),a2.get,Mem.get_put,if_pos rfl]
        congr 2
        rw [List.map_append,List.take_of_length_le (by simp)]
  obtain ⟨m1,k1,k2,k3⟩:=go
  rw [Xa5]
  obtain ⟨m2,q1,q2,_,q4⟩:=X9o (m:=m) k1 k2
  obtain ⟨ver,ty,g1,g2⟩:=k3.g
  exact ⟨m2,q1,q2,⟨ver,ty,by rw [q4 _ h.nV]; exact g1,by rw [q4 _ h.nb]; exact g2⟩,Nat.lt_of_lt_of_le h.nV q2.next,Nat.lt_of_lt_of_le h.nb q2.next,h.ne⟩
end Go.Ab.Sh

set_option maxRecDepth 100000
set_option linter.unusedSimpArgs false
set_option linter.unusedVariables false
namespace Go.Ab.Sh
open Go Go.Ab Go.Lib
theorem Xls {W:List Nat} {m m1:Mem} {v:Value} {x:Option Rs} (hx:x=some (v,m1)) (hF:Fr W (X4 m m.next) m1) (hlow:m1.low < m.next) :
    ∃ m2,outOf m x=some (v,m2)∧Fr W m m2∧m2.next=m1.next∧∀ b,m2.get b=m1.get b:=by
  have hb:Nat.ble m.next m1.low=false:=by
    cases h:Nat.ble m.next m1.low with
    | false=>rfl
    | true=>have:=Nat.le_of_ble_eq_true h; omega
  have hg:gc m v m1=(v,X4 m1 (min m.low m1.low)):=by
    rw [Xl0]; unfold gcO
    rw [hb]
    rfl
  refine ⟨X4 m1 (min m.low m1.low),by rw [hx]; simp only [outOf,hg],⟨hF.next,Nat.min_le_left _ _,fun x h1 h2 h3=>?_,hF.get,fun b hb=>?_⟩,rfl,fun b=>rfl⟩
  . have:=hF.low2 x h2 h2 h3
    show x ≤ min m.low m1.low
    omega
  . rcases hF.lo b hb with q | q
    . exact .inl (Nat.le_trans (Nat.min_le_right _ _) q)
    . exact .inr q
theorem c_put0 {m:Mem} {bV b2:Nat} {w:Str} {ty2:Option Nat} (gV:m.get bV=some (.cells [.slice none 0 0] 0 0 false tyR)) (nV:bV < m.next) (hx:m.get b2=some (.cells [sv w] 0 0 false ty2)) (d:Nat) :
    ∃ m',TA (d + 1) Q7p [.bool true,.slice (some ⟨b2,0,some 1⟩) 1 1,pt bV 0 0] m=some (.tuple ⟨[]⟩,m')∧Fr [bV] m m'∧TS m' bV m.next [w]:=by
  have go:∃ m1,Q3z ⟨TA d,18446744073709551616⟩ (.bool true) (pt bV 0 0) (.slice (some ⟨b2,0,some 1⟩) 1 1) (X4 m m.next)=some (.tuple ⟨[]⟩,m1)∧Fr [bV] (X4 m m.next) m1∧TS m1 bV m.next [w]∧m1.low < m.next:=by
    have gV:(X4 m m.next).get bV=some (.cells [.slice none 0 0] 0 0 false tyR):=gV
    have nV:bV < (X4 m m.next).next:=nV
    have hx:(X4 m m.next).get b2=some (.cells [sv w] 0 0 false ty2):=hx
    show ∃ m1,Q3z ⟨TA d,18446744073709551616⟩ (.bool true) (pt bV 0 0) (.slice (some ⟨b2,0,some 1⟩) 1 1) (X4 m m.next)=some (.tuple ⟨[]⟩,m1)∧Fr [bV] (X4 m m.next) m1∧TS m1 bV (X4 m m.next).next [w]∧m1.low < (X4 m m.next).next
    generalize X4 m m.next=m0 at gV nV hx
    have ld:X6 false 1 (pt bV 0 0) m0=some (.slice none 0 0):=Xo gV rfl
    have ha:=Xi0 (e:=Q4) (bytes:=16) (size:=1) hx rfl rfl (Nat.le_refl 1) rfl
    have F1:Fr [bV] m0 (m0.push (.cells [sv w] 0 0 false (some (2 * Q4)))):=Fr.push _
    have gV1:(m0.push (.cells [sv w] 0 0 false (some (2 * Q4)))).get bV=some (.cells [.slice none 0 0] 0 0 false tyR):=by
      rw [Mem.get_push,if_neg (by omega)]; exact gV
    obtain ⟨m2,s1,s2,s3,s4,s5⟩:=X2d (o:=0) (n:=1) (cs':=[.slice (some ⟨m0.next,0,some 1⟩) 1 0]) F1 gV1 (.slice (some ⟨m0.next,0,some 1⟩) 1 0) rfl rfl (by show 1 ≤ 1; omega) rfl (.inl (by simp))
    have n2:m2.next=m0.next + 1:=s3
    refine ⟨m2,?_,s2,⟨⟨0,some (2 * Q4),s4,?_⟩,by omega,by omega,by omega⟩,?_⟩
    . unfold Q3z
      rw [Xd,ld,X0,ha,X5,s1,Xe]
    . rw [s5 _ (by omega)]
      exact Xl m0 _
    . rcases s2.lo bV nV with e | e
      . omega
      . rw [s4,gV] at e
        simp at e
  obtain ⟨m1,k1,k2,k3,k4⟩:=go
  rw [Xa5]
  obtain ⟨m2,q1,q2,q3,q4⟩:=Xls (m:=m) k1 k2 k4
  obtain ⟨ver,ty,g1,g2⟩:=k3.g
  exact ⟨m2,q1,q2,⟨ver,ty,by rw [q4]; exact g1,by rw [q4]; exact g2⟩,by rw [q3]; exact k3.nV,by rw [q3]; exact k3.nb,k3.ne⟩
end Go.Ab.Sh

set_option maxRecDepth 100000
set_option linter.unusedSimpArgs false
set_option linter.unusedVariables false
namespace Go.Ab.Sh
open Go Go.Ab Go.Lib
noncomputable abbrev fPut (bV:Nat):Value:=.func (.func Q7p) ⟨[]⟩ ⟨[pt bV 0 0]⟩
theorem TS.frn {m m':Mem} {bV b:Nat} {ws:List Str} (h:TS m bV b ws) (f:Fr [] m m'):TS m' bV b ws:=by
  obtain ⟨ver,ty,g1,g2⟩:=h.g
  exact ⟨⟨ver,ty,by rw [f.get _ h.nV (by simp)]; exact g1,by rw [f.get _ h.nb (by simp)]; exact g2⟩,Nat.lt_of_lt_of_le h.nV f.next,Nat.lt_of_lt_of_le h.nb f.next,h.ne⟩
theorem TS.put1 {m:Mem} {bV b:Nat} {ws:List Str} (h:TS m bV b ws) (hl:ws.length ≤ 900) (x:Str) (is:Bool) (d:Nat) :
    ∃ m1 m',Xc Q4 [(.string ⟨#[]⟩)] 1 1 [(0,sv x)] m=some (.slice (some ⟨m.next,0,some 1⟩) 1 1,m1)∧Xi (TA (d + 1)) (fPut bV) [.bool is,.slice (some ⟨m.next,0,some 1⟩) 1 1] m1=some (.tuple ⟨[]⟩,m')∧Fr [bV,b] m m'∧TS m' bV b (if is=true then ws ++ [x] else ws):=by
  have hb:Xc Q4 [(.string ⟨#[]⟩)] 1 1 [(0,sv x)] m=some (.slice (some ⟨m.next,0,some 1⟩) 1 1,m.push (.cells [sv x] 0 0 false (some (2 * Q4)))):=Eq.trans rfl rfl
  obtain ⟨m',k1,k2,k3⟩:=c_put (xs:=[x]) (h.frn (Fr.push _)) (Xl m (.cells [sv x] 0 0 false (some (2 * Q4)))) (by simp) (by simp; omega) is d
  exact ⟨_,m',hb,k1,(Fr.push _).trans k2,k3⟩
theorem TS.put2 {m:Mem} {bV b:Nat} {ws:List Str} (h:TS m bV b ws) (hl:ws.length ≤ 900) (x y:Str) (is:Bool) (d:Nat) :
    ∃ m1 m',Xc Q4 [(.string ⟨#[]⟩)] 1 2 [(0,sv x),(1,sv y)] m=some (.slice (some ⟨m.next,0,some 1⟩) 2 1,m1)∧Xi (TA (d + 1)) (fPut bV) [.bool is,.slice (some ⟨m.next,0,some 1⟩) 2 1] m1=some (.tuple ⟨[]⟩,m')∧Fr [bV,b] m m'∧TS m' bV b (if is=true then ws ++ [x,y] else ws):=by
  have hb:Xc Q4 [(.string ⟨#[]⟩)] 1 2 [(0,sv x),(1,sv y)] m=some (.slice (some ⟨m.next,0,some 1⟩) 2 1,m.push (.cells [sv x,sv y] 0 0 false (some (2 * Q4)))):=Eq.trans rfl rfl
  obtain ⟨m',k1,k2,k3⟩:=c_put (xs:=[x,y]) (h.frn (Fr.push _)) (Xl m (.cells [sv x,sv y] 0 0 false (some (2 * Q4)))) (by simp) (by simp; omega) is d
  exact ⟨_,m',hb,k1,(Fr.push _).trans k2,k3⟩
theorem put0 {m:Mem} {bV:Nat} (gV:m.get bV=some (.cells [.slice none 0 0] 0 0 false tyR)) (nV:bV < m.next) (x:Str) (d:Nat) :
    ∃ m1 m',Xc Q4 [(.string ⟨#[]⟩)] 1 1 [(0,sv x)] m=some (.slice (some ⟨m.next,0,some 1⟩) 1 1,m1)∧Xi (TA (d + 1)) (fPut bV) [.bool true,.slice (some ⟨m.next,0,some 1⟩) 1 1] m1=some (.tuple ⟨[]⟩,m')∧Fr [bV] m m'∧TS m' bV (m.next + 1) [x]:=by
  have hb:Xc Q4 [(.string ⟨#[]⟩)] 1 1 [(0,sv x)] m=some (.slice (some ⟨m.next,0,some 1⟩) 1 1,m.push (.cells [sv x] 0 0 false (some (2 * Q4)))):=Eq.trans rfl rfl
  obtain ⟨m',k1,k2,k3⟩:=c_put0 (m:=m.push (.cells [sv x] 0 0 false (some (2 * Q4)))) (bV:=bV) (b2:=m.next) (w:=x) (by rw [Mem.get_push,if_neg (by omega)]; exact gV) (by show bV < m.next + 1; omega) (Xl m _) d
  exact ⟨_,m',hb,k1,(Fr.push _).trans k2,k3⟩
end Go.Ab.Sh

set_option maxRecDepth 100000
set_option linter.unusedSimpArgs false
set_option linter.unusedVariables false
namespace Go.Ab.Sh
open Go Go.Ab Go.Lib
theorem TS.sl {m:Mem} {bV b:Nat} {ws:List Str} (h:TS m bV b ws):∃ v,X6 false 1 (pt bV 0 0) m=some v∧SL m v ws:=by
  obtain ⟨ver,ty,g1,g2⟩:=h.g
  refine ⟨_,Xo g1 rfl,b,0,2 * ver,ws.map sv,0,false,ty,rfl,h.nb,?_,by simp,fun i w hw=>by rw [Nat.zero_add,List.getElem?_map,hw]; rfl⟩
  rw [show 2 * ver / 2=ver by omega]; exact g2
noncomputable def txtV (T:Str) (q:QN):Value:=open Classical in if askW (split 32 T)=some q then .tuple ⟨[sv T,I 0]⟩ else .tuple ⟨[sv [],I 1]⟩
theorem Xsp {m:Mem} {bV b b1:Nat} {ws:List Str} {q:QN} (h:TS m bV b ws) (gq:m.get b1=some (.cells (qC q) 0 0 false tyA)) (n1:b1 < m.next) (hw:ws.length ≤ 1000) (hT:(Xw [32] ws).length ≤ 4194304) (d:Nat) :
    ∃ m',Qds ⟨TA (d + 7),18446744073709551616⟩ (pt bV 0 0) (pt b1 0 0) m=some (txtV (Xw [32] ws) q,m')∧Fr [] m m':=by
  obtain ⟨v,ld,hS⟩:=h.sl
  have es:Value.string ⟨#[32]⟩=sv [32]:=rfl
  have cJ:TA (d + 7) Q31 [v,sv [32]] m=_:=c_Join v ws [32] m hS (by omega) (by omega) (d + 7)
  generalize Xw [32] ws=T at *
  have cp:TA (d + 7) Q7j [sv T] m=_:=c_askParse T hT d m
  obtain ⟨o,ho⟩:∃ o,o=askW (split 32 T):=⟨_,rfl⟩
  rw [← ho,Xdm] at cp
  obtain ⟨m2,s1,s2,s3,s4⟩:=X1f [] m tyA Qj (v:=qV (o.getD q0)) (n:=22) rfl rfl rfl
  have s1:X7 22 (pt m.next 0 0) (qV (o.getD q0)) (m.push (.cells Qj 0 0 false (some (2 * Q12 + 1))))=some m2:=s1
  have l1:X6 true 22 (pt m.next 0 0) m2=some (qV (o.getD q0)):=Xk s4 (by show 22 ≤ 22; omega) rfl
  have l2:X6 true 22 (pt b1 0 0) m2=some (qV q):=Xk (by rw [s2.get _ n1 (by simp)]; exact gq) (by show 22 ≤ 22; omega) rfl
  obtain ⟨c,hc1,hc2⟩:=Qln (o.getD q0) q
  refine ⟨m2,?_,s2⟩
  have hV:txtV T q=if o.isSome=true∧c=true then .tuple ⟨[sv T,I 0]⟩ else .tuple ⟨[sv [],I 1]⟩:=by
    unfold txtV
    rw [← ho]
    have e:(o=some q) ↔ (o.isSome=true∧c=true):=by
      rw [hc2]
      cases o with
      | none=>simp
      | some x=>simp
    by_cases hh:o=some q
    . rw [if_pos hh,if_pos (e.mp hh)]
    . rw [if_neg hh,if_neg (fun x=>hh (e.mpr x))]
  rw [hV]
  unfold Qds Qff
  simp only [ld,X0,es,cJ,X5,cp,ex0,ex1]
  rw [Xh]
  unfold Qfg Qdt
  rw [s1,Xe,Q1o,X0,X8]
  cases hs:o.isSome with
  | true =>
    rw [if_neg (by decide),l1,X0,l2,X0,hc1,X0]
    cases c with
    | true=>rw [if_pos ⟨rfl,rfl⟩]; rfl
    | false=>rw [if_neg (by simp)]; rfl
  | false =>
    rw [if_pos (by decide),if_neg (by simp)]
    rfl
end Go.Ab.Sh
