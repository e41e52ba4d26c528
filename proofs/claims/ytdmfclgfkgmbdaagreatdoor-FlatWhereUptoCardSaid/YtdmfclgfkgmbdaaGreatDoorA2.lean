/-
  What the functions of the program answer, at every text and every question. No conditions.
-/
import Derived.Test.YtdmfclgfkgmbdaaGreatDoorA0
import Derived.Test.YtdmfclgfkgmbdaaGreatDoorA1
set_option linter.unusedSimpArgs false
set_option linter.unusedVariables false
set_option maxRecDepth 100000
namespace Go.Ab
open Go
theorem X8b (φ:Phi) (k:Key) (vs:List Value):cells φ k (vs.map .v)=vs:=by
 apply List.ext_getElem?
 intro i
 rw [Xv,List.getElem?_map]
 cases vs[i]? <;> rfl
theorem NR.own {cap:Nat} {m:Mem} {φ:Phi} {X:NX} (h:NR cap m φ X) {k:Key} {l:List Cl} {o n sz:Nat} {L:Lc} {vs:List Value} {ty:Option Nat} (hk:X k=some (.c l)) (ho:l[o]?=some (.v (slV L n sz))) (hn:n ≠ 0) (hz:0 < sz) (hX:X (o :: k)=none)
  (hfr:∀ k',X k' ≠ none→(φ k').b ≠ L.b) (hlt:L.b < m.next) (hr:L.r < 2) (hg:m.get L.b=some (.cells vs L.ver 0 false ty)) (hl:vs.length=n * sz) (h1:vs.all one=true) :
  NR (max cap n) m (φ.set (o :: k) L) ((X.set (o :: k) (some (.c (vs.map .v)))).set k (some (.c (l.set o (.s n sz))))):=by
 have hol:o < l.length:=(List.getElem?_eq_some_iff.mp ho).1
 let X':NX:=(X.set (o :: k) (some (.c (vs.map .v)))).set k (some (.c (l.set o (.s n sz))))
 have X'k:X' k=some (.c (l.set o (.s n sz))):=NX.set_eq _ _ _
 have X'o:X' (o :: k)=some (.c (vs.map .v)):=by
  show (NX.set _ _ _) _=_
  rw [NX.set_ne _ _ (X30 o k),NX.set_eq]
 have X'n:∀ a,a ≠ k→a ≠ o :: k→X' a=X a:=fun a h1 h2=>by
  show (NX.set _ _ _) _=_
  rw [NX.set_ne _ _ h1,NX.set_ne _ _ h2]
 have X'd:∀ a,X' a ≠ none→a ≠ o :: k→X a ≠ none:=fun a ha hne=>by
  by_cases e:a=k
  ·subst e; rw [hk]; simp
  ·rwa [X'n a e hne] at ha
 have hφb:∀ a,a ≠ o :: k→(φ.set (o :: k) L) a=φ a:=fun a ha=>Phi.set_ne _ _ ha
 have hφk:(φ.set (o :: k) L) k=φ k:=hφb k (fun e=>X30 o k e.symm)
 have hcl:∀ a l2,a ≠ k→cells (φ.set (o :: k) L) a l2=cells φ a l2:=fun a l2 hne=>X8n fun i n' sz' _ _=>Phi.set_ne _ _ (fun e=>hne (by injection e))
 have hclk:cells (φ.set (o :: k) L) k (l.set o (.s n sz))=cells φ k l:=by
  apply List.ext_getElem?
  intro i
  rw [Xv,List.getElem?_set,Xv]
  by_cases e:o=i
  ·subst e
   rw [if_pos rfl,if_pos hol,ho]
   show some (slV ((φ.set (o :: k) L) (o :: k)) n sz)=some (slV L n sz)
   rw [Phi.set_eq]
  ·rw [if_neg e]
   cases hc:l[i]? with
   | none=>rfl
   | some c =>
    cases c with
    | v x=>rfl
    | s n' sz' =>
     show some (slV ((φ.set (o :: k) L) (i :: k)) n' sz')=some (slV (φ (i :: k)) n' sz')
     rw [Phi.set_ne _ _ (fun e2=>e (by injection e2 with e3; exact e3.symm))]
 show NR _ _ _ X'
 exact {
  inj:=fun a b ha hb' e=>by
   by_cases e1:a=o :: k
   ·by_cases e2:b=o :: k
    ·rw [e1,e2]
    ·rw [e1,Phi.set_eq,hφb b e2] at e
     exact absurd e.symm (hfr b (X'd b hb' e2))
   ·by_cases e2:b=o :: k
    ·rw [e2,Phi.set_eq,hφb a e1] at e
     exact absurd e (hfr a (X'd a ha e1))
    ·rw [hφb a e1,hφb b e2] at e
     exact h.inj a b (X'd a ha e1) (X'd b hb' e2) e
  hi:=fun a ha=>by
   by_cases e1:a=o :: k
   ·rw [e1,Phi.set_eq]; exact hlt
   ·rw [hφb a e1]; exact h.hi a (X'd a ha e1)
  r2:=fun a ha=>by
   by_cases e1:a=o :: k
   ·rw [e1,Phi.set_eq]; exact hr
   ·rw [hφb a e1]; exact h.r2 a (X'd a ha e1)
  at':=fun a ob ha=>by
   by_cases e1:a=k
   ·subst e1
    rw [X'k] at ha
    cases ha
    obtain ⟨ty0,q⟩:=h.at' _ _ hk
    refine ⟨ty0,?_⟩
    rw [hφk,hclk]
    exact q
   ·by_cases e2:a=o :: k
    ·subst e2
     rw [X'o] at ha
     cases ha
     refine ⟨ty,?_⟩
     rw [Phi.set_eq,X8b]
     exact hg
    ·rw [X'n a e1 e2] at ha
     have:=h.at' a ob ha
     cases ob with
     | c l2 =>
      obtain ⟨ty3,q3⟩:=this
      refine ⟨ty3,?_⟩
      rw [hφb a e2,hcl _ _ e1]
      exact q3
     | m es cl =>
      show m.get ((φ.set (o :: k) L) a).b=_
      rw [hφb a e2]
      exact this
  ok:=fun a l2 ha=>by
   by_cases e1:a=k
   ·subst e1
    rw [X'k] at ha
    cases ha
    have:=h.ok _ _ hk
    rw [List.all_eq_true] at this ⊢
    intro c hc
    rcases List.mem_or_eq_of_mem_set hc with q | q
    ·exact this c q
    ·rw [q]; rfl
   ·by_cases e2:a=o :: k
    ·subst e2
     rw [X'o] at ha
     cases ha
     rw [List.all_eq_true] at h1 ⊢
     intro c hc
     obtain ⟨y,hy,rfl⟩:=List.mem_map.mp hc
     exact h1 y hy
    ·rw [X'n a e1 e2] at ha
     exact h.ok a l2 ha
  ow:=fun a l2 i n' sz' ha hi=>by
   by_cases e1:a=k
   ·rw [e1] at ha ⊢
    rw [X'k] at ha
    cases ha
    rw [List.getElem?_set] at hi
    by_cases e2:o=i
    ·subst e2
     rw [if_pos rfl,if_pos hol] at hi
     cases hi
     refine ⟨Nat.le_max_right _ _,hz,?_⟩
     rw [if_neg hn]
     exact ⟨_,X'o,by rw [List.length_map]; exact hl⟩
    ·rw [if_neg e2] at hi
     obtain ⟨q1,q2,q3⟩:=h.ow _ _ _ _ _ hk hi
     refine ⟨Nat.le_trans q1 (Nat.le_max_left _ _),q2,?_⟩
     rw [X'n (i :: k) (X30 i k) (fun e=>e2 (by injection e with e3; exact e3.symm))]
     exact q3
   ·by_cases e2:a=o :: k
    ·subst e2
     rw [X'o] at ha
     cases ha
     rw [List.getElem?_map] at hi
     cases hq:vs[i]? with
     | none=>rw [hq] at hi; cases hi
     | some y=>rw [hq] at hi; cases hi
    ·rw [X'n a e1 e2] at ha
     obtain ⟨q1,q2,q3⟩:=h.ow _ _ _ _ _ ha hi
     refine ⟨Nat.le_trans q1 (Nat.le_max_left _ _),q2,?_⟩
     have hio:i :: a ≠ o :: k:=fun e=>by injection e with e3 e4; exact e1 e4
     by_cases e3:i :: a=k
     ·rw [e3] at q3 ⊢
      rw [hk] at q3
      by_cases hz':n'=0
      ·rw [if_pos hz'] at q3; cases q3
      ·rw [if_neg hz'] at q3 ⊢
       obtain ⟨l',q4,q5⟩:=q3
       cases q4
       exact ⟨_,X'k,by rw [List.length_set]; exact q5⟩
     ·rw [X'n _ e3 hio]; exact q3
  par:=fun i j a ha=>by
   by_cases e1:i :: j :: a=o :: k
   ·injection e1 with e2 e3
    subst e2
    rw [e3]
    exact ⟨_,n,sz,X'k,by rw [List.getElem?_set,if_pos rfl,if_pos hol],hn⟩
   ·obtain ⟨l5,n5,sz5,z1,z2,z3⟩:=h.par i j a (X'd _ ha e1)
    by_cases e2:j :: a=k
    ·rw [e2,hk] at z1
     cases z1
     have:o ≠ i:=fun e=>e1 (by rw [e,e2])
     exact ⟨_,n5,sz5,by rw [e2]; exact X'k,by rw [List.getElem?_set,if_neg this]; exact z2,z3⟩
    ·by_cases e3:j :: a=o :: k
     ·rw [e3,hX] at z1; cases z1
     ·exact ⟨l5,n5,sz5,by rw [X'n _ e2 e3]; exact z1,z2,z3⟩ }
theorem NR.disown {cap:Nat} {m:Mem} {φ:Phi} {X:NX} (h:NR cap m φ X) {k:Key} {l:List Cl} {o n sz:Nat} (hk:X k=some (.c l)) (ho:l[o]?=some (.s n sz)) (hs:∀ i,X (i :: o :: k)=none) :
  NR cap m φ ((X.set (o :: k) none).set k (some (.c (l.set o (.v (slV (φ (o :: k)) n sz)))))):=by
 have hol:o < l.length:=(List.getElem?_eq_some_iff.mp ho).1
 let X':NX:=(X.set (o :: k) none).set k (some (.c (l.set o (.v (slV (φ (o :: k)) n sz)))))
 have X'k:X' k=some (.c (l.set o (.v (slV (φ (o :: k)) n sz)))):=NX.set_eq _ _ _
 have X'o:X' (o :: k)=none:=by
  show (NX.set _ _ _) _=_
  rw [NX.set_ne _ _ (X30 o k),NX.set_eq]
 have X'n:∀ a,a ≠ k→a ≠ o :: k→X' a=X a:=fun a h1 h2=>by
  show (NX.set _ _ _) _=_
  rw [NX.set_ne _ _ h1,NX.set_ne _ _ h2]
 have X'd:∀ a,X' a ≠ none→X a ≠ none:=fun a ha=>by
  by_cases e:a=k
  ·subst e; rw [hk]; simp
  ·by_cases e2:a=o :: k
   ·rw [e2] at ha; exact absurd X'o ha
   ·rwa [X'n a e e2] at ha
 have X'ne:∀ a,X' a ≠ none→a ≠ o :: k:=fun a ha e=>by rw [e] at ha; exact ha X'o
 have hclk:cells φ k (l.set o (.v (slV (φ (o :: k)) n sz)))=cells φ k l:=by
  apply List.ext_getElem?
  intro i
  rw [Xv,List.getElem?_set,Xv]
  by_cases e:o=i
  ·subst e
   rw [if_pos rfl,if_pos hol,ho]
   rfl
  ·rw [if_neg e]
 show NR _ _ _ X'
 exact {
  inj:=fun a b ha hb e=>h.inj a b (X'd a ha) (X'd b hb) e
  hi:=fun a ha=>h.hi a (X'd a ha)
  r2:=fun a ha=>h.r2 a (X'd a ha)
  at':=fun a ob ha=>by
   have hne:=X'ne a (by rw [ha]; simp)
   by_cases e1:a=k
   ·subst e1
    rw [X'k] at ha
    cases ha
    obtain ⟨ty0,q⟩:=h.at' _ _ hk
    refine ⟨ty0,?_⟩
    rw [hclk]
    exact q
   ·rw [X'n a e1 hne] at ha
    exact h.at' a ob ha
  ok:=fun a l2 ha=>by
   have hne:=X'ne a (by rw [ha]; simp)
   by_cases e1:a=k
   ·subst e1
    rw [X'k] at ha
    cases ha
    have:=h.ok _ _ hk
    rw [List.all_eq_true] at this ⊢
    intro c hc
    rcases List.mem_or_eq_of_mem_set hc with q | q
    ·exact this c q
    ·rw [q]; exact X6k _ _ _
   ·rw [X'n a e1 hne] at ha
    exact h.ok a l2 ha
  ow:=fun a l2 i n' sz' ha hi=>by
   have hne:=X'ne a (by rw [ha]; simp)
   have key:∃ l3,X a=some (.c l3)∧l3[i]?=some (Cl.s n' sz')∧i :: a ≠ o :: k:=by
    by_cases e1:a=k
    ·subst e1
     rw [X'k] at ha
     cases ha
     rw [List.getElem?_set] at hi
     by_cases e2:o=i
     ·subst e2
      rw [if_pos rfl,if_pos hol] at hi
      cases hi
     ·rw [if_neg e2] at hi
      exact ⟨l,hk,hi,fun e=>e2 (by injection e with e3; exact e3.symm)⟩
    ·rw [X'n a e1 hne] at ha
     exact ⟨l2,ha,hi,fun e=>by injection e with e3 e4; exact e1 e4⟩
   obtain ⟨l3,w1,w2,w3⟩:=key
   obtain ⟨q1,q2,q3⟩:=h.ow _ _ _ _ _ w1 w2
   refine ⟨q1,q2,?_⟩
   by_cases e3:i :: a=k
   ·rw [e3] at q3 ⊢
    rw [hk] at q3
    by_cases hz':n'=0
    ·rw [if_pos hz'] at q3; cases q3
    ·rw [if_neg hz'] at q3 ⊢
     obtain ⟨l',q4,q5⟩:=q3
     cases q4
     exact ⟨_,X'k,by rw [List.length_set]; exact q5⟩
   ·rw [X'n _ e3 w3]; exact q3
  par:=fun i j a ha=>by
   have hne:=X'ne _ ha
   obtain ⟨l5,n5,sz5,z1,z2,z3⟩:=h.par i j a (X'd _ ha)
   by_cases e2:j :: a=k
   ·rw [e2,hk] at z1
    cases z1
    have:o ≠ i:=fun e=>hne (by rw [e,e2])
    exact ⟨_,n5,sz5,by rw [e2]; exact X'k,by rw [List.getElem?_set,if_neg this]; exact z2,z3⟩
   ·by_cases e3:j :: a=o :: k
    ·have:=X'd _ ha
     rw [e3,hs i] at this
     exact absurd rfl this
    ·exact ⟨l5,n5,sz5,by rw [X'n _ e2 e3]; exact z1,z2,z3⟩ }
theorem Wk.sub {m m':Mem} {φ φ':Phi} {X X1 X2:NX} (w:Wk m φ X1 m' φ' X2) (hs:∀ k,X1 k ≠ none→X k ≠ none):Wk m φ X m' φ' X2 where
 next:=w.next
 low:=w.low
 low2:=fun x a b c=>w.low2 x a b fun k hk=>c k (hs k hk)
 get:=fun b a c=>w.get b a fun k hk=>c k (hs k hk)
 lo:=w.lo
 nw:=fun k hk=>by
  rcases w.nw k hk with q | ⟨k0,q1,q2⟩
  ·exact .inl q
  ·exact .inr ⟨k0,hs k0 q1,q2⟩
 kp:=by
  rcases w.kp with ⟨k,a,b⟩ | ⟨a,b⟩
  ·exact .inl ⟨k,hs k a,b⟩
  ·exact .inr ⟨a,fun k hk=>hs k (b k hk)⟩
theorem Wk.low_of {m0 m:Mem} {φ0 φ:Phi} {X0 X:NX} (w:Wk m0 φ0 X0 m φ X) {k:Key} {lo:Nat} (hk:X k ≠ none) (h1:lo ≤ (φ k).b) (h2:lo ≤ m.low):∃ k0,X0 k0 ≠ none∧lo ≤ (φ0 k0).b:=by
 rcases w.kp with ⟨q,a,b⟩ | ⟨e1,e2⟩
 ·exact ⟨q,a,Nat.le_trans h2 b⟩
 ·exact ⟨k,e2 k hk,by rw [← e1 k hk]; exact h1⟩
theorem Wk.own {m0 m:Mem} {φ0 φ:Phi} {X0 X X':NX} (w:Wk m0 φ0 X0 m φ X) {q:Key} {L:Lc} (hL:m0.next ≤ L.b) (hkp:∃ k0,X0 k0 ≠ none∧m.low ≤ (φ0 k0).b) (hX:∀ k,X' k ≠ none→k=q∨X k ≠ none):Wk m0 φ0 X0 m (φ.set q L) X' where
 next:=w.next
 low:=w.low
 low2:=w.low2
 get:=w.get
 lo:=w.lo
 nw:=fun k hk=>by
  by_cases e:k=q
  ·rw [e,Phi.set_eq]; exact .inl hL
  ·rw [Phi.set_ne _ _ e]
   rcases hX k hk with h | h
   ·exact absurd h e
   ·exact w.nw k h
 kp:=.inl hkp
end Go.Ab

set_option maxRecDepth 100000
namespace Go.Ab.Sh
open Go Go.Ab Go.Lib
variable {c:Cx} {m0 m:Mem} {φ0 φ:Phi} {s0 s:PSt} {cap:Nat} {ts:List Tmp} {Q:Value→Nat→Phi→PSt→Prop}
abbrev U32 (n:Nat):Value:=.int .u32 (n:Int)
theorem X15 (h:PS c cap m φ s) (lo z:Int) (hi:Nat) (hz:z=(hi:Int)) (hh:hi < 1000000000000) (d:Nat):CuC c cap m φ s (TA (d + 6) Q0 [pt c.C 0 0,.int .i64 lo,.int .i64 z] m) (.int .i64 (Xf c s.cu lo hi).1) (Xf c s.cu lo hi).2:=by
 subst hz
 have hl:=X2m h
 refine h.cuR (X6u _ _ _ _ _) fun m0 k=>?_
 unfold Q3o Q90
 refine k.call (X2p k.ps (d + 3)) fun m1 k1=>?_
 unfold Q91 Xf
 simp only [c_form _ hl d m1,X6,X5m,X4]
 refine Xn (fun hb=>?_) (fun hb=>?_)
 ·have:Xnn (Xk c s.cu).1=false:=by simpa using hb
  rw [this]
  exact k1.call (X3n k1.ps 130 (by decide) (d + 3)) fun m2 k2=>k2.retc
 ·have:Xnn (Xk c s.cu).1=true:=by simpa using hb
  rw [this]
  unfold Q92 Q93
  have e1:=c_lexNumber' (Xk c s.cu).1 (Nat.le_trans hl (by decide)) hi hh (d + 4) m1
  have e1:TA (d + 5) Qaw [sv (Xk c s.cu).1,.int .i64 (hi:Int)] m1=_:=e1
  simp only [e1,X6,ex0,ex1,X4,X5m]
  cases hs:(num hi (Xk c s.cu).1).isSome with
  | false =>
   simp only [Bool.not_false,Xc]
   unfold Q48 Q49
   simp only [Xc,Bool.false_eq_true,false_and,if_false,if_true]
   exact k1.call (X3n k1.ps 131 (by decide) (d + 3)) fun m2 k2=>k2.retc
  | true =>
   simp only [Bool.not_true,Xa,Qw,X4,true_and,if_true]
   unfold Q48 Q49
   by_cases hlt:((numV (num hi (Xk c s.cu).1):Nat):Int) < lo
   ·rw [decide_eq_true hlt,Xc,if_neg (by omega)]
    exact k1.call (X3n k1.ps 131 (by decide) (d + 3)) fun m2 k2=>k2.retc
   ·rw [decide_eq_false hlt,Xa,if_pos (by omega)]
    exact k1.retc
theorem X43 (h:PS c cap m φ s) (d:Nat):CuC c cap m φ s (TA (d + 5) Qt [pt c.C 0 0] m) (.int .u32 ((X1o c s.cu).1:Int)) (X1o c s.cu).2:=by
 have hl:=X2m h
 refine h.cuR (X8q _ _ _) fun m0 k=>?_
 unfold Q4i Qb3
 refine k.call (X2p k.ps (d + 2)) fun m1 k1=>?_
 simp only [c_addrParse _ (Nat.le_trans hl (by decide)) d m1,X6]
 unfold X1o Xj1
 cases Xen (Xk c s.cu).1 with
 | none =>
  simp only [ex0,ex1,X4]
  unfold Q7i Q5k
  have e:bin .neq true true .int (I 4) (.int .i64 0)=some (.bool true):=by rw [Q4z]; rfl
  simp only [e,X4,Xc]
  exact k1.call (X3n k1.ps 130 (by decide) (d + 2)) fun m2 k2=>k2.retc
 | some a =>
  simp only [ex0,ex1,X4]
  unfold Q7i Q5k
  have e:bin .neq true true .int (I 0) (.int .i64 0)=some (.bool false):=by rw [Q4z]; rfl
  simp only [e,X4,Xa]
  exact k1.retc
theorem Xun (h:PS c cap m φ s) (d:Nat):CuC c cap m φ s (TA (d + 6) Q79 [pt c.C 0 0] m) (.int .u32 ((hopC c s.cu).1:Int)) (hopC c s.cu).2:=by
 refine h.cuR (X9s _ _ _) fun m0 k=>?_
 unfold Q5l Qcj
 refine k.call (X43 k.ps d) fun m1 k1=>?_
 unfold Qck Q86 hopC
 simp only [Q3y,X4]
 refine Xn (fun hb=>?_) (fun hb=>?_)
 ·have hb:=of_decide_eq_true hb
  have:(X1o c s.cu).1=0:=by omega
  rw [if_pos this]
  exact k1.call (X3n k1.ps 131 (by decide) (d + 3)) fun m2 k2=>k2.retc
 ·have hb:=of_decide_eq_false hb
  have:(X1o c s.cu).1 ≠ 0:=fun e=>hb (by omega)
  rw [if_neg this]
  exact k1.retc
theorem Xaq (c:Cx) (cu:Cu):(X1o c cu).1 < 4294967296:=by
 unfold X1o
 cases h:Xen (Xk c cu).1 with
 | none=>show 0 < 4294967296; omega
 | some a=>exact Xmt h
theorem Xhp (h:PS c cap m φ s) (wild:Bool) (d:Nat):CuC c cap m φ s (TA (d + 6) Q3a [pt c.C 0 0,.bool wild] m) (I (X3t c s.cu wild).1) (X3t c s.cu wild).2:=by
 have ha:=Xaq c s.cu
 refine h.cuR (X8f _ _ _ _) fun m0 k=>?_
 unfold Q4j Qb4
 refine k.call (X43 k.ps d) fun m1 k1=>?_
 have fin:∀ a,a < 4294967296→(X3t c s.cu wild)=(match Xo3 a with | some n=>(n,(X1o c s.cu).2) | none=>(0,badC c (X1o c s.cu).2 10))→Res c m0 φ s (Q5m ⟨TA (d + 5),18446744073709551616⟩ (U32 a) (pt c.C 0 0) m1) (Q_c cap φ s (I (X3t c s.cu wild).1) (X3t c s.cu wild).2):=fun a hlt he=>by
  unfold Q5m
  rw [he]
  simp only [c_Bits a hlt (d + 2) m1,X6]
  unfold Xvf
  cases Xo3 a with
  | none =>
   simp only [ex0,ex1,X4]
   unfold Q7j Q5n
   have e:bin .neq true true .int (I 10) (.int .i64 0)=some (.bool true):=by rw [Q4z]; rfl
   simp only [e,X4,Xc]
   exact k1.call (X3n k1.ps 10 (by decide) (d + 3)) fun m2 k2=>k2.retc
  | some n =>
   simp only [ex0,ex1,X4]
   unfold Q7j Q5n
   have e:bin .neq true true .int (I 0) (.int .i64 0)=some (.bool false):=by rw [Q4z]; rfl
   simp only [e,X4,Xa]
   exact k1.retc
 unfold Qb5
 cases wild with
 | true =>
  simp only [Xc]
  rw [Xle _ ha,X4]
  exact fin _ (by omega) rfl
 | false =>
  simp only [Xa]
  exact fin _ ha rfl
theorem Xod (h:PS c cap m φ s) (a:Nat) (ha:a < 4294967296) (b:Int) (d:Nat):CuC c cap m φ s (TA (d + 3) Q5o [pt c.C 0 0,.int .u32 (a:Int),.int .i64 b] m) (pfx a b) (netC c s.cu a b):=by
 refine h.cuR (Xa6 _ _ _ _ _) fun m0 k=>?_
 unfold Q5p
 refine k.new fun b1 m1 k1=>?_
 unfold Qcl
 have e1:Xi Ql [(0,1),(1,1)] [(0,.int .u32 (a:Int)),(1,.int .i64 b)]=some (pfx a b):=Eq.trans rfl rfl
 rw [e1,X4]
 refine k1.new fun b2 m2 k2=>?_
 refine k2.sto (l1:=[]) (o:=0) (y:=pfx a b) (cs':=[.int .u32 (a:Int),.int .i64 b]) rfl rfl (by show 0 + 2 ≤ 2; omega) rfl fun m3 k3=>?_
 unfold Qcm
 have l1:∀ {m' ts' s'},W c m0 φ s cap m' φ s' ((b2,0,[.int .u32 (a:Int),.int .i64 b]) :: ts')→X7 true 2 (pt b2 0 0) m'=some (pfx a b):=fun w=>w.lds (o:=0) (List.mem_cons_self ..) (by show 0 + 2 ≤ 2; omega) rfl
 rw [l1 k3,X4]
 simp only [c_addrCheck a ha b d m3,X6,Q4z,X4]
 have fin:∀ m4 cu,W c m0 φ s cap m4 φ { s with cu:=cu } [(b2,0,[.int .u32 (a:Int),.int .i64 b]),(b1,0,Ql)]→Res c m0 φ s (Q6b ⟨TA (d + 2),18446744073709551616⟩ (pt b2 0 0) (pt b1 0 0) m4) (Q_c cap φ s (pfx a b) cu):=fun m4 cu k4=>by
  unfold Q6b
  rw [l1 k4,X4]
  refine k4.sto (l1:=[_]) (o:=0) (y:=pfx a b) (cs':=[.int .u32 (a:Int),.int .i64 b]) rfl rfl (by show 0 + 2 ≤ 2; omega) rfl fun m5 k5=>?_
  rw [show X7 true 2 (pt b1 0 0) m5=some (pfx a b) from k5.lds (o:=0) (List.mem_cons_of_mem _ (List.mem_cons_self ..)) (by show 0 + 2 ≤ 2; omega) rfl,Xj2]
  exact k5.retc
 unfold netC
 refine Xn (fun hb=>?_) (fun hb=>?_)
 ·have hb:=of_decide_eq_true hb
  rw [if_neg (fun e=>hb (by rw [e]; rfl))]
  exact k3.call (X3n k3.ps 10 (by decide) d) fun m4 k4=>fin m4 _ k4
 ·have hb:=of_decide_eq_false hb
  rw [if_pos (by omega)]
  exact fin m3 s.cu k3
theorem Xp6 (h:PS c cap m φ s) (d:Nat):CuC c cap m φ s (TA (d + 7) Q6t [pt c.C 0 0] m) (pfx (Xbc c s.cu).1.1 ((Xbc c s.cu).1.2:Int)) (Xbc c s.cu).2:=by
 refine h.cuR (X8w _ _ _) fun m0 k=>?_
 unfold Q4k
 refine k.new fun b1 m1 k1=>?_
 refine k1.call (X64 k1.ps [97,110,121] (d + 4)) fun m2 k2=>?_
 have fin:∀ m4 cu v,v.cells.size=2→v.cells.toList.all one=true→v=.agg ⟨v.cells.toList⟩→W c m0 φ s cap m4 φ { s with cu:=cu } [(b1,0,Ql)] →
   Res c m0 φ s (bp (unt (X8 2 (pt b1 0 0) v m4)) fun _ m=>ob (ob (X7 true 2 (pt b1 0 0) m) fun v=>ob (some []) fun l=>some (v :: l)) fun l=>some (X1g l,m)) (Q_c cap φ s v cu):=fun m4 cu v hv h1 he k4=>by
  refine k4.sto (l1:=[]) (o:=0) (cs':=v.cells.toList) hv h1 (by show 0 + 2 ≤ 2; omega) (by simp [List.drop_eq_nil_of_le,Ql]) fun m5 k5=>?_
  rw [show X7 true 2 (pt b1 0 0) m5=some v from (k5.lds (o:=0) (List.mem_cons_self ..) (by rw [Array.length_toList,hv]; decide) (by rw [List.drop_zero,List.take_of_length_le (Nat.le_of_eq (by rw [Array.length_toList,hv]))])).trans (by rw [← he]),Xj2]
  exact k5.retc
 dsimp only [Xbc]
 refine Xn (fun hb=>?_) (fun hb=>?_)
 ·rw [hb,if_pos rfl,show Xi Ql [(0,1),(1,1)] []=some (pfx 0 0) from Eq.trans rfl rfl,X4]
  exact fin m2 _ (pfx 0 0) rfl rfl rfl k2
 ·rw [hb,if_neg (by decide)]
  refine k2.call (X64 k2.ps [104,111,115,116] (d + 4)) fun m3 k3=>?_
  refine Xn (fun hb=>?_) (fun hb=>?_)
  ·rw [hb,if_pos rfl]
   refine k3.call (X43 k3.ps (d + 1)) fun m4 k4=>?_
   rw [show Xi Ql [(0,1),(1,1)] [(0,.int .u32 ((X1o c (isC c (isC c s.cu [97,110,121]).2 [104,111,115,116]).2).1:Int)),(1,.int .i64 32)]=some (pfx (X1o c (isC c (isC c s.cu [97,110,121]).2 [104,111,115,116]).2).1 32) from Eq.trans rfl rfl,X4]
   exact fin m4 _ (pfx _ 32) rfl rfl rfl k4
  ·rw [hb,if_neg (by decide)]
   refine k3.call (X43 k3.ps (d + 1)) fun m4 k4=>?_
   refine k4.call (Xhp k4.ps true d) fun m5 k5=>?_
   have law:=Xod k5.ps (X1o c (isC c (isC c s.cu [97,110,121]).2 [104,111,115,116]).2).1 (Xaq _ _) ((X3t c (X1o c (isC c (isC c s.cu [97,110,121]).2 [104,111,115,116]).2).2 true).1:Int) (d + 3)
   dsimp only at law k5
   refine k5.call law fun m6 k6=>?_
   dsimp only at k6 ⊢
   exact fin m6 (netC c (X3t c (X1o c (isC c (isC c s.cu [97,110,121]).2 [104,111,115,116]).2).2 true).2 (X1o c (isC c (isC c s.cu [97,110,121]).2 [104,111,115,116]).2).1 ((X3t c (X1o c (isC c (isC c s.cu [97,110,121]).2 [104,111,115,116]).2).2 true).1:Int)) (pfx (X1o c (isC c (isC c s.cu [97,110,121]).2 [104,111,115,116]).2).1 ((X3t c (X1o c (isC c (isC c s.cu [97,110,121]).2 [104,111,115,116]).2).2 true).1:Int)) rfl rfl rfl k6
end Go.Ab.Sh

set_option maxRecDepth 100000
namespace Go.Ab.Sh
open Go Go.Ab Go.Lib
variable {c:Cx} {m0 m:Mem} {φ0 φ:Phi} {s0 s:PSt} {cap:Nat} {ts:List Tmp} {Q:Value→Nat→Phi→PSt→Prop}
abbrev spV (a b:Int):Value:=.agg ⟨[.int .u32 a,.int .u32 b]⟩
theorem Xsr {most:Nat} (s:Str):numV (num most s) ≤ most:=by
 cases h:num most s with
 | none=>exact Nat.zero_le _
 | some n=>exact (num_some.mp h).2
theorem X93 (c:Cx) (cu:Cu) (lo:Int) (hi:Nat):0 ≤ (Xf c cu lo hi).1∧(Xf c cu lo hi).1 ≤ hi:=by
 unfold Xf
 split
 ·have:=Xsr (most:=hi) (Xk c cu).1
  constructor
  ·exact Int.natCast_nonneg _
  ·show ((numV (num hi (Xk c cu).1):Nat):Int) ≤ hi
   omega
 ·exact ⟨Int.le_refl _,Int.natCast_nonneg _⟩
theorem Xbu (c:Cx) (cu:Cu) (lo:Int) (hi:Nat) (h:hi < 4294967296) (m:Mem):conv (.int .u32) (.int .i64 (Xf c cu lo hi).1) m=some (.int .u32 (Xf c cu lo hi).1,m):=by
 have:=X93 c cu lo hi
 rw [c_int,IntWalk.u32_in _ (by omega)]
theorem Xlq (h:PS c cap m φ s) (proto:Int) (d:Nat):CuC c cap m φ s (TA (d + 7) Q68 [pt c.C 0 0,.int .i64 proto] m) (spV (X3e c s.cu proto).1.1 (X3e c s.cu proto).1.2) (X3e c s.cu proto).2:=by
 refine h.cuR (X7x _ _ _ _) fun m0 k=>?_
 unfold Q40
 refine k.new fun b1 m1 k1=>?_
 unfold Q9p
 rw [show Xi Q6z [(0,1),(1,1)] [(1,.int .u32 65535)]=some (spV 0 65535) from Eq.trans rfl rfl,X4]
 refine k1.new fun b2 m2 k2=>?_
 refine k2.sto (l1:=[]) (o:=0) (y:=spV 0 65535) (cs':=[.int .u32 0,.int .u32 65535]) rfl rfl (by show 0 + 2 ≤ 2; omega) rfl fun m3 k3=>?_
 have fin:∀ m4 cu a b,W c m0 φ s cap m4 φ { s with cu:=cu } [(b2,0,[.int .u32 0,.int .u32 65535]),(b1,0,Q6z)] →
   Res c m0 φ s (bp (unt (X8 2 (pt b1 0 0) (spV a b) m4)) fun _ m=>ob (ob (X7 true 2 (pt b1 0 0) m) fun v=>ob (some []) fun l=>some (v :: l)) fun l=>some (X1g l,m)) (Q_c cap φ s (spV a b) cu):=fun m4 cu a b k4=>by
  refine k4.sto (l1:=[_]) (o:=0) (y:=spV a b) (cs':=[.int .u32 a,.int .u32 b]) rfl rfl (by show 0 + 2 ≤ 2; omega) rfl fun m5 k5=>?_
  rw [show X7 true 2 (pt b1 0 0) m5=some (spV a b) from k5.lds (o:=0) (List.mem_cons_of_mem _ (List.mem_cons_self ..)) (by show 0 + 2 ≤ 2; omega) rfl,Xj2]
  exact k5.retc
 have al:∀ m4 cu,W c m0 φ s cap m4 φ { s with cu:=cu } [(b2,0,[.int .u32 0,.int .u32 65535]),(b1,0,Q6z)]→X7 true 2 (pt b2 0 0) m4=some (spV 0 65535):=fun m4 cu k4=>k4.lds (o:=0) (List.mem_cons_self ..) (by show 0 + 2 ≤ 2; omega) rfl
 have ab:∀ x y:Int,Xi Q6z [(0,1),(1,1)] [(0,.int .u32 x),(1,.int .u32 y)]=some (spV x y):=fun x y=>Eq.trans rfl rfl
 have k3:W c m0 φ s cap m3 φ { s with cu:=s.cu } [(b2,0,[.int .u32 0,.int .u32 65535]),(b1,0,Q6z)]:=k3
 unfold Q9o
 simp only [Q4z,X4]
 by_cases h6:proto ≠ 6∧proto ≠ 17
 ·rw [decide_eq_true h6.1,Xc,decide_eq_true h6.2]
  unfold Q36
  rw [Xc,al m3 s.cu k3,X4]
  dsimp only [X3e]
  rw [if_pos h6]
  exact fin m3 s.cu 0 65535 k3
 ·have go:∀ x,x=Q36 ⟨TA (d + 6),18446744073709551616⟩ (.bool false) (pt b2 0 0) (pt b1 0 0) (pt c.C 0 0) m3→Res c m0 φ s x (Q_c cap φ s (spV (X3e c s.cu proto).1.1 (X3e c s.cu proto).1.2) (X3e c s.cu proto).2):=fun x hx=>by
   subst hx
   unfold Q36
   rw [Xa]
   dsimp only [X3e]
   rw [if_neg h6]
   refine k3.call (X64 k3.ps [101,113] (d + 4)) fun m4 k4=>?_
   refine Xn (fun hb=>?_) (fun hb=>?_)
   ·rw [hb,if_pos rfl]
    refine k4.call (X15 k4.ps 0 65535 65535 rfl (by omega) d) fun m5 k5=>?_
    dsimp only at k5 ⊢
    simp only [Xbu c _ 0 65535 (by omega),X6,ab,X4]
    exact fin m5 _ _ _ k5
   ·rw [hb,if_neg (by decide)]
    refine k4.call (X64 k4.ps [114,97,110,103,101] (d + 4)) fun m5 k5=>?_
    refine Xn (fun hb=>?_) (fun hb=>?_)
    ·rw [hb,if_pos rfl]
     refine k5.call (X15 k5.ps 0 65535 65535 rfl (by omega) d) fun m6 k6=>?_
     dsimp only at k6 ⊢
     simp only [Xbu c _ 0 65535 (by omega),X6]
     refine k6.call (X15 k6.ps _ 65535 65535 rfl (by omega) d) fun m7 k7=>?_
     dsimp only at k7 ⊢
     simp only [Xbu c _ _ 65535 (by omega),X6,ab,X4]
     exact fin m7 _ _ _ k7
    ·rw [hb,if_neg (by decide),al m5 _ k5,X4]
     exact fin m5 _ 0 65535 k5
  by_cases h1:proto=6
  ·rw [decide_eq_false (fun e=>e h1),Xa]
   exact go _ rfl
  ·have h2:proto=17:=Classical.byContradiction fun e=>h6 ⟨h1,e⟩
   rw [decide_eq_true h1,Xc,decide_eq_false (fun e=>e h2)]
   exact go _ rfl
end Go.Ab.Sh

set_option maxRecDepth 100000
namespace Go.Ab.Sh
open Go Go.Ab Go.Lib
variable {c:Cx} {m0 m:Mem} {φ0 φ:Phi} {s0 s:PSt} {cap:Nat} {ts:List Tmp} {Q:Value→Nat→Phi→PSt→Prop}
abbrev rdL (a:Nat) (b t:Int) (n:Str):List Value:=[.int .u8 (a:Int),.int .i64 b,.int .u8 t,sv n]
abbrev rdV (a:Nat) (b t:Int) (n:Str):Value:=.agg ⟨rdL a b t n⟩
theorem Xg7 (c:Cx) (cu:Cu) (l:List Str) (h:l ≠ []):(oneC c cu l).1 < l.length:=by
 have key:∀ (w:Str) (l:List Str) (i j:Nat),idxO w l i=some j→j < i + l.length:=by
  intro w l
  induction l with
  | nil=>intro i j h; cases h
  | cons x l ih =>
   intro i j h
   unfold idxO at h
   split at h
   ·cases h; simp
   ·have:=ih (i + 1) j h
    simp only [List.length_cons]; omega
 unfold oneC
 cases hi:idxO (Xk c cu).1 l 0 with
 | none=>exact List.length_pos_iff.mpr h
 | some j=>have:=key _ _ _ _ hi; simpa using this
theorem Xu9 (d:Nat) (third:Str) (b0 b1:Nat) (z:List Value) (hz:z.length=4) (m4:Mem) (cu:Cu) (a:Nat) (b t:Int) (n:Str) (k4:W c m0 φ s cap m4 φ { s with cu:=cu } [(b1,0,rdL a b t n),(b0,0,z)]) :
  Res c m0 φ s (Q46 ⟨TA d,18446744073709551616⟩ (pt b1 0 0) (pt b0 0 0) m4) (Q_c cap φ s (rdV a b t n) cu):=by
 unfold Q46
 rw [show X7 true 4 (pt b1 0 0) m4=some (rdV a b t n) from k4.lds (o:=0) (List.mem_cons_self ..) (by show 0 + 4 ≤ 4; omega) rfl,X4]
 refine k4.sto (l1:=[_]) (o:=0) (y:=rdV a b t n) (cs':=rdL a b t n) rfl rfl (by show 0 + 4 ≤ z.length; omega) (by show [] ++ rdL a b t n ++ z.drop (0 + 4)=_; rw [List.drop_eq_nil_of_le (by omega)]; rfl) fun m5 k5=>?_
 rw [show X7 true 4 (pt b0 0 0) m5=some (rdV a b t n) from k5.lds (o:=0) (List.mem_cons_of_mem _ (List.mem_cons_self ..)) (by show 0 + 4 ≤ 4; omega) rfl,Xj2]
 exact k5.retc
theorem Xs5 (d:Nat) (b0 b1:Nat) (z:List Value) (hz:z.length=4) (m4:Mem) (cu:Cu) (a:Nat) (b t:Int) (k4:W c m0 φ s cap m4 φ { s with cu:=cu } [(b1,0,rdL a b t []),(b0,0,z)]) :
  Res c m0 φ s (Q2s ⟨TA (d + 5),18446744073709551616⟩ (pt c.C 0 0) (pt b1 0 0) (pt b0 0 0) m4) (Q_c cap φ s (rdV a b t (rmR c cu).1) (rmR c cu).2):=by
 unfold Q2s rmR
 refine k4.call (X64 k4.ps [114,111,117,116,101,45,109,97,112] (d + 3)) fun m5 k5=>?_
 refine Xn (fun hb=>?_) (fun hb=>?_)
 ·rw [if_pos hb]
  refine k5.call (X2y k5.ps d) fun m6 k6=>?_
  dsimp only at k6 ⊢
  simp only [Xe,X4]
  refine k6.sto (l1:=[]) (o:=3) (y:=sv (X1i c (isC c cu [114,111,117,116,101,45,109,97,112]).2).1) (cs':=rdL a b t (X1i c (isC c cu [114,111,117,116,101,45,109,97,112]).2).1) rfl rfl (by show 3 + 1 ≤ 4; omega) rfl fun m7 k7=>?_
  exact Xu9 _ [] b0 b1 z hz m7 _ a b t _ k7
 ·rw [if_neg (by simpa using hb)]
  exact Xu9 _ [] b0 b1 z hz m5 _ a b t [] k5
theorem Xym (c:Cx) (cu:Cu) (lo:Int) (hi:Nat) (h:hi < 256) (m:Mem):conv (.int .u8) (.int .i64 (Xf c cu lo hi).1) m=some (.int .u8 (Xf c cu lo hi).1,m):=by
 have:=X93 c cu lo hi
 rw [c_int]
 have e:IntKind.u8.wrap (Xf c cu lo hi).1=(Xf c cu lo hi).1:=by
  show (Xf c cu lo hi).1 % 256=_
  omega
 rw [e]
theorem Xoz (d:Nat) (typed:Bool) (b0 b1:Nat) (z:List Value) (hz:z.length=4) (m4:Mem) (cu:Cu) (a:Nat) (b:Int) (k4:W c m0 φ s cap m4 φ { s with cu:=cu } [(b1,0,rdL a b 0 []),(b0,0,z)]) :
  Res c m0 φ s (Q47 ⟨TA (d + 6),18446744073709551616⟩ (.bool typed) (pt b1 0 0) (pt c.C 0 0) (pt b0 0 0) m4) (Q_c cap φ s (rdV a b (tyR c cu typed).1 (rmR c (tyR c cu typed).2).1) (rmR c (tyR c cu typed).2).2):=by
 unfold Q47 tyR
 cases typed with
 | false =>
  rw [Xa,if_neg (by decide)]
  exact Xs5 (d + 1) b0 b1 z hz m4 cu a b 0 k4
 | true =>
  rw [Xc,if_pos rfl]
  simp only [Xe,X4]
  refine k4.sto (l1:=[]) (o:=2) (y:=.int .u8 2) (cs':=rdL a b 2 []) rfl rfl (by show 2 + 1 ≤ 4; omega) rfl fun m5 k5=>?_
  have k5:W c m0 φ s cap m5 φ { s with cu:=cu } [(b1,0,rdL a b 2 []),(b0,0,z)]:=k5
  refine k5.call (X64 k5.ps [116,121,112,101] (d + 4)) fun m6 k6=>?_
  refine Xn (fun hb=>?_) (fun hb=>?_)
  ·rw [if_pos hb]
   refine k6.call (X15 k6.ps 1 2 2 rfl (by omega) d) fun m7 k7=>?_
   dsimp only at k7 ⊢
   simp only [Xym c _ 1 2 (by omega),X6,Xe,X4]
   refine k7.sto (l1:=[]) (o:=2) (y:=.int .u8 (Xf c (isC c cu [116,121,112,101]).2 1 2).1) (cs':=rdL a b (Xf c (isC c cu [116,121,112,101]).2 1 2).1 []) rfl rfl (by show 2 + 1 ≤ 4; omega) rfl fun m8 k8=>?_
   exact Xs5 (d + 1) b0 b1 z hz m8 _ a b _ k8
  ·rw [if_neg (by simpa using hb)]
   exact Xs5 (d + 1) b0 b1 z hz m6 _ a b 2 k6
theorem Xx5 (d:Nat) (typed:Bool) (b0 b1:Nat) (z:List Value) (hz:z.length=4) (m4:Mem) (cu:Cu) (a:Nat) (k4:W c m0 φ s cap m4 φ { s with cu:=cu } [(b1,0,rdL a (-1) 0 []),(b0,0,z)]) :
  Res c m0 φ s (Q6k ⟨TA (d + 6),18446744073709551616⟩ (pt c.C 0 0) (pt b1 0 0) (.bool typed) (pt b0 0 0) m4) (Q_c cap φ s (rdV a (meR c cu).1 (tyR c (meR c cu).2 typed).1 (rmR c (tyR c (meR c cu).2 typed).2).1) (rmR c (tyR c (meR c cu).2 typed).2).2):=by
 unfold Q6k meR
 refine k4.call (X64 k4.ps [109,101,116,114,105,99] (d + 4)) fun m6 k6=>?_
 refine Xn (fun hb=>?_) (fun hb=>?_)
 ·rw [if_pos hb]
  refine k6.call (X15 k6.ps 0 16777216 16777216 rfl (by omega) d) fun m7 k7=>?_
  dsimp only at k7 ⊢
  simp only [Xe,X4]
  refine k7.sto (l1:=[]) (o:=1) (y:=.int .i64 (Xf c (isC c cu [109,101,116,114,105,99]).2 0 16777216).1) (cs':=rdL a (Xf c (isC c cu [109,101,116,114,105,99]).2 0 16777216).1 0 []) rfl rfl (by show 1 + 1 ≤ 4; omega) rfl fun m8 k8=>?_
  exact Xoz d typed b0 b1 z hz m8 _ a _ k8
 ·rw [if_neg (by simpa using hb)]
  exact Xoz d typed b0 b1 z hz m6 _ a (-1) k6
theorem Xr8 (h:PS c cap m φ s) (third:Str) (fr:Nat) (typed:Bool) (d:Nat):CuC c cap m φ s (TA (d + 7) Q3n [pt c.C 0 0,sv third,.int .u8 (fr:Int),.bool typed] m)
  (rdV (X2r c s.cu third fr typed).1.1 (X2r c s.cu third fr typed).1.2.1 (X2r c s.cu third fr typed).1.2.2.1 (X2r c s.cu third fr typed).1.2.2.2) (X2r c s.cu third fr typed).2:=by
 refine h.cuR (X6o _ _ _ _ _ _) fun m0 k=>?_
 unfold Q3m
 refine k.new fun b0 m1 k1=>?_
 unfold Q8z
 refine k1.bsl (cs:=[.int .u8 1,.int .u8 2,.int .u8 (fr:Int)]) rfl (by decide) fun bb m2 k2=>?_
 refine k2.bsl (cs:=[[99,111,110,110,101,99,116,101,100],[115,116,97,116,105,99],third].map sv) rfl (by decide) fun bs m3 k3=>?_
 have k3:W c m0 φ s cap m3 φ { s with cu:=s.cu } [(bs,0,[[99,111,110,110,101,99,116,101,100],[115,116,97,116,105,99],third].map sv),(bb,0,[.int .u8 1,.int .u8 2,.int .u8 (fr:Int)]),(b0,0,Q4v)]:=k3
 have lt:=Xg7 c s.cu [[99,111,110,110,101,99,116,101,100],[115,116,97,116,105,99],third] (by simp)
 refine k3.call (X6d k3.ps (k3.slx (List.mem_cons_self ..)) (by simp) (d + 3)) fun m4 k4=>?_
 generalize hO:oneC c s.cu [[99,111,110,110,101,99,116,101,100],[115,116,97,116,105,99],third]=O at k4 lt
 have lt:O.1 < 3:=lt
 have ix:Xb 1 (.slice (some ⟨bb,0,some 1⟩) 3 1) (I O.1)=some (pt bb (O.1 * 1) 0):=X3c ⟨bb,0,1⟩ (by show 1 < 2; omega) 3 1 O.1 .i64 lt
 have ld:X7 false 1 (pt bb (O.1 * 1) 0) m4=some (.int .u8 (frR O.1 fr:Int)):=k4.ld (List.mem_cons_of_mem _ (List.mem_cons_self ..)) (by
  have:O.1=0∨O.1=1∨O.1=2:=by omega
  rcases this with e | e | e <;> rw [e] <;> rfl)
 have eb:Xi Q4v [(0,1),(1,1),(2,1),(3,1)] [(0,.int .u8 (frR O.1 fr:Int)),(1,.int .i64 (-1))]=some (rdV (frR O.1 fr) (-1) 0 []):=Eq.trans rfl rfl
 simp only [ix,X4,ld,eb]
 refine k4.new fun b1 m5 k5=>?_
 refine k5.sto (l1:=[]) (o:=0) (y:=rdV (frR O.1 fr) (-1) 0 []) (cs':=rdL (frR O.1 fr) (-1) 0 []) rfl rfl (by show 0 + 4 ≤ 4; omega) rfl fun m6 k6=>?_
 have k6:W c m0 φ s cap m6 φ { s with cu:=O.2 } [(b1,0,rdL (frR O.1 fr) (-1) 0 []),(b0,0,Q4v)]:=W.sub k6 (by
  refine List.Sublist.cons_cons _ ?_
  exact List.Sublist.cons _ (List.Sublist.cons _ (List.Sublist.refl _)))
 dsimp only [X2r]
 rw [hO]
 exact Xx5 d typed b0 b1 Q4v rfl m6 O.2 (frR O.1 fr) k6
end Go.Ab.Sh

set_option maxRecDepth 100000
namespace Go.Ab.Sh
open Go Go.Ab Go.Lib
variable {c:Cx} {m0 m:Mem} {φ0 φ:Phi} {s0 s:PSt} {cap:Nat} {ts:List Tmp} {Q:Value→Nat→Phi→PSt→Prop}
abbrev enL (p:Bool) (a b:Nat) (g l:Int):List Value:=[.bool p,.int .u32 (a:Int),.int .i64 (b:Int),.int .i64 g,.int .i64 l]
abbrev enV (p:Bool) (a b:Nat) (g l:Int):Value:=.agg ⟨enL p a b g l⟩
theorem Xuo (d:Nat) (b0 b1:Nat) (z:List Value) (hz:z.length=5) (m4:Mem) (cu:Cu) (p:Bool) (a b:Nat) (g l:Int) {ts:List Tmp} (k4:W c m0 φ s cap m4 φ { s with cu:=cu } [(b1,0,enL p a b g l),(b0,0,z)]) :
  Res c m0 φ s (Q4w ⟨TA d,18446744073709551616⟩ (pt b1 0 0) (pt b0 0 0) m4) (Q_c cap φ s (enV p a b g l) cu):=by
 unfold Q4w
 rw [show X7 true 5 (pt b1 0 0) m4=some (enV p a b g l) from k4.lds (o:=0) (List.mem_cons_self ..) (by show 0 + 5 ≤ 5; omega) rfl,X4]
 refine k4.sto (l1:=[_]) (o:=0) (y:=enV p a b g l) (cs':=enL p a b g l) rfl rfl (by show 0 + 5 ≤ z.length; omega) (by show [] ++ enL p a b g l ++ z.drop (0 + 5)=_; rw [List.drop_eq_nil_of_le (by omega)]; rfl) fun m5 k5=>?_
 rw [show X7 true 5 (pt b0 0 0) m5=some (enV p a b g l) from k5.lds (o:=0) (List.mem_cons_of_mem _ (List.mem_cons_self ..)) (by show 0 + 5 ≤ 5; omega) rfl,Xj2]
 exact k5.retc
theorem Xyf (d:Nat) (b0 b1:Nat) (z:List Value) (hz:z.length=5) (m4:Mem) (cu:Cu) (p:Bool) (a b:Nat) (g l:Int) (k4:W c m0 φ s cap m4 φ { s with cu:=cu } [(b1,0,enL p a b g l),(b0,0,z)]) :
  Res c m0 φ s (Q4x ⟨TA (d + 6),18446744073709551616⟩ (pt c.C 0 0) (pt b1 0 0) (pt b0 0 0) m4) (Q_c cap φ s (enV p a b g (leR c cu g l).1) (leR c cu g l).2):=by
 unfold Q4x leR
 refine k4.call (X64 k4.ps [108,101] (d + 4)) fun m5 k5=>?_
 refine Xn (fun hb=>?_) (fun hb=>?_)
 ·rw [if_pos hb]
  have ld:X7 false 1 (pt b1 3 0) m5=some (.int .i64 g):=k5.ld (List.mem_cons_self ..) rfl
  simp only [Xe,X4,Nat.zero_add,ld]
  refine k5.call (X15 k5.ps g 32 32 rfl (by omega) d) fun m6 k6=>?_
  dsimp only at k6 ⊢
  refine k6.sto (l1:=[]) (o:=4) (y:=.int .i64 (Xf c (isC c cu [108,101]).2 g 32).1) (cs':=enL p a b g (Xf c (isC c cu [108,101]).2 g 32).1) rfl rfl (by show 4 + 1 ≤ 5; omega) rfl fun m7 k7=>?_
  exact Xuo _ b0 b1 z hz m7 _ p a b g _ (ts:=[]) k7
 ·rw [if_neg (by simpa using hb)]
  exact Xuo _ b0 b1 z hz m5 _ p a b g l (ts:=[]) k5
theorem Xz9 (d:Nat) (b0 b1 b2:Nat) (z:List Value) (hz:z.length=5) (m4:Mem) (cu:Cu) (p:Bool) (a b:Nat) (k4:W c m0 φ s cap m4 φ { s with cu:=cu } [(b2,0,[.int .u32 (a:Int),.int .i64 (b:Int)]),(b1,0,enL p a b b b),(b0,0,z)]) :
  Res c m0 φ s (Q70 ⟨TA (d + 6),18446744073709551616⟩ (pt c.C 0 0) (pt b2 0 0) (pt b1 0 0) (pt b0 0 0) m4) (Q_c cap φ s (enV p a b (geR c cu b).1.1 (leR c (geR c cu b).2 (geR c cu b).1.1 (geR c cu b).1.2).1) (leR c (geR c cu b).2 (geR c cu b).1.1 (geR c cu b).1.2).2):=by
 unfold Q70 geR
 refine k4.call (X64 k4.ps [103,101] (d + 4)) fun m5 k5=>?_
 refine Xn (fun hb=>?_) (fun hb=>?_)
 ·rw [if_pos hb]
  have ld:X7 false 1 (pt b2 1 0) m5=some (.int .i64 (b:Int)):=k5.ld (List.mem_cons_self ..) rfl
  simp only [Xe,X4,Nat.zero_add,ld]
  refine k5.call (X15 k5.ps b 32 32 rfl (by omega) d) fun m6 k6=>?_
  dsimp only at k6 ⊢
  refine k6.sto (l1:=[_]) (o:=3) (y:=.int .i64 (Xf c (isC c cu [103,101]).2 b 32).1) (cs':=enL p a b (Xf c (isC c cu [103,101]).2 b 32).1 b) rfl rfl (by show 3 + 1 ≤ 5; omega) rfl fun m7 k7=>?_
  refine k7.sto (l1:=[_]) (o:=4) (y:=.int .i64 32) (cs':=enL p a b (Xf c (isC c cu [103,101]).2 b 32).1 32) rfl rfl (by show 4 + 1 ≤ 5; omega) rfl fun m8 k8=>?_
  have k8:W c m0 φ s cap m8 φ { s with cu:=(Xf c (isC c cu [103,101]).2 b 32).2 } ((b2,0,[.int .u32 (a:Int),.int .i64 (b:Int)]) :: [(b1,0,enL p a b (Xf c (isC c cu [103,101]).2 b 32).1 32),(b0,0,z)]):=k8
  exact Xyf d b0 b1 z hz m8 _ p a b _ 32 k8.tl
 ·rw [if_neg (by simpa using hb)]
  exact Xyf d b0 b1 z hz m5 _ p a b b b k5.tl
theorem Xvo (d:Nat) (b0 b1 b2:Nat) (z:List Value) (hz:z.length=5) (m4:Mem) (cu:Cu) (p:Bool) (a b:Nat) (k4:W c m0 φ s cap m4 φ { s with cu:=cu } [(b2,0,[.int .u32 (a:Int),.int .i64 (b:Int)]),(b1,0,enL p 0 0 0 0),(b0,0,z)]) :
  Res c m0 φ s (Q37 ⟨TA (d + 6),18446744073709551616⟩ (pt b2 0 0) (pt b1 0 0) (pt c.C 0 0) (pt b0 0 0) m4) (Q_c cap φ s (enV p a b (geR c cu b).1.1 (leR c (geR c cu b).2 (geR c cu b).1.1 (geR c cu b).1.2).1) (leR c (geR c cu b).2 (geR c cu b).1.1 (geR c cu b).1.2).2):=by
 unfold Q37
 have lb:∀ m' cs',W c m0 φ s cap m' φ { s with cu:=cu } ((b2,0,[.int .u32 (a:Int),.int .i64 (b:Int)]) :: cs')→X7 false 1 (pt b2 1 0) m'=some (.int .i64 (b:Int)):=fun m' cs' w=>w.ld (List.mem_cons_self ..) rfl
 have lp:X7 true 2 (pt b2 0 0) m4=some (pfx (a:Int) (b:Int)):=k4.lds (o:=0) (List.mem_cons_self ..) (by show 0 + 2 ≤ 2; omega) rfl
 simp only [lp,X4,Xe,Nat.zero_add,lb m4 _ k4]
 refine k4.sto (l1:=[_]) (o:=1) (y:=pfx (a:Int) (b:Int)) (cs':=enL p a b 0 0) rfl rfl (by show 1 + 2 ≤ 5; omega) rfl fun m5 k5=>?_
 simp only [lb m5 _ k5,X4x,Bool.and_true,X2c]
 refine k5.sto (l1:=[_]) (o:=3) (y:=.int .i64 (b:Int)) (cs':=enL p a b b 0) rfl rfl (by show 3 + 1 ≤ 5; omega) rfl fun m6 k6=>?_
 simp only [lb m6 _ k6,X4x,Bool.and_true,X2c]
 refine k6.sto (l1:=[_]) (o:=4) (y:=.int .i64 (b:Int)) (cs':=enL p a b b b) rfl rfl (by show 4 + 1 ≤ 5; omega) rfl fun m7 k7=>?_
 exact Xz9 d b0 b1 b2 z hz m7 cu p a b k7
theorem Xtk (h:PS c cap m φ s) (d:Nat):CuC c cap m φ s (TA (d + 7) Q87 [pt c.C 0 0] m)
  (enV (X54 c s.cu).1.1 (X54 c s.cu).1.2.1 (X54 c s.cu).1.2.2.1 (X54 c s.cu).1.2.2.2.1 (X54 c s.cu).1.2.2.2.2) (X54 c s.cu).2:=by
 refine h.cuR (X7z _ _ _) fun m0 k=>?_
 unfold Q41
 refine k.new fun b0 m1 k1=>?_
 unfold Q9q
 refine k1.bsl (cs:=[[112,101,114,109,105,116],[100,101,110,121]].map sv) rfl (by decide) fun bs m3 k3=>?_
 have k3:W c m0 φ s cap m3 φ { s with cu:=s.cu } [(bs,0,[[112,101,114,109,105,116],[100,101,110,121]].map sv),(b0,0,Q3x)]:=k3
 refine k3.call (X6d k3.ps (k3.slx (List.mem_cons_self ..)) (by simp) (d + 3)) fun m4 k4=>?_
 generalize hO:oneC c s.cu [[112,101,114,109,105,116],[100,101,110,121]]=O at k4
 have eb:∀ p:Bool,Xi Q3x [(0,1),(1,2),(3,1),(4,1)] [(0,.bool p)]=some (enV p 0 0 0 0):=fun p=>Eq.trans rfl rfl
 have eq0:bin .eql true true .int (I O.1) (.int .i64 0)=some (.bool (decide (O.1=0))):=by
  rw [Q3y]
  congr 2
  simp only [decide_eq_decide]
  omega
 simp only [eq0,X4,eb]
 refine k4.new fun b1 m5 k5=>?_
 refine k5.sto (l1:=[]) (o:=0) (y:=enV (decide (O.1=0)) 0 0 0 0) (cs':=enL (decide (O.1=0)) 0 0 0 0) rfl rfl (by show 0 + 5 ≤ 5; omega) rfl fun m6 k6=>?_
 have k6:W c m0 φ s cap m6 φ { s with cu:=O.2 } [(b1,0,enL (decide (O.1=0)) 0 0 0 0),(b0,0,Q3x)]:=W.sub k6 (by
  refine List.Sublist.cons_cons _ ?_
  exact List.Sublist.cons _ (List.Sublist.refl _))
 unfold Q9r
 have hl:=X2m k6.ps
 refine k6.call (X2p k6.ps (d + 4)) fun m7 k7=>?_
 dsimp only at k7 hl ⊢
 simp only [c_addrPrefix _ (Nat.le_trans hl (by decide)) (d + 1) m7,X6,Xve,ex0,ex1,X4]
 refine k7.new fun b2 m8 k8=>?_
 generalize hq:Xjn (Xk c O.2).1=q
 refine k8.sto (l1:=[]) (o:=0) (y:=pfx (q.1:Int) (q.2.1:Int)) (cs':=[.int .u32 (q.1:Int),.int .i64 (q.2.1:Int)]) rfl rfl (by show 0 + 2 ≤ 2; omega) rfl fun m9 k9=>?_
 have k9:W c m0 φ s cap m9 φ { s with cu:=(Xk c O.2).2 } [(b2,0,[.int .u32 (q.1:Int),.int .i64 (q.2.1:Int)]),(b1,0,enL (decide (O.1=0)) 0 0 0 0),(b0,0,Q3x)]:=k9
 unfold Q9s
 dsimp only [X54]
 rw [hO]
 have e0:∀ e:Nat,bin .eql true true .int (I q.2.2) (.int .i64 (e:Int))=some (.bool (decide (q.2.2=e))):=fun e=>by
  rw [Q3y]
  congr 2
  simp only [decide_eq_decide]
  omega
 have e1:bin .eql true true .int (I q.2.2) (.int .i64 0)=some (.bool (decide (q.2.2=0))):=e0 0
 have e2:bin .eql true true .int (I q.2.2) (.int .i64 10)=some (.bool (decide (q.2.2=10))):=e0 10
 simp only [e1,e2,X4]
 unfold pfR
 rw [hq]
 refine Xn (fun hb=>?_) (fun hb=>?_)
 ·rw [if_pos (of_decide_eq_true hb)]
  exact Xvo d b0 b1 b2 Q3x rfl m9 _ _ q.1 q.2.1 k9
 ·rw [if_neg (of_decide_eq_false hb)]
  refine Xn (fun hb=>?_) (fun hb=>?_)
  ·rw [if_pos (of_decide_eq_true hb)]
   exact k9.call (X3n k9.ps 10 (by decide) (d + 4)) fun m10 k10=>Xvo d b0 b1 b2 Q3x rfl m10 _ _ q.1 q.2.1 k10
  ·rw [if_neg (of_decide_eq_false hb)]
   exact k9.call (X3n k9.ps 130 (by decide) (d + 4)) fun m10 k10=>Xvo d b0 b1 b2 Q3x rfl m10 _ _ q.1 q.2.1 k10
end Go.Ab.Sh

set_option maxRecDepth 100000
namespace Go.Ab
open Go
theorem Xbs {n b:Nat} (h:n ≤ 8589934592) (hb:b ≤ 256):fits (n + 1) b=true:=by
 have h1:(n + 1) * b ≤ 8589934593 * 256:=Nat.mul_le_mul (by omega) hb
 unfold fits
 rw [Nat.ble_eq.mpr (by omega),Nat.ble_eq.mpr (by omega)]
 rfl
end Go.Ab
namespace Go.Ab.Sh
open Go Go.Ab Go.Lib
variable {c:Cx} {m0 m:Mem} {φ0 φ:Phi} {s0 s s':PSt} {cap δ:Nat} {ts:List Tmp} {x:Option Rs} {Q:Value→Nat→Phi→PSt→Prop} {v:Value} {cu:Cu}
theorem X29 (s:PSt) (cu:Cu):(s.at cu).cu=cu:=rfl
abbrev Q_p (cap δ:Nat) (v:Value) (s':PSt):Value→Nat→Phi→PSt→Prop:=fun v' cap1 _ s1=>v'=v∧cap1 ≤ cap + δ∧s1=s'
noncomputable def PaD (c:Cx) (cap δ:Nat) (m:Mem) (φ:Phi) (s:PSt) (x:Option Rs) (v:Value) (s':PSt):Prop:=Res c m φ s x (Q_p cap δ v s')
theorem PS.pad (h:PS c cap m φ s) {b:Mem→Option Rs} (ht:x=outOf m (b (withLow m m.next))) (go:∀ m0,W c m0 φ s cap m0 φ s []→Res c m0 φ s (b m0) (Q_p cap δ v s')):PaD c cap δ m φ s x v s':=by
 subst ht
 exact h.call (b:=b) _ fun m0 k=>go m0 (W.start k)
theorem PS.stR (h:PS c cap m φ s) {b:Mem→Option Rs} (ht:x=outOf m (b (withLow m m.next))) (go:∀ m0,W c m0 φ s cap m0 φ s []→Res c m0 φ s (b m0) (Q_s cap φ v s')):StC c cap m φ s x v s':=by
 subst ht
 exact StC.ofRes (h.call (b:=b) _ fun m0 k=>go m0 (W.start k))
theorem W.pd (h:W c m0 φ0 s0 cap m φ s ts) {y:Option Rs} {w:Value} {s1:PSt} (law:PaD c cap δ m φ s y w s1) {k:Value→Mem→Option Rs} (g:∀ cap1 m1 φ1,cap1 ≤ cap + δ→W c m0 φ0 s0 cap1 m1 φ1 s1 ts→Res c m0 φ0 s0 (k w m1) Q):Res c m0 φ0 s0 (bp y k) Q:=by
 obtain ⟨v',m1,cap1,φ1,s1',a1,a2,a3,rfl,a4,rfl⟩:=law
 rw [a1,X6]
 exact g cap1 m1 φ1 a4 (h.go a2 a3)
theorem W.retp {cap1:Nat} {φ1:Phi} (h:W c m0 φ s cap1 m φ1 s' ts) (hc:cap1 ≤ cap + δ):Res c m0 φ s (some (v,m)) (Q_p cap δ v s'):=h.ret ⟨rfl,hc,rfl⟩
theorem StC.pad (h:StC c cap m φ s x v s'):PaD c cap δ m φ s x v s':=by
 obtain ⟨m',a1,a2,a3⟩:=h
 exact ⟨v,m',cap,φ,s',a1,a2,a3,rfl,Nat.le_add_right _ _,rfl⟩
theorem W.cl (h:W c m0 φ0 s0 cap m φ s ts) {y:Option Rs} {w:Value} (law:CuC c cap m φ s y w cu) {k:Value→Mem→Option Rs} (g:∀ m1,W c m0 φ0 s0 cap m1 φ (s.at cu) ts→Res c m0 φ0 s0 (k w m1) Q):Res c m0 φ0 s0 (bp y k) Q:=by
 obtain ⟨m1,a1,a2,a3⟩:=law
 rw [a1,X6]
 exact g m1 (h.go a2 a3)
theorem Xbv {l:List Cl} {a:Key} (o:Option NO) (hr:s.X [0]=some (.c l)) (h1:a ≠ [1]) (h0:a ≠ [0]):(toX c s).set a o=toX c { s with X:=s.X.set a o }:=by
 have a2:s.X.set a o [0]=some (.c l):=by rw [NX.set_ne _ _ (Ne.symm h0)]; exact hr
 have e:toX c { s with X:=s.X.set a o }=(stF (s.X.set a o) [0] 12 (midV c s)).set [1] (some (.c (cc c s.cu))):=rfl
 rw [e,X1c a2]
 unfold toX
 rw [X1c hr,X26 _ _ _ (Ne.symm h1),X26 _ _ _ (Ne.symm h0)]
theorem Xyw {k:Key} {r o r':Nat} (hr:kt k=some r) (hf:fdAt r o=some (.l r')) (e:k=[0]):o < 12∨15 ≤ o:=by
 subst e
 cases hr
 rcases Nat.lt_or_ge o 12 with q | q
 ·exact .inl q
 ·refine .inr (Nat.le_of_not_lt fun q2=>?_)
  have:o=12∨o=13∨o=14:=by omega
  rcases this with rfl | rfl | rfl <;> cases hf
theorem fd_row {r sz:Nat} (hs:rowL r=sz) (i f:Nat) (h:f < sz):fdAt r (i * sz + f)=(rowT r)[f]?:=by subst hs; exact fdAt_row r i f h
theorem ok_s {t:Str} (h:t.length ≤ SB):okc (some .s) (.v (sv t)):=⟨t,rfl,h⟩
theorem ok_i (k:IntKind) (z:Int):okc (some (.i k)) (.v (.int k z)):=⟨z,rfl⟩
theorem ok_b (b:Bool):okc (some .b) (.v (.bool b)):=⟨b,rfl⟩
theorem ok_l (r n:Nat):okc (some (.l r)) (.s n (rowL r)):=rfl
theorem PS.list (h:PS c cap m φ s) {k:Key} {l:List Cl} {r o r':Nat} (hk:s.X k=some (.c l)) (hr:kt k=some r) (ho:o < l.length) (hf:fdAt r o=some (.l r')) :
  l[o]?=some (.s (nOf s.X k o) (rowL r'))∧nOf s.X k o ≤ cap∧X7 false 1 (pt (φ k).b o (φ k).ver) m=some (slV (φ (o :: k)) (nOf s.X k o) (rowL r'))∧(nOf s.X k o=0→s.X (o :: k)=none) ∧
   (nOf s.X k o ≠ 0→∃ l',s.X (o :: k)=some (.c l')∧l'.length=nOf s.X k o * rowL r'∧(φ (o :: k)).r < 2):=by
 obtain ⟨c',q1,q2⟩:=h.wt.get hk hr ho
 rw [hf] at q2
 cases c' with
 | v x=>exact False.elim q2
 | s n sz =>
  have q2:sz=rowL r':=q2
  subst q2
  have e:nOf s.X k o=n:=by unfold nOf; rw [X8v hk,q1]; rfl
  rw [e]
  have hk1:=(X1j hr).1
  have hr2:=X2z hr hf
  have hk2:=(X1j hr2).1
  have hk0:o :: k ≠ [0]:=fun e=>by injection e with e1 e2; exact X32 hr e2
  have h12:=Xyw hr hf
  obtain ⟨l',a,al,b⟩:=X7r (c:=c) h.wt hk1 hk
  have w:=h.nr.ow k l' o n (rowL r') a (by rw [b o h12]; exact q1)
  rw [X6a hk2 hk0] at w
  refine ⟨q1,w.1,h.ldl hk1 hk h12 q1,fun hz=>?_,fun hz=>?_⟩
  ·have:=w.2.2
   rw [if_pos hz] at this
   exact this
  ·have:=w.2.2
   rw [if_neg hz] at this
   obtain ⟨l2,a1,a2⟩:=this
   exact ⟨l2,a1,a2,h.nr.r2 _ (by rw [X6a hk2 hk0,a1]; simp)⟩
theorem PS.dev (h:PS c cap m φ s) {f r' sz:Nat} (hf:fdAt 0 f=some (.l r')) (h18:f < 18) (hs:rowL r'=sz) :
  (∃ l,s.X [0]=some (.c l)∧f < l.length)∧nOf s.X [0] f ≤ cap∧X7 false 1 (pt c.P f 0) m=some (slV (φ [f,0]) (nOf s.X [0] f) sz)∧(nOf s.X [0] f=0→s.X [f,0]=none) ∧
   (nOf s.X [0] f ≠ 0→∃ l',s.X [f,0]=some (.c l')∧l'.length=nOf s.X [0] f * sz∧(φ [f,0]).r < 2):=by
 subst hs
 obtain ⟨l,a,b⟩:=h.wt.root
 obtain ⟨_,q2,q3,q4,q5⟩:=h.list a (r:=0) rfl (by omega) hf
 rw [h.pP] at q3
 exact ⟨⟨l,a,by omega⟩,q2,q3,q4,q5⟩
theorem subI {n:Nat} (h:0 < n) (h2:n ≤ 4611686018427387904):bin .sub true true .int (I n) (.int .i64 1)=some (I (n - 1:Nat)):=by
 rw [Qf0]
 have:((n:Nat):Int) - 1=((n - 1:Nat):Int):=by omega
 rw [this,wrap64 _ (by omega)]
theorem PS.lrow (h:PS c cap m φ s) (hc:cap ≤ 8589934592) {k:Key} {l:List Cl} {r o r' sz:Nat} (hk:s.X k=some (.c l)) (hr:kt k=some r) (ho:o < l.length) (hf:fdAt r o=some (.l r')) (hs:rowL r'=sz) (hn:0 < nOf s.X k o) :
  ∃ l',s.X (o :: k)=some (.c l')∧l'.length=nOf s.X k o * sz∧(nOf s.X k o - 1) * sz + sz ≤ l'.length∧X7 false 1 (pt (φ k).b o (φ k).ver) m=some (slV (φ (o :: k)) (nOf s.X k o) sz) ∧
   bin .sub true true .int (I (nOf s.X k o)) (.int .i64 1)=some (I (nOf s.X k o - 1:Nat))∧Xb sz (slV (φ (o :: k)) (nOf s.X k o) sz) (I (nOf s.X k o - 1:Nat))=some (pt (φ (o :: k)).b ((nOf s.X k o - 1) * sz) (φ (o :: k)).ver):=by
 subst hs
 obtain ⟨_,q2,q3,_,q5⟩:=h.list hk hr ho hf
 obtain ⟨l',a1,a2,a3⟩:=q5 (by omega)
 refine ⟨l',a1,a2,?_,q3,subI hn (Nat.le_trans q2 (Nat.le_trans hc (by decide))),X3c _ a3 _ _ _ _ (by omega)⟩
 rw [a2]
 generalize nOf s.X k o=n at hn
 obtain ⟨n,rfl⟩:∃ j,n=j + 1:=⟨n - 1,by omega⟩
 rw [Nat.add_sub_cancel,Nat.add_mul,Nat.one_mul]
 exact Nat.le_refl _
theorem PS.last (h:PS c cap m φ s) (hc:cap ≤ 8589934592) {f r' sz:Nat} (hf:fdAt 0 f=some (.l r')) (h18:f < 18) (hs:rowL r'=sz) (hn:0 < nOf s.X [0] f) :
  ∃ l',s.X [f,0]=some (.c l')∧l'.length=nOf s.X [0] f * sz∧(nOf s.X [0] f - 1) * sz + sz ≤ l'.length∧X7 false 1 (pt c.P f 0) m=some (slV (φ [f,0]) (nOf s.X [0] f) sz) ∧
   bin .sub true true .int (I (nOf s.X [0] f)) (.int .i64 1)=some (I (nOf s.X [0] f - 1:Nat))∧Xb sz (slV (φ [f,0]) (nOf s.X [0] f) sz) (I (nOf s.X [0] f - 1:Nat))=some (pt (φ [f,0]).b ((nOf s.X [0] f - 1) * sz) (φ [f,0]).ver):=by
 obtain ⟨l,a,b⟩:=h.wt.root
 have:=h.lrow hc a (r:=0) rfl (by omega) hf hs hn
 rw [h.pP] at this
 exact this
theorem W.st1 (h:W c m0 φ0 s0 cap m φ s ts) {k:Key} {l:List Cl} {r o:Nat} {x:Value} (hk:s.X k=some (.c l)) (hr:kt k=some r) (ho:o < l.length) (hx:x.cells=#[x]) (h1:one x=true) (h0:k ≠ [0]) (hty:okc (fdAt r o) (.v x)) {K:Mem→Option Rs}
  (g:∀ m1 l',stF s.X k o [x] k=some (.c l')→l'.length=l.length→W c m0 φ0 s0 cap m1 φ (s.sto k o [x]) ts→Res c m0 φ0 s0 (K m1) Q) :
  Res c m0 φ0 s0 (bp (unt (X8 1 (pt (φ k).b o (φ k).ver) x m)) fun _ m=>K m) Q:=by
 have e:x.cells.toList=[x]:=by rw [hx]
 refine h.stv hk hr (by rw [hx]; rfl) (by rw [e]; simp [h1]) (by omega) (fun q=>absurd q h0) (fun i y hy=>?_) fun m1 k1=>?_
 ·rw [e] at hy
  match i,hy with
  | 0,hy=>cases hy; exact hty
 ·rw [e] at k1
  refine g m1 _ (by rw [X1c hk,NX.set_eq]) ?_ k1
  simp
  omega
theorem W.stn (h:W c m0 φ0 s0 cap m φ s ts) {k:Key} {l:List Cl} {r o n:Nat} {xs:List Value} (hk:s.X k=some (.c l)) (hr:kt k=some r) (hn:xs.length=n) (ho:o + n ≤ l.length) (h1:xs.all one=true) (h0:k ≠ [0]) (hty:∀ i y,xs[i]?=some y→okc (fdAt r (o + i)) (.v y)) {K:Mem→Option Rs}
  (g:∀ m1,W c m0 φ0 s0 cap m1 φ (s.sto k o xs) ts→Res c m0 φ0 s0 (K m1) Q) :
  Res c m0 φ0 s0 (bp (unt (X8 n (pt (φ k).b o (φ k).ver) (.agg ⟨xs⟩) m)) fun _ m=>K m) Q:=
 h.stv (x:=.agg ⟨xs⟩) hk hr hn h1 ho (fun q=>absurd q h0) hty g
theorem W.str1 (h:W c m0 φ0 s0 cap m φ s ts) {o:Nat} {x:Value} (hx:x.cells=#[x]) (h1:one x=true) (ho:o < 18) (h12:o < 12∨15 ≤ o) (hty:okc (fdAt 0 o) (.v x)) {K:Mem→Option Rs}
  (g:∀ m1,W c m0 φ0 s0 cap m1 φ (s.sto [0] o [x]) ts→Res c m0 φ0 s0 (K m1) Q) :
  Res c m0 φ0 s0 (bp (unt (X8 1 (pt c.P o 0) x m)) fun _ m=>K m) Q:=by
 have e:x.cells.toList=[x]:=by rw [hx]
 obtain ⟨l,a,b⟩:=h.ps.wt.root
 refine h.str a (by rw [hx]; rfl) (by rw [e]; simp [h1]) (by omega) (by omega) (fun i y hy=>?_) fun m1 k1=>?_
 ·rw [e] at hy
  match i,hy with
  | 0,hy=>cases hy; exact hty
 ·rw [e] at k1
  exact g m1 k1
theorem W.apk {b2:Nat} {cs:List Cl} (h:W c m0 φ0 s0 cap m φ s ((b2,0,cs.map Cl.raw) :: ts)) (hcb:cap ≤ 8589934592) {k:Key} {l:List Cl} {r r' o sz e bytes:Nat} (hk:s.X k=some (.c l)) (hr:kt k=some r) (ho:o < l.length) (hf:fdAt r o=some (.l r')) (hs:rowL r'=sz) (hc:cs.length=sz) (hnew:cs.all Cl.new=true)
  (hcs:∀ (i:Nat) (d:Cl),cs[i]?=some d→okc ((rowT r')[i]?) d) (hb:bytes ≤ 256) {K:Mem→Option Rs}
  (g:∀ cap1 m1 φ1,cap1 ≤ cap + 1→(∀ k',k' ≠ o :: k→φ1 k'=φ k')→W c m0 φ0 s0 cap1 m1 φ1 (s.app k o cs) ts→Res c m0 φ0 s0 (K m1) Q) :
  Res c m0 φ0 s0 (bp (apS e sz bytes (slV (φ (o :: k)) (nOf s.X k o) sz) (.slice (some ⟨b2,0,some sz⟩) 1 1) m) fun x m=>bp (unt (X8 1 (pt (φ k).b o (φ k).ver) x m)) fun _ m=>K m) Q:=by
 subst hs
 obtain ⟨q1,q2,_⟩:=h.ps.list hk hr ho hf
 exact h.apv hk hr hf q1 hc hnew hcs (Xbs (Nat.le_trans q2 hcb) hb) g
theorem W.apk2 {b2:Nat} {cs:List Cl} (h:W c m0 φ0 s0 cap m φ s ((b2,0,cs.map Cl.raw) :: ts)) (hcb:cap ≤ 8589934592) {k:Key} {l:List Cl} {r r' o sz e bytes:Nat} (hk:s.X k=some (.c l)) (hr:kt k=some r) (ho:o < l.length) (hf:fdAt r o=some (.l r')) (hs:rowL r'=sz) (hc:cs.length=sz) (hnew:cs.all Cl.new=true)
  (hcs:∀ (i:Nat) (d:Cl),cs[i]?=some d→okc ((rowT r')[i]?) d) (hb:bytes ≤ 256) {K:Mem→Option Rs} {K2:Value→Mem→Option Rs}
  (hK:∀ v' m1,(∀ a,toX c s a ≠ none→a ≠ o :: k→m1.get (φ a).b=m.get (φ a).b)→K2 v' m1=bp (unt (X8 1 (pt (φ k).b o (φ k).ver) v' m1)) fun _ m=>K m)
  (g:∀ cap1 m1 φ1,cap1 ≤ cap + 1→(∀ k',k' ≠ o :: k→φ1 k'=φ k')→W c m0 φ0 s0 cap1 m1 φ1 (s.app k o cs) ts→Res c m0 φ0 s0 (K m1) Q) :
  Res c m0 φ0 s0 (bp (apS e sz bytes (slV (φ (o :: k)) (nOf s.X k o) sz) (.slice (some ⟨b2,0,some sz⟩) 1 1) m) K2) Q:=by
 subst hs
 obtain ⟨q1,q2,_⟩:=h.ps.list hk hr ho hf
 exact h.apv2 hk hr hf q1 hc hnew hcs (Xbs (Nat.le_trans q2 hcb) hb) hK g
theorem Xt8 {m m1:Mem} {b o r:Nat} (h:m1.get b=m.get b):X7 false 1 (pt b o r) m1=X7 false 1 (pt b o r) m:=by
 rw [X7l,X7l]
 simp only [Xd6,Xw,X10,h]
theorem W.apr {b2:Nat} {cs:List Cl} (h:W c m0 φ0 s0 cap m φ s ((b2,0,cs.map Cl.raw) :: ts)) (hcb:cap ≤ 8589934592) {r' o sz e bytes:Nat} (h18:o < 18) (hf:fdAt 0 o=some (.l r')) (hs:rowL r'=sz) (hc:cs.length=sz) (hnew:cs.all Cl.new=true)
  (hcs:∀ (i:Nat) (d:Cl),cs[i]?=some d→okc ((rowT r')[i]?) d) (hb:bytes ≤ 256) {K:Mem→Option Rs}
  (g:∀ cap1 m1 φ1,cap1 ≤ cap + 1→(∀ k',k' ≠ [o,0]→φ1 k'=φ k')→W c m0 φ0 s0 cap1 m1 φ1 (s.app [0] o cs) ts→Res c m0 φ0 s0 (K m1) Q) :
  Res c m0 φ0 s0 (bp (apS e sz bytes (slV (φ [o,0]) (nOf s.X [0] o) sz) (.slice (some ⟨b2,0,some sz⟩) 1 1) m) fun x m=>bp (unt (X8 1 (pt c.P o 0) x m)) fun _ m=>K m) Q:=by
 have e:pt c.P o 0=pt (φ [0]).b o (φ [0]).ver:=by rw [h.ps.pP]
 obtain ⟨l,a,b⟩:=h.ps.wt.root
 rw [e]
 exact h.apk hcb a (r:=0) rfl (by omega) hf hs hc hnew hcs hb g
noncomputable def okL:List Fd→List Cl→Prop
 | [],[]=>True
 | e :: fs,d :: ds=>okc (some e) d∧okL fs ds
 | _,_=>False
theorem X2k:∀ {t:List Fd} {l:List Cl},okL t l→∀ (i:Nat) (d:Cl),l[i]?=some d→okc (t[i]?) d
 | [],[],_,i,d,hd=>by simp at hd
 | g :: fs,e :: ds,h,0,d,hd=>by cases hd; exact h.1
 | g :: fs,e :: ds,h,i + 1,d,hd=>X2k h.2 i d hd
 | [],_ :: _,h,_,_,_=>False.elim h
 | _ :: _,[],h,_,_,_=>False.elim h
theorem X35 (h:PS c cap m φ s):(X1i c s.cu).1.length ≤ 65536:=X2m h
theorem Xoi (h:PS c cap m φ s):(vrfC c s.cu).1.length ≤ 65536:=by
 unfold vrfC
 split
 ·obtain ⟨m1,a1,a2,a3⟩:=X64 h [118,114,102] 0
  exact X35 (s:={ s with cu:=(isC c s.cu [118,114,102]).2 }) a2
 ·exact Nat.zero_le _
end Go.Ab.Sh

set_option maxRecDepth 100000
namespace Go.Ab
open Go Go.Lib
theorem Xz5 (c g:Bool) (a n:Nat) (ha:a < 65536) (hn:n < 65536):bin .or c g .int (.int .u32 ((a * 65536:Nat):Int)) (.int .u32 (n:Int))=some (.int .u32 ((a * 65536 + n:Nat):Int)):=by
 rw [X1u]
 simp only [binO,ne_eq,not_true_eq_false,if_false]
 have e1:(BitVec.ofInt 32 ((a * 65536:Nat):Int) ||| BitVec.ofInt 32 (n:Int)).toNat=a * 65536 + n:=by
  rw [BitVec.ofInt_natCast,BitVec.ofInt_natCast,BitVec.toNat_or,BitVec.toNat_ofNat,BitVec.toNat_ofNat,Nat.mod_eq_of_lt (by omega),Nat.mod_eq_of_lt (by omega)]
  have h:=Nat.shiftLeft_add_eq_or_of_lt (i:=16) (b:=n) (by omega) a
  rw [Nat.shiftLeft_eq] at h
  exact h.symm
 have e2:(BitVec.ofInt IntKind.u32.bits ((a * 65536:Nat):Int) ||| BitVec.ofInt IntKind.u32.bits (n:Int)).toNat=a * 65536 + n:=e1
 rw [e2,IntWalk.u32_in _ (by omega)]
theorem Xxw (c g:Bool) (a:Nat) (ha:a < 65536):bin .shl c g .int (.int .u32 (a:Int)) (.int .u64 16)=some (.int .u32 ((a * 65536:Nat):Int)):=by
 rw [X1u]
 show (if (16:Int) < 0 then none else some (Value.int .u32 (IntKind.u32.wrap ((a:Int) * 2 ^ (min (16:Int).toNat 32)))))=_
 have e:((a:Int) * 2 ^ (min (16:Int).toNat 32))=((a * 65536:Nat):Int):=by
  have:(2:Int) ^ (min (16:Int).toNat 32)=65536:=rfl
  rw [this]; omega
 rw [if_neg (by omega),e,IntWalk.u32_in _ (by omega)]
theorem Xrq (x y:Int):∃ z,(∃ w,bin .shl true true .int (.int .u32 x) (.int .u64 16)=some (.int .u32 w)∧bin .or false true .int (.int .u32 w) (.int .u32 y)=some (.int .u32 z)):=by
 obtain ⟨w,hw⟩:∃ w,bin .shl true true .int (.int .u32 x) (.int .u64 16)=some (.int .u32 w):=⟨IntKind.u32.wrap (x * 2 ^ (min (16:Int).toNat 32)),by
  rw [X1u]
  show (if (16:Int) < 0 then none else some (Value.int .u32 (IntKind.u32.wrap (x * 2 ^ (min (16:Int).toNat 32)))))=_
  rw [if_neg (by omega)]⟩
 obtain ⟨z,hz⟩:∃ z,bin .or false true .int (.int .u32 w) (.int .u32 y)=some (.int .u32 z):=⟨IntKind.u32.wrap ((BitVec.ofInt IntKind.u32.bits w ||| BitVec.ofInt IntKind.u32.bits y).toNat:Int),by
  rw [X1u]
  simp only [binO,ne_eq,not_true_eq_false,if_false]⟩
 exact ⟨z,w,hw,hz⟩
end Go.Ab
namespace Go.Ab.Sh
open Go Go.Ab Go.Lib
variable {c:Cx} {m0 m:Mem} {φ0 φ:Phi} {s0 s s':PSt} {cap δ:Nat} {ts:List Tmp} {x:Option Rs} {Q:Value→Nat→Phi→PSt→Prop} {v:Value} {cu:Cu}
theorem c_listsText (a:Nat) (ha:a < 4294967296) (d:Nat) (m:Mem):TA (d + 1) Qfl [.int .u32 (a:Int)] m=some (sv (decDigits (a / 65536) ++ [58] ++ decDigits (a % 65536)),m):=by
 rw [Xjk]
 refine X1x (m1:=withLow m m.next) ?_ (.refl _ _) rfl
 generalize withLow m m.next=m0
 have h1:a / 65536 < 65536:=by omega
 have h2:a % 65536 < 65536:=Nat.mod_lt _ (by omega)
 have e1:bin .shr true true .int (.int .u32 (a:Int)) (.int .u64 16)=some (.int .u32 ((a / 65536:Nat):Int)):=Xka _ _ a 16 ha (by omega)
 have e2:bin .and true true .int (.int .u32 (a:Int)) (.int .u32 65535)=some (.int .u32 ((a % 65536:Nat):Int)):=Xjq true true a 16 ha (by omega)
 have w1:IntKind.i64.wrap ((a / 65536:Nat):Int)=((a / 65536:Nat):Int):=wrap64 _ (by omega)
 have w2:IntKind.i64.wrap ((a % 65536:Nat):Int)=((a % 65536:Nat):Int):=wrap64 _ (by omega)
 have c1:=c_ItoaN (a / 65536) (by omega) d m0
 have c2:=c_ItoaN (a % 65536) (by omega) d m0
 have l1:=X6b (a / 65536) (by omega)
 have l2:=X6b (a % 65536) (by omega)
 unfold Qb2
 simp only [e1,X4,c_int,w1,X6,c1,X1a,Qi3 _ _ (decDigits (a / 65536)) [58] (by simp; omega),e2,w2,c2,Qi3 _ _ (decDigits (a / 65536) ++ [58]) (decDigits (a % 65536)) (by simp; omega)]
theorem c_listsParse (s:Str) (hs:s.length ≤ 4194304) (d:Nat) (m:Mem):TA (d + 3) Qf5 [sv s] m=some (.tuple ⟨[.int .u32 ((X3x s).getD 0:Nat),.int .i64 (if (X3x s).isSome=true then 0 else 4)]⟩,m):=by
 rw [Xgn]
 have hcl:=Xgf 58 s
 have hcut:TA (d + 2) Q3w [sv s,sv [58]] (withLow m m.next)=_:=c_CutO s hs 58 d (withLow m m.next)
 obtain ⟨u1,e1,mP,r1,r2,r3⟩:=c_Pu 16 (.inl rfl) (cutO 58 s).1 (by omega) (d + 2) (withLow m m.next)
 obtain ⟨u2,e2,mQ,q1,q2,q3⟩:=c_Pu 16 (.inl rfl) (cutO 58 s).2.1 (by omega) (d + 2) mP
 have r1:TA (d + 2) Q7 [sv (cutO 58 s).1,.int .i64 10,.int .i64 16] (withLow m m.next)=_:=r1
 have q1:TA (d + 2) Q7 [sv (cutO 58 s).2.1,.int .i64 10,.int .i64 16] mP=_:=q1
 have F:Fb m.next (withLow m m.next) mQ:=(Fr.toFb r2 (Nat.le_refl _)).trans (Fr.toFb q2 r2.next)
 refine X1x (m1:=mQ) ?_ F (by split <;> rfl)
 unfold Q99 Qfp Qfo Qfn Qfm
 simp only [X1a,hcut,X6,ex0,ex1,ex2,X4,r1,q1,c_int]
 obtain ⟨z,w,z1,z2⟩:=Xrq (IntKind.u32.wrap u1) (IntKind.u32.wrap u2)
 simp only [z1,z2,X4]
 unfold Qfk
 have bad:∀ p:Str→Option Nat,(p s).isSome=false→Q4b ⟨TA (d + 2),18446744073709551616⟩ (.bool true) (.int .u32 z) mQ=some (.tuple ⟨[.int .u32 ((p s).getD 0:Nat),.int .i64 (if (p s).isSome=true then 0 else 4)]⟩,mQ):=fun p hp=>by
  unfold Q4b
  rw [Xc,hp]
  have:p s=none:=by simpa using hp
  rw [this]
  rfl
 rcases r3 with ⟨a,h1,rfl,rfl⟩ | ⟨h1,p,rfl⟩
 ·rcases q3 with ⟨b,k1,rfl,rfl⟩ | ⟨k1,p,rfl⟩
  ·have ha:=Xxv h1
   have hb:=Xxv k1
   have wa:IntKind.u32.wrap (a:Int)=a:=IntWalk.u32_in _ (by omega)
   have wb:IntKind.u32.wrap (b:Int)=b:=IntWalk.u32_in _ (by omega)
   rw [wa,Xxw true true a (by omega)] at z1
   cases z1
   rw [wb,Xz5 false true a b (by omega) (by omega)] at z2
   cases z2
   have ct:=c_listsText (a * 65536 + b) (by omega) (d + 1) mQ
   rw [show (a * 65536 + b) / 65536=a by omega,show (a * 65536 + b) % 65536=b by omega] at ct
   simp only [nilI,X4,Xa,ct,X6,Qkc]
   by_cases he:decDigits a ++ [58] ++ decDigits b=s
   ·have hc:X3x s=some (a * 65536 + b):=by
     unfold X3x
     rw [h1,k1]
     exact if_pos he
    rw [hc,decide_eq_false (fun h=>h he)]
    unfold Q4b
    rw [Xa]
    rfl
   ·have hc:X3x s=none:=by
     unfold X3x
     rw [h1,k1]
     exact if_neg he
    rw [hc,decide_eq_true he]
    unfold Q4b
    rw [Xc]
    rfl
  ·have hn:(X3x s).isSome=false:=by
    unfold X3x
    rw [h1]
    cases h:parseUintB 16 (cutO 58 s).2.1 with
    | ok n=>exact absurd h (k1 n)
    | _=>rfl
   simp only [nilI,X4,Xa,Xvb,Xc]
   exact bad X3x hn
 ·have hn:(X3x s).isSome=false:=by
   unfold X3x
   cases h:parseUintB 16 (cutO 58 s).1 with
   | ok n=>exact absurd h (h1 n)
   | _=>rfl
  simp only [Xvb,X4,Xc]
  exact bad X3x hn
theorem W.fresh (h:W c m0 φ0 s0 cap m φ s ts) {m1:Mem} {ver:Nat} {cs:List Value} {ty:Option Nat} (hn:m1.next=m.next + 1) (hl:m1.low=m.low) (hg:∀ b,b < m.next→m1.get b=m.get b) (hb:m1.get m.next=some (.cells cs ver 0 false ty)):W c m0 φ0 s0 cap m1 φ s ((m.next,ver,cs) :: ts):=by
 have w2:Wk m φ (toX c s) m1 φ (toX c s):=⟨by omega,by omega,fun _ h _ _=>by omega,fun b hb _=>hg b hb,fun b hb=>.inr (hg b hb),fun k hk=>.inr ⟨k,hk,rfl⟩,.inr ⟨fun _ _=>rfl,fun _ h=>h⟩⟩
 have P2:=h.ps.step (h.ps.nr.same (by omega) fun k hk=>hg _ (h.ps.nr.hi k hk)) w2 ⟨rfl,rfl,rfl⟩ h.ps.ok
 have H:=h.go P2 w2
 exact {
  ps:=P2
  wk:=H.wk
  wb:=h.wb
  lt:=fun t ht=>by
   rcases List.mem_cons.mp ht with e | e
   ·subst e; exact ⟨h.wk.next,by show m.next < m1.next; omega⟩
   ·exact H.lt t e
  nx:=fun t ht k hk=>by
   rcases List.mem_cons.mp ht with e | e
   ·subst e; exact Nat.ne_of_lt (h.ps.nr.hi k hk)
   ·exact H.nx t e k hk
  at':=fun t ht=>by
   rcases List.mem_cons.mp ht with e | e
   ·subst e; exact ⟨ty,hb⟩
   ·exact H.at' t e
  nd:=by
   show (m.next :: ts.map (·.1)).Nodup
   rw [List.nodup_cons]
   refine ⟨fun hm=>?_,h.nd⟩
   obtain ⟨t,ht,e⟩:=List.mem_map.mp hm
   have:=(h.lt t ht).2
   omega }
theorem PS.callT {cap1:Nat} {m1:Mem} {φ1:Phi} {s1:PSt} (h:PS c cap m φ s) (hx:x=some (v,m1)) (k:W c (withLow m m.next) φ s cap1 m1 φ1 s1 ts) (hv:refs m.next 8 v=false):∃ m2,outOf m x=some (v,m2)∧W c m φ s cap1 m2 φ1 s1 ts:=by
 subst hx
 have hc:(Nat.ble m.next m1.low && refs m.next 8 v)=false:=by rw [hv,Bool.and_false]
 have e:∀ v' m2,gc m v m1=(v',m2)→outOf m (some (v,m1))=some (v',m2):=fun v' m2 h=>by simp only [outOf,h]
 have hw:=k.wk
 refine ⟨Go.Ab.withLow m1 (min m.low m1.low),e _ _ (by rw [Xhc]; unfold gcO; rw [hc]; rfl),{ k with
  ps:=k.ps.wl' _
  wk:={
   next:=hw.next
   low:=Nat.min_le_left _ _
   low2:=fun y a b c=>by
    have:=hw.low2 y b b c
    show y ≤ min m.low m1.low
    omega
   get:=hw.get
   lo:=fun b hb=>by
    rcases hw.lo b hb with q | q
    ·exact .inl (Nat.le_trans (Nat.min_le_right _ _) q)
    ·exact .inr q
   nw:=hw.nw
   kp:=by
    rcases hw.kp with ⟨k,a,b⟩ | q
    ·exact .inl ⟨k,a,Nat.le_trans (Nat.min_le_right _ _) b⟩
    ·exact .inr q }
  lt:=k.lt
  at':=k.at' }⟩
theorem W.join {cap1:Nat} {m1:Mem} {φ1:Phi} {s1:PSt} {ts1:List Tmp} (h:W c m0 φ0 s0 cap m φ s ts) (k:W c m φ s cap1 m1 φ1 s1 ts1):W c m0 φ0 s0 cap1 m1 φ1 s1 (ts1 ++ ts):=by
 have H:=h.go k.ps k.wk
 exact {
  ps:=k.ps
  wk:=H.wk
  wb:=h.wb
  lt:=fun t ht=>by
   rcases List.mem_append.mp ht with e | e
   ·exact ⟨Nat.le_trans h.wk.next (k.lt t e).1,(k.lt t e).2⟩
   ·exact H.lt t e
  nx:=fun t ht=>by
   rcases List.mem_append.mp ht with e | e
   ·exact k.nx t e
   ·exact H.nx t e
  at':=fun t ht=>by
   rcases List.mem_append.mp ht with e | e
   ·exact k.at' t e
   ·exact H.at' t e
  nd:=by
   rw [List.map_append,List.nodup_append]
   refine ⟨k.nd,h.nd,fun a ha b hb e=>?_⟩
   obtain ⟨t,ht,rfl⟩:=List.mem_map.mp ha
   obtain ⟨u,hu,rfl⟩:=List.mem_map.mp hb
   have:=(k.lt t ht).1
   have:=(h.lt u hu).2
   omega }
theorem W.gapp {L:Lc} {n b2 e bytes:Nat} {vs:List Value} {y:Value} (h:W c m0 φ0 s0 cap m φ s ((b2,0,[y]) :: (if n=0 then [] else [(L.b,L.ver,vs)]) ++ ts)) (hL:n ≠ 0→L.r < 2) (hn:vs.length=n) (h1:one y=true) (hb:fits (n + 1) bytes=true) :
  ∃ m1 L',apS e 1 bytes (slV L n 1) (.slice (some ⟨b2,0,some 1⟩) 1 1) m=some (slV L' (n + 1) 1,m1)∧L'.r < 2∧m0.next ≤ L'.b∧W c m0 φ0 s0 cap m1 φ s ((L'.b,L'.ver,vs ++ [y]) :: ts):=by
 obtain ⟨ty2,hb2⟩:=h.at' (b2,0,[y]) (List.mem_cons_self ..)
 have hty:∃ ty,n ≠ 0→m.get L.b=some (.cells vs L.ver 0 false ty):=by
  by_cases hz:n=0
  ·exact ⟨none,fun q=>absurd hz q⟩
  ·rw [if_neg hz] at h
   obtain ⟨ty,q⟩:=h.at' (L.b,L.ver,vs) (by simp)
   exact ⟨ty,fun _=>q⟩
 obtain ⟨ty,hgt⟩:=hty
 obtain ⟨L',ty',m1,k1,k2,k3,k4,k5⟩:=Xhk (e:=e) (bytes:=bytes) (L:=L) (n:=n) (size:=1) (c:=vs) (new:=[y]) hgt hL (by omega) hb2 rfl (by simp [h1]) (Nat.le_refl _) hb
 refine ⟨m1,L',k1,k3,?_⟩
 have T:W c m0 φ0 s0 cap m φ s ((if n=0 then [] else [(L.b,L.ver,vs)]) ++ ts):=h.tl
 rcases k5 with ⟨e1,e2,e3,e4⟩ | ⟨e1,e3,e4⟩
 ·rw [if_neg e2] at T
  have T:W c m0 φ0 s0 cap m φ s ([] ++ (L.b,L.ver,vs) :: ts):=T
  have hlt:=(T.lt (L.b,L.ver,vs) (by simp))
  have u:=T.upd (r':=L'.ver) (cs':=vs ++ [y]) (m1:=m1) (ty:=ty') e3 e4 (fun b' q hb'=>k4 b' q (by rw [e1]; exact hb')) (by rw [← e1]; exact k2)
  rw [e1]
  exact ⟨hlt.1,u⟩
 ·have u:=T.fresh (ver:=L'.ver) (cs:=vs ++ [y]) (ty:=ty') e3 e4 (fun b hb=>k4 b hb (by omega)) (by rw [← e1]; exact k2)
  rw [e1]
  refine ⟨h.wk.next,u.sub (List.Sublist.cons_cons _ ?_)⟩
  exact List.sublist_append_right _ _
theorem W.bslE (h:W c m0 φ0 s0 cap m φ s ts) {T n sz:Nat} {zero cs:List Value} {parts:List (Nat × Value)} (hf:fill (fun i=>some (i * sz,sz)) (rep n zero) parts=some cs) (hs:sz ≠ 0) :
  ∃ b m1,X9 T zero sz n parts m=some (.slice (some ⟨b,0,some sz⟩) n 1,m1)∧W c m0 φ0 s0 cap m1 φ s ((b,0,cs) :: ts):=by
 refine ⟨_,_,?_,h.push cs (some (2 * T))⟩
 rw [X28]
 unfold X21
 rw [hf]
 exact if_neg hs
noncomputable def cmL (L:Lc) (vals:List Nat):List Tmp:=if vals.length=0 then [] else [(L.b,L.ver,vals.map u32)]
noncomputable def cmU (c:Cx) (cu:Cu):Cu:=if (X3x (Xk c cu).1).isSome=true then (Xk c cu).2 else badC c (Xk c cu).2 130
theorem X45 (c:Cx) (f:Nat) (cu:Cu):X20 c (f + 1) cu=if X2w c (cmU c cu)=true then ((X3x (Xk c cu).1).getD 0 :: (X20 c f (cmU c cu)).1,(X20 c f (cmU c cu)).2) else ([(X3x (Xk c cu).1).getD 0],cmU c cu):=rfl
theorem Xi4 (cu:Cu) (col:Nat) (e:Int):(X60 cu col e).er.isNone=false:=by
 unfold X60
 cases he:cu.er.isNone with
 | true=>rfl
 | false=>simpa using he
theorem Xq3 {c:Cx} {cu:Cu} (h:cu.er.isNone=false):X2w c cu=false:=by unfold X2w; rw [h]; rfl
theorem Xq4 {c:Cx} {cu cu':Cu} (hc:cu'=(Xk c cu).2∨∃ e,cu'=badC c (Xk c cu).2 e) (h:X2w c cu'=true):X2w c cu=true∧cu'.pl=cu.pl + 1:=by
 rcases hc with rfl | ⟨e,rfl⟩
 ·unfold Xk at h ⊢
  cases hm:X2w c cu with
  | false =>
   rw [hm] at h
   rw [if_neg (by decide),Xq3 (Xi4 _ _ _)] at h
   cases h
  | true=>exact ⟨rfl,rfl⟩
 ·have:(badC c (Xk c cu).2 e).er.isNone=false:=Xi4 _ _ _
  rw [Xq3 this] at h
  cases h
theorem Xth {c:Cx} {cu:Cu} (h:X2w c (cmU c cu)=true):X2w c cu=true∧(cmU c cu).pl=cu.pl + 1:=by
 refine Xq4 ?_ h
 unfold cmU
 split
 ·exact .inl rfl
 ·exact .inr ⟨130,rfl⟩
theorem Xtp {c:Cx} {cu:Cu} {lo:Int} {hi:Nat} (h:X2w c (Xf c cu lo hi).2=true):X2w c cu=true∧(Xf c cu lo hi).2.pl=cu.pl + 1:=by
 refine Xq4 ?_ h
 unfold Xf
 by_cases g:Xnn (Xk c cu).1=true
 ·rw [if_pos g]
  by_cases g2:(num hi (Xk c cu).1).isSome=true∧lo ≤ (numV (num hi (Xk c cu).1):Int)
  ·exact .inl (if_pos g2)
  ·exact .inr ⟨131,if_neg g2⟩
 ·rw [if_neg g]; exact .inr ⟨130,rfl⟩
theorem Xfl (d:Nat):∀ (f F:Nat) (cu:Cu) (vals:List Nat) (L:Lc) (m:Mem),c.ws.length - cu.pl < f→c.ws.length - cu.pl + 1 < F→vals.length + (c.ws.length - cu.pl) ≤ 8589934592→(vals.length ≠ 0→L.r < 2)→W c m0 φ0 s0 cap m φ (s.at cu) (cmL L vals) →
  ∃ m' L',Q12 ⟨TA (d + 3),18446744073709551616⟩ F (.bool true) (pt c.C 0 0) (slV L vals.length 1) m=some (slV L' (vals ++ (X20 c f cu).1).length 1,m')∧W c m0 φ0 s0 cap m' φ (s.at (X20 c f cu).2) [(L'.b,L'.ver,(vals ++ (X20 c f cu).1).map u32)]∧L'.r < 2∧m0.next ≤ L'.b
 | f + 1,F + 1,cu,vals,L,m,h1,h2,h3,h4,k=>by
  have hl:(Xk c cu).1.length ≤ 65536:=X2m k.ps
  obtain ⟨m1,a1,a2,a3⟩:=X2p k.ps (d + 1)
  have k1:W c m0 φ0 s0 cap m1 φ (s.at (Xk c cu).2) (cmL L vals):=k.go a2 a3
  have a1:TA (d + 3) Qd [pt c.C 0 0] m=some (sv (Xk c cu).1,m1):=a1
  have cp:=c_listsParse (Xk c cu).1 (Nat.le_trans hl (by decide)) d m1
  have step:∀ m2,W c m0 φ0 s0 cap m2 φ (s.at (cmU c cu)) (cmL L vals)→∃ m' L',Q4y ⟨TA (d + 3),18446744073709551616⟩ (Q12 ⟨TA (d + 3),18446744073709551616⟩ F) (slV L vals.length 1) (.int .u32 ((X3x (Xk c cu).1).getD 0:Nat)) (pt c.C 0 0) m2=some (slV L' (vals ++ (X20 c (f + 1) cu).1).length 1,m')∧W c m0 φ0 s0 cap m' φ (s.at (X20 c (f + 1) cu).2) [(L'.b,L'.ver,(vals ++ (X20 c (f + 1) cu).1).map u32)]∧L'.r < 2∧m0.next ≤ L'.b:=fun m2 k2=>by
   unfold Q4y
   obtain ⟨b,m3,e3,k3⟩:=k2.bslE (T:=Qg9) (n:=1) (sz:=1) (zero:=[.int .u32 0]) (parts:=[(0,.int .u32 ((X3x (Xk c cu).1).getD 0:Nat))]) (cs:=[u32 ((X3x (Xk c cu).1).getD 0)]) rfl (by decide)
   have k3:W c m0 φ0 s0 cap m3 φ (s.at (cmU c cu)) ((b,0,[u32 ((X3x (Xk c cu).1).getD 0)]) :: (if vals.length=0 then [] else [(L.b,L.ver,vals.map u32)]) ++ []):=by rw [List.append_nil]; exact k3
   obtain ⟨m4,L',e4,hr,hb,k4⟩:=k3.gapp (e:=Qg9) (bytes:=4) h4 (by rw [List.length_map]) rfl (Xbs (by omega) (by decide))
   have hm:=c_more k4.ps (d + 2)
   have hm:TA (d + 3) Q18 [pt c.C 0 0] m4=some (.bool (X2w c (cmU c cu)),m4):=hm
   rw [X45]
   simp only [e3,X6,e4,hm]
   have k4:W c m0 φ0 s0 cap m4 φ (s.at (cmU c cu)) [(L'.b,L'.ver,(vals ++ [(X3x (Xk c cu).1).getD 0]).map u32)]:=by rw [List.map_append]; exact k4
   have hv:(vals ++ [(X3x (Xk c cu).1).getD 0]).length=vals.length + 1:=by simp
   cases hmo:X2w c (cmU c cu) with
   | true =>
    obtain ⟨g1,g2⟩:=Xth hmo
    have g3:=X8p (s:=s.at cu) g1
    have g3:cu.pl < c.ws.length:=g3
    have ih:=Xfl d f F (cmU c cu) (vals ++ [(X3x (Xk c cu).1).getD 0]) L' m4 (by omega) (by omega) (by omega) (fun _=>hr) (by unfold cmL; rw [if_neg (by omega)]; exact k4)
    rw [hv,List.append_assoc] at ih
    rw [if_pos rfl]
    exact ih
   | false =>
    rw [if_neg (by decide)]
    obtain ⟨F,rfl⟩:∃ j,F=j + 1:=⟨F - 1,by omega⟩
    refine ⟨m4,L',?_,k4,hr,hb⟩
    unfold Q12
    rw [Xa]
    unfold Q9t
    rw [hv]
  unfold Q12
  rw [Xc]
  unfold Q9u
  simp only [a1,X6,cp,ex0,ex1,X4]
  unfold Q9v
  simp only [Q4z,X4]
  unfold cmU at step
  cases hs:(X3x (Xk c cu).1).isSome with
  | true =>
   rw [hs] at step
   simp only [if_true,ne_eq,not_true_eq_false,decide_false,Xa] at step ⊢
   exact step m1 k1
  | false =>
   rw [hs] at step
   simp only [Bool.false_eq_true,if_false,ne_eq] at step ⊢
   rw [show decide (¬ (4:Int)=0)=true from rfl,Xc]
   obtain ⟨m2,b1,b2,b3⟩:=X3n k1.ps 130 (by decide) (d + 1)
   have b1:TA (d + 3) Q3 [pt c.C 0 0,.int .i64 130] m1=some (.tuple ⟨[]⟩,m2):=b1
   rw [b1,X6]
   exact step m2 (k1.go b2 b3)
theorem Xdw (c:Cx) (f:Nat) (cu:Cu):(X20 c (f + 1) cu).1.length ≠ 0:=by
 rw [X45]
 split <;> simp
theorem Xbe (c:Cx):∀ (f:Nat) (cu:Cu),(X20 c f cu).1.length ≤ f
 | 0,cu=>Nat.le_refl 0
 | f + 1,cu=>by
  rw [X45]
  have:=Xbe c f (cmU c cu)
  split
  ·simp only [List.length_cons]; omega
  ·simp
theorem Xmh {L:Lc} {n k sz:Nat} (h:n ≠ 0) (hb:k ≤ L.b):refs k 8 (slV L n sz)=false:=by
 unfold slV
 rw [if_neg h]
 show Nat.blt L.b k=false
 cases hh:Nat.blt L.b k with
 | false=>rfl
 | true=>have:=Nat.blt_eq.mp hh; omega
theorem Xm9 (h:PS c cap m φ s) (d:Nat):∃ L m',TA (d + 4) Q2v [pt c.C 0 0] m=some (slV L (X20 c (c.ws.length + 1) s.cu).1.length 1,m')∧W c m φ s cap m' φ (s.at (X20 c (c.ws.length + 1) s.cu).2) [(L.b,L.ver,(X20 c (c.ws.length + 1) s.cu).1.map u32)]∧L.r < 2:=by
 rw [X81]
 have k:W c (withLow m m.next) φ s cap (withLow m m.next) φ (s.at s.cu) (cmL ⟨0,0,0⟩ []):=W.start (h.wl' m.next)
 have hle:=h.wl.len
 obtain ⟨m1,L,e1,k1,k2,k3⟩:=Xfl d (c.ws.length + 1) 18446744073709551616 s.cu [] ⟨0,0,0⟩ (withLow m m.next) (by omega) (by omega) (by simp only [List.length_nil]; omega) (fun q=>absurd rfl q) k
 rw [List.nil_append] at e1 k1
 have e2:Q2x ⟨TA (d + 3),18446744073709551616⟩ (pt c.C 0 0) (withLow m m.next)=some (slV L (X20 c (c.ws.length + 1) s.cu).1.length 1,m1):=by
  unfold Q2x Q9w Q9x Q9y
  exact e1
 obtain ⟨m2,q1,q2⟩:=h.callT e2 k1 (Xmh (Xdw _ _ _) k3)
 exact ⟨L,m2,q1,q2,k2⟩
end Go.Ab.Sh

set_option maxRecDepth 100000
namespace Go.Ab.Sh
open Go Go.Ab Go.Lib
variable {c:Cx} {m0 m:Mem} {φ0 φ:Phi} {s0 s s':PSt} {cap δ:Nat} {ts:List Tmp} {x:Option Rs} {Q:Value→Nat→Phi→PSt→Prop} {v:Value} {cu:Cu}
theorem Xn8 {α:Type} (A:List α) (x y:α):(A ++ [x]).set A.length y=A ++ [y]:=by simp
theorem Xzi {k:Key} {r o:Nat} (hr:kt k=some r) (hf:fdAt r o=some (.l 11)):k ≠ [9,0]:=fun e=>by
 subst e
 cases hr
 unfold fdAt at hf
 have:o % rowL 12=0∨o % rowL 12=1∨o % rowL 12=2:=by
  have:=Nat.mod_lt o (Xge 12)
  have e:rowL 12=3:=rfl
  omega
 rcases this with e | e | e <;> rw [e] at hf <;> cases hf
theorem W.apo {b2:Nat} {L:Lc} {pre vs:List Value} {n:Nat} (h:W c m0 φ0 s0 cap m φ s ((b2,0,pre ++ [slV L n 1]) :: (L.b,L.ver,vs) :: ts)) (hLr:L.r < 2) (hn:vs.length=n) (hn0:n ≠ 0) (hvs:∀ v ∈ vs,∃ z,v=.int .u32 z) (hcb:cap ≤ 8589934592)
  {k:Key} {l:List Cl} {r r' o sz e bytes:Nat} (hk:s.X k=some (.c l)) (hr:kt k=some r) (h0:k ≠ [0]) (ho:o < l.length) (hf:fdAt r o=some (.l r')) (hs:rowL r'=sz) (hc:pre.length + 1=sz) (hpre:pre.all one=true)
  (hcs:∀ (i:Nat) (d:Cl),(pre.map Cl.v ++ [Cl.s 0 1])[i]?=some d→okc ((rowT r')[i]?) d) (hla:(rowT r')[pre.length]?=some (.l 11)) (hb:bytes ≤ 256) {K:Mem→Option Rs} {K2:Value→Mem→Option Rs}
  (hK:∀ v' m1,(∀ a,toX c s a ≠ none→a ≠ o :: k→m1.get (φ a).b=m.get (φ a).b)→K2 v' m1=bp (unt (X8 1 (pt (φ k).b o (φ k).ver) v' m1)) fun _ m=>K m)
  (g:∀ cap1 m1 φ1,cap1 ≤ cap + 1 + n→W c m0 φ0 s0 cap1 m1 φ1 (s.adopt k o (pre.map .v) vs) ts→Res c m0 φ0 s0 (K m1) Q) :
  Res c m0 φ0 s0 (bp (apS e sz bytes (slV (φ (o :: k)) (nOf s.X k o) sz) (.slice (some ⟨b2,0,some sz⟩) 1 1) m) K2) Q:=by
 subst hs
 obtain ⟨q1,q2,_,_,_⟩:=h.ps.list hk hr ho hf
 have hk1:=(X1j hr).1
 have hr2:=X2z hr hf
 have hko1:o :: k ≠ [1]:=(X1j hr2).1
 have hko0:o :: k ≠ [0]:=fun e=>by injection e with e1 e2; exact X32 hr e2
 obtain ⟨_,hol,hoe⟩:=Xrt h.ps hk hr hf q1
 have a:toX c s k=some (.c l):=by rw [X6a hk1 h0]; exact hk
 obtain ⟨lr,hroot,hroot2⟩:=h.ps.wt.root
 obtain ⟨ty2,hb2⟩:=h.at' (b2,0,pre ++ [slV L n 1]) (List.mem_cons_self ..)
 have hsn:slV L n 1=.slice (some ⟨L.b,0,some 1⟩) n (2 * L.ver + L.r):=if_neg hn0
 generalize hN:nOf s.X k o=N at *
 let cs:List Cl:=(pre ++ [slV L n 1]).map .v
 have hraw:cs.map Cl.raw=pre ++ [slV L n 1]:=by
  show (List.map Cl.v _).map Cl.raw=_
  rw [List.map_map]
  exact List.map_id _
 have hcl:cs.length=rowL r':=by show (List.map _ _).length=_; simp; omega
 have hnew:cs.all Cl.new=true:=by
  rw [List.all_eq_true]
  intro d hd
  obtain ⟨y,hy,rfl⟩:=List.mem_map.mp hd
  rcases List.mem_append.mp hy with e | e
  ·exact List.all_eq_true.mp hpre y e
  ·rw [List.mem_singleton.mp e]; exact X6k _ _ _
 obtain ⟨v',m1,m2,φ',p1,p2,p3,p4,p5,_,p6,p7⟩:=h.ps.nr.app (e:=e) (bytes:=bytes) (cs:=cs) a q1 (by rw [hraw]; exact hb2) hcl hnew (Xbs (Nat.le_trans q2 hcb) hb)
 rw [hoe] at p3 p4
 have p1:apS e (rowL r') bytes (slV (φ (o :: k)) N (rowL r')) (.slice (some ⟨b2,0,some (rowL r')⟩) 1 1) m=some (v',m1):=p1
 rw [p1,X6,hK _ _ p7,p2,Xp]
 generalize hold:X23 s.X (o :: k)=old at *
 have hx2:((toX c s).set (o :: k) (some (.c (old ++ cs)))).set k (some (.c (l.set o (.s (N + 1) (rowL r'))))) (o :: k)=some (.c (old ++ cs)):=by
  rw [NX.set_ne _ _ (X30 o k),NX.set_eq]
 have hpos:old.length + pre.length=(old ++ pre.map Cl.v).length:=by simp
 have hcs2:old ++ cs=(old ++ pre.map Cl.v) ++ [.v (slV L n 1)]:=by show old ++ List.map _ _=_; simp
 have hget:(old ++ cs)[old.length + pre.length]?=some (.v (slV L n 1)):=by
  rw [hcs2,hpos,List.getElem?_append_right (Nat.le_refl _),Nat.sub_self]; rfl
 obtain ⟨tyL,hgL⟩:=h.at' (L.b,L.ver,vs) (by simp)
 have hlt:=h.lt (L.b,L.ver,vs) (by simp)
 have hnx:=h.nx (L.b,L.ver,vs) (by simp)
 have hgL2:m2.get L.b=some (.cells vs L.ver 0 false tyL):=by rw [p4.get _ hlt.2 hnx]; exact hgL
 have hnone:((toX c s).set (o :: k) (some (.c (old ++ cs)))).set k (some (.c (l.set o (.s (N + 1) (rowL r'))))) ((old.length + pre.length) :: o :: k)=none:=by
  rw [NX.set_ne _ _ (Xkv _ o k),NX.set_ne _ _ (X30 _ _)]
  cases hxx:toX c s ((old.length + pre.length) :: o :: k) with
  | none=>rfl
  | some ob =>
   obtain ⟨l5,n5,sz5,z1,z2,z3⟩:=h.ps.nr.par (old.length + pre.length) o k (by rw [hxx]; simp)
   have:X23 (toX c s) (o :: k)=l5:=by unfold X23; rw [z1]
   rw [hoe] at this
   subst this
   rw [List.getElem?_eq_none (by omega)] at z2
   cases z2
 have hone:vs.all one=true:=by
  rw [List.all_eq_true]
  intro y hy
  obtain ⟨z,rfl⟩:=hvs y hy
  rfl
 have o1:=p3.own (o:=old.length + pre.length) (n:=n) (sz:=1) (L:=L) (vs:=vs) (ty:=tyL) hx2 hget hn0 (by omega) hnone (fun k' hk'=>by
  rcases p4.nw k' hk' with q | ⟨k0,w1,w2⟩
  ·have:=hlt.2
   show (φ' k').b ≠ L.b
   have:L.b < m.next:=hlt.2
   omega
  ·rw [← w2]; exact hnx k0 w1) (Nat.lt_of_lt_of_le hlt.2 p4.next) hLr hgL2 (by omega) hone
 have W2:=h.wk.trans p4
 have hkp:=h.wk.low_of (k:=k) (lo:=m2.low) (by rw [a]; simp) p6 p4.low
 have hX3:(((((toX c s).set (o :: k) (some (.c (old ++ cs)))).set k (some (.c (l.set o (.s (N + 1) (rowL r')))))).set ((old.length + pre.length) :: o :: k) (some (.c (vs.map .v)))).set (o :: k) (some (.c ((old ++ cs).set (old.length + pre.length) (.s n 1)))))=toX c (s.adopt k o (pre.map .v) vs):=by
  have e1:(s.adopt k o (pre.map .v) vs)={ s with X:=((((s.X.set (o :: k) (some (.c (old ++ (pre.map Cl.v ++ [.s 0 1]))))).set k (some (.c (l.set o (.s (N + 1) (rowL r')))))).set ((old.length + pre.length) :: o :: k) (some (.c (vs.map .v)))).set (o :: k) (some (.c ((old ++ cs).set (old.length + pre.length) (.s n 1))))) }:=by
   unfold PSt.adopt PSt.adp PSt.app
   simp only
   have ea:=Xc8 hk q1 (pre.map Cl.v ++ [.s 0 1]) (by simp; omega)
   rw [hold] at ea
   have ea2:apF s.X k o (pre.map Cl.v ++ [.s 0 1]) (o :: k)=some (.c (old ++ (pre.map Cl.v ++ [.s 0 1]))):=by rw [ea,NX.set_ne _ _ (X30 o k),NX.set_eq]
   rw [Xi9 ea2,ea,hN]
   have ep:N * ((pre.map Cl.v).length + 1) + (pre.map Cl.v).length=old.length + pre.length:=by rw [List.length_map,hol,hc]
   rw [ep,hn]
   have el:(old ++ (pre.map Cl.v ++ [Cl.s 0 1])).set (old.length + pre.length) (Cl.s n 1)=(old ++ cs).set (old.length + pre.length) (Cl.s n 1):=by
    rw [hcs2,← List.append_assoc,hpos,Xn8,Xn8]
   rw [el]
  rw [e1]
  have r0:=hroot
  have r1:s.X.set (o :: k) (some (.c (old ++ (pre.map Cl.v ++ [.s 0 1])))) [0]=some (.c lr):=by rw [NX.set_ne _ _ (Ne.symm hko0)]; exact r0
  have r2:(s.X.set (o :: k) (some (.c (old ++ (pre.map Cl.v ++ [.s 0 1]))))).set k (some (.c (l.set o (.s (N + 1) (rowL r'))))) [0]=some (.c lr):=by rw [NX.set_ne _ _ (Ne.symm h0)]; exact r1
  have hp0:(old.length + pre.length) :: o :: k ≠ [0]:=fun e=>by injection e with e1 e2; cases e2
  have hp1:(old.length + pre.length) :: o :: k ≠ [1]:=fun e=>by injection e with e1 e2; cases e2
  have r3:((s.X.set (o :: k) (some (.c (old ++ (pre.map Cl.v ++ [.s 0 1]))))).set k (some (.c (l.set o (.s (N + 1) (rowL r')))))).set ((old.length + pre.length) :: o :: k) (some (.c (vs.map .v))) [0]=some (.c lr):=by rw [NX.set_ne _ _ (Ne.symm hp0)]; exact r2
  have t1:=Xbv (c:=c) (s:=s) (a:=o :: k) (some (.c (old ++ (pre.map Cl.v ++ [.s 0 1])))) r0 hko1 hko0
  have t2:=Xbv (c:=c) (s:={ s with X:=s.X.set (o :: k) (some (.c (old ++ (pre.map Cl.v ++ [.s 0 1])))) }) (a:=k) (some (.c (l.set o (.s (N + 1) (rowL r'))))) r1 hk1 h0
  have t3:=Xbv (c:=c) (s:={ s with X:=(s.X.set (o :: k) (some (.c (old ++ (pre.map Cl.v ++ [.s 0 1]))))).set k (some (.c (l.set o (.s (N + 1) (rowL r'))))) }) (a:=(old.length + pre.length) :: o :: k) (some (.c (vs.map .v))) r2 hp1 hp0
  have t4:=Xbv (c:=c) (s:={ s with X:=((s.X.set (o :: k) (some (.c (old ++ (pre.map Cl.v ++ [.s 0 1]))))).set k (some (.c (l.set o (.s (N + 1) (rowL r')))))).set ((old.length + pre.length) :: o :: k) (some (.c (vs.map .v))) }) (a:=o :: k) (some (.c ((old ++ cs).set (old.length + pre.length) (.s n 1)))) r3 hko1 hko0
  rw [← t4,← t3,← t2,← t1]
  funext q
  unfold NX.set
  by_cases hq:q=o :: k
  ·simp [hq]
  ·simp [hq]
 have ok3:SOk c (s.adopt k o (pre.map .v) vs):=by
  have ea:=Xc8 hk q1 (pre.map Cl.v ++ [.s 0 1]) (by simp; omega)
  rw [hold] at ea
  have ea2:apF s.X k o (pre.map Cl.v ++ [.s 0 1]) (o :: k)=some (.c (old ++ (pre.map Cl.v ++ [.s 0 1]))):=by rw [ea,NX.set_ne _ _ (X30 o k),NX.set_eq]
  have ep:N * ((pre.map Cl.v).length + 1) + (pre.map Cl.v).length=old.length + pre.length:=by rw [List.length_map,hol,hc]
  have w1:=h.ps.wt.ap hk hr hf q1 (by rw [hold]; exact hol) (cs:=pre.map Cl.v ++ [.s 0 1]) (by simp; omega) hcs
  have w2:=w1.adp (o:=old.length + pre.length) (n:=0) (vs:=vs) ea2 hr2 (by rw [hol,fd_row rfl N pre.length (by omega)]; exact hla) (by rw [← List.append_assoc,hpos,List.getElem?_append_right (Nat.le_refl _),Nat.sub_self]; rfl) hvs
  refine ⟨h.ps.ok.le,h.ps.ok.ee,?_,h.ps.ok.il,?_⟩
  ·show WT (adF (apF s.X k o (pre.map Cl.v ++ [.s 0 1])) (o :: k) (nOf s.X k o * ((pre.map Cl.v).length + 1) + (pre.map Cl.v).length) vs)
   rw [hN,ep]
   exact w2
  ·show Ge c.X0 (adF (apF s.X k o (pre.map Cl.v ++ [.s 0 1])) (o :: k) (nOf s.X k o * ((pre.map Cl.v).length + 1) + (pre.map Cl.v).length) vs)
   refine h.ps.ok.ge.to fun k' o' hk'=>?_
   rw [Xr3 ea2 _ _ k' o' (by
    rcases hk' with e | e <;> subst e
    ·exact Ne.symm hko0
    ·intro e2; injection e2 with e3 e4; exact h0 e4.symm) (by
    rcases hk' with e | e <;> subst e
    ·intro e2; injection e2 with e3 e4; cases e4
    ·intro e2; injection e2 with e3 e4; injection e4 with e5 e6; exact X32 hr e6.symm)]
   exact Xop hk q1 _ (by simp; omega) k' o'
 have hX2d:∀ k',toX c (s.adopt k o (pre.map .v) vs) k' ≠ none→k'=(old.length + pre.length) :: o :: k∨((toX c s).set (o :: k) (some (.c (old ++ cs)))).set k (some (.c (l.set o (.s (N + 1) (rowL r'))))) k' ≠ none:=fun k' hk'=>by
  rw [← hX3] at hk'
  by_cases e1:k'=(old.length + pre.length) :: o :: k
  ·exact .inl e1
  ·refine .inr fun e2=>hk' ?_
   by_cases e3:k'=o :: k
   ·subst e3; rw [hx2] at e2; cases e2
   ·rw [NX.set_ne _ _ e3,NX.set_ne _ _ e1]; exact e2
 have WF:=W2.own (q:=(old.length + pre.length) :: o :: k) (L:=L) (X':=toX c (s.adopt k o (pre.map .v) vs)) hlt.1 hkp hX2d
 rw [hX3] at o1
 have hφp:∀ q,q ≠ (old.length + pre.length) :: o :: k→(φ'.set ((old.length + pre.length) :: o :: k) L) q=φ' q:=fun q hq=>Phi.set_ne _ _ hq
 have f0:([0]:Key) ≠ (old.length + pre.length) :: o :: k:=fun e=>by injection e with e1 e2; cases e2
 have f1:([1]:Key) ≠ (old.length + pre.length) :: o :: k:=fun e=>by injection e with e1 e2; cases e2
 have f2:([2]:Key) ≠ (old.length + pre.length) :: o :: k:=fun e=>by injection e with e1 e2; cases e2
 have g0:([0]:Key) ≠ o :: k:=Ne.symm hko0
 have g1:([1]:Key) ≠ o :: k:=Ne.symm hko1
 have g2:([2]:Key) ≠ o :: k:=fun e=>by injection e with e1 e2; exact X32 hr e2.symm
 have away:∀ b,b < m.next→b ≠ L.b→(∀ k0,toX c s k0 ≠ none→(φ k0).b ≠ b)→∀ k',toX c (s.adopt k o (pre.map .v) vs) k' ≠ none→((φ'.set ((old.length + pre.length) :: o :: k) L) k').b ≠ b:=fun b hb hbL hbk k' hk'=>by
  by_cases e1:k'=(old.length + pre.length) :: o :: k
  ·rw [e1,Phi.set_eq]; exact Ne.symm hbL
  ·rw [hφp _ e1]
   rcases hX2d k' hk' with e2 | e2
   ·exact absurd e2 e1
   ·rcases p4.nw k' e2 with q | ⟨k0,w1,w2⟩
    ·omega
    ·rw [← w2]; exact hbk k0 w1
 have hwL:c.wb ≠ L.b:=by have:=h.wb; have:=hlt.1; omega
 have PF:PS c (max (max cap (N + 1)) n) m2 (φ'.set ((old.length + pre.length) :: o :: k) L) (s.adopt k o (pre.map .v) vs):={
  nr:=o1
  wl:=h.ps.wl.wk h.ps.nb p4
  nb:=away c.wb h.ps.wl.lt hwL h.ps.nb
  pC:=by rw [hφp _ f1,p5 _ g1]; exact h.ps.pC
  pP:=by rw [hφp _ f0,p5 _ g0]; exact h.ps.pP
  pO:=by rw [hφp _ f2,p5 _ g2]; exact h.ps.pO
  ok:=ok3 }
 have hnd:L.b ∉ ts.map (·.1):=by
  have:=h.nd
  rw [List.map_cons,List.map_cons,List.nodup_cons,List.nodup_cons] at this
  exact this.2.1
 refine g _ m2 _ (by omega) {
  ps:=PF
  wk:=WF
  wb:=h.wb
  lt:=fun t ht=>by
   have:=h.lt t (by simp [ht])
   have:=p4.next
   omega
  nx:=fun t ht=>away t.1 (h.lt t (by simp [ht])).2 (fun e=>hnd (by rw [← e]; exact List.mem_map_of_mem ht)) (h.nx t (by simp [ht]))
  at':=fun t ht=>by
   obtain ⟨ty,q⟩:=h.at' t (by simp [ht])
   exact ⟨ty,by rw [p4.get _ (h.lt t (by simp [ht])).2 (h.nx t (by simp [ht]))]; exact q⟩
  nd:=h.tl.tl.nd }
theorem W.ads {L:Lc} {vs:List Value} {n:Nat} (h:W c m0 φ0 s0 cap m φ s ((L.b,L.ver,vs) :: ts)) (hLr:L.r < 2) (hn:vs.length=n) (hn0:n ≠ 0) (hvs:∀ v ∈ vs,∃ z,v=.int .u32 z)
  {k:Key} {l:List Cl} {r o:Nat} (hk:s.X k=some (.c l)) (hr:kt k=some r) (h0:k ≠ [0]) (ho:o < l.length) (hf:fdAt r o=some (.l 11)) {K:Mem→Option Rs}
  (g:∀ m1 φ1,(∀ k',k' ≠ o :: k→φ1 k'=φ k')→W c m0 φ0 s0 (max cap n) m1 φ1 (s.adp k o vs) ts→Res c m0 φ0 s0 (K m1) Q) :
  Res c m0 φ0 s0 (bp (unt (X8 1 (pt (φ k).b o (φ k).ver) (slV L n 1) m)) fun _ m=>K m) Q:=by
 obtain ⟨q1,q2,_,_,_⟩:=h.ps.list hk hr ho hf
 have hk1:=(X1j hr).1
 have hr2:=X2z hr hf
 have hko1:o :: k ≠ [1]:=(X1j hr2).1
 have hko0:o :: k ≠ [0]:=fun e=>by injection e with e1 e2; exact X32 hr e2
 have a:toX c s k=some (.c l):=by rw [X6a hk1 h0]; exact hk
 obtain ⟨lr,hroot,hroot2⟩:=h.ps.wt.root
 generalize hN:nOf s.X k o=N at *
 have q1:l[o]?=some (.s N 1):=q1
 have hsn:slV L n 1=.slice (some ⟨L.b,0,some 1⟩) n (2 * L.ver + L.r):=if_neg hn0
 have hxc:(slV L n 1).cells=#[slV L n 1]:=by rw [hsn]; rfl
 have hsub:∀ i,toX c s (i :: o :: k)=none:=fun i=>by
  cases hxx:toX c s (i :: o :: k) with
  | none=>rfl
  | some ob =>
   obtain ⟨l5,n5,sz5,z1,z2,z3⟩:=h.ps.nr.par i o k (by rw [hxx]; simp)
   rw [X6a hko1 hko0] at z1
   obtain ⟨r5,y1,y2⟩:=h.ps.wt.ty _ _ z1
   rw [hr2] at y1
   cases y1
   have:=y2 i _ z2
   rw [Xu2] at this
   exact False.elim this
 have d1:=h.ps.nr.disown a q1 hsub
 generalize hX1:((toX c s).set (o :: k) none).set k (some (.c (l.set o (.v (slV (φ (o :: k)) N 1)))))=X1 at d1
 have hX1k:X1 k=some (.c (l.set o (.v (slV (φ (o :: k)) N 1)))):=by rw [← hX1,NX.set_eq]
 have hX1d:∀ k',X1 k' ≠ none→toX c s k' ≠ none:=fun k' hk'=>by
  rw [← hX1] at hk'
  by_cases e:k'=k
  ·rw [e,a]; simp
  ·rw [NX.set_ne _ _ e] at hk'
   by_cases e2:k'=o :: k
   ·rw [e2,NX.set_eq] at hk'; exact absurd rfl hk'
   ·rwa [NX.set_ne _ _ e2] at hk'
 obtain ⟨m',u1,u2,u3,u4,u5⟩:=d1.put (o:=o) (n:=1) (x:=slV L n 1) hX1k (by rw [hxc]; rfl) (by rw [hxc]; simp [X6k]) (by rw [List.length_set]; omega) (fun i h1 h2=>by
  have:i=o:=by omega
  subst this
  exact ⟨_,by rw [List.getElem?_set,if_pos rfl,if_pos ho]⟩)
 rw [u1,Xp]
 have hl2:(l.set o (.v (slV (φ (o :: k)) N 1))).take o ++ (slV L n 1).cells.toList.map Cl.v ++ (l.set o (.v (slV (φ (o :: k)) N 1))).drop (o + 1)=l.set o (.v (slV L n 1)):=by
  rw [hxc]
  apply List.ext_getElem?
  intro i
  have g1:=get_put (l:=l.set o (.v (slV (φ (o :: k)) N 1))) (z:=[Cl.v (slV L n 1)]) (o:=o) (by rw [List.length_set]; exact ho) i
  refine Eq.trans g1 ?_
  rw [List.getElem?_set,List.getElem?_set]
  by_cases p:o ≤ i∧i < o + [Cl.v (slV L n 1)].length
  ·have:o=i:=by have:=p.2; simp at this; omega
   subst this
   rw [if_pos p,if_pos rfl,if_pos ho,Nat.sub_self]; rfl
  ·have:o ≠ i:=fun e=>p (by subst e; simp)
   rw [if_neg p,if_neg this,if_neg this]
 rw [hl2] at u2 u3
 have hX2k:X1.set k (some (.c (l.set o (.v (slV L n 1))))) k=some (.c (l.set o (.v (slV L n 1)))):=NX.set_eq _ _ _
 have hX2d:∀ k',X1.set k (some (.c (l.set o (.v (slV L n 1))))) k' ≠ none→toX c s k' ≠ none:=fun k' hk'=>by
  by_cases e:k'=k
  ·rw [e,a]; simp
  ·rw [NX.set_ne _ _ e] at hk'; exact hX1d k' hk'
 obtain ⟨tyL,hgL⟩:=h.at' (L.b,L.ver,vs) (by simp)
 have hlt:=h.lt (L.b,L.ver,vs) (by simp)
 have hnx:=h.nx (L.b,L.ver,vs) (by simp)
 have S3:=u3.sub hX1d
 have hgL2:m'.get L.b=some (.cells vs L.ver 0 false tyL):=by rw [S3.get _ hlt.2 hnx]; exact hgL
 have hone:vs.all one=true:=by
  rw [List.all_eq_true]
  intro y hy
  obtain ⟨z,rfl⟩:=hvs y hy
  rfl
 have hnone:X1.set k (some (.c (l.set o (.v (slV L n 1))))) (o :: k)=none:=by
  rw [NX.set_ne _ _ (X30 o k),← hX1,NX.set_ne _ _ (X30 o k),NX.set_eq]
 have o1:=u2.own (o:=o) (n:=n) (sz:=1) (L:=L) (vs:=vs) (ty:=tyL) hX2k (by rw [List.getElem?_set,if_pos rfl,if_pos ho]) hn0 (by omega) hnone (fun k' hk'=>hnx k' (hX2d k' hk')) (by rw [u4]; exact hlt.2) hLr hgL2 (by omega) hone
 have W2:=h.wk.trans S3
 have hkp:=h.wk.low_of (k:=k) (lo:=m'.low) (by rw [a]; simp) u5 S3.low
 have ea:=Xi9 hk o vs
 have hX3:((X1.set k (some (.c (l.set o (.v (slV L n 1)))))).set (o :: k) (some (.c (vs.map .v)))).set k (some (.c ((l.set o (.v (slV L n 1))).set o (.s n 1))))=toX c (s.adp k o vs):=by
  have r1:s.X.set (o :: k) (some (.c (vs.map Cl.v))) [0]=some (.c lr):=by rw [NX.set_ne _ _ (Ne.symm hko0)]; exact hroot
  have t1:=Xbv (c:=c) (s:=s) (a:=o :: k) (some (.c (vs.map Cl.v))) hroot hko1 hko0
  have t2:=Xbv (c:=c) (s:={ s with X:=s.X.set (o :: k) (some (.c (vs.map Cl.v))) }) (a:=k) (some (.c (l.set o (.s vs.length 1)))) r1 hk1 h0
  have e1:s.adp k o vs={ s with X:=(s.X.set (o :: k) (some (.c (vs.map Cl.v)))).set k (some (.c (l.set o (.s vs.length 1)))) }:=by unfold PSt.adp; rw [ea]
  rw [e1,← t2,← t1,List.set_set,hn,← hX1]
  funext q
  unfold NX.set
  by_cases hq:q=k
  ·simp [hq]
  ·by_cases hq2:q=o :: k
   ·simp [hq,hq2]
   ·simp [hq,hq2]
 rw [hX3] at o1
 have hdd:∀ k',toX c (s.adp k o vs) k' ≠ none→k'=o :: k∨X1.set k (some (.c (l.set o (.v (slV L n 1))))) k' ≠ none:=fun k' hk'=>by
  by_cases e1:k'=o :: k
  ·exact .inl e1
  ·refine .inr fun e2=>hk' ?_
   by_cases e3:k'=k
   ·rw [e3,hX2k] at e2; cases e2
   ·rw [← hX3,NX.set_ne _ _ e3,NX.set_ne _ _ e1]; exact e2
 have WF:=W2.own (q:=o :: k) (L:=L) (X':=toX c (s.adp k o vs)) hlt.1 hkp hdd
 have hφp:∀ q,q ≠ o :: k→(φ.set (o :: k) L) q=φ q:=fun q hq=>Phi.set_ne _ _ hq
 have away:∀ b,b < m.next→b ≠ L.b→(∀ k0,toX c s k0 ≠ none→(φ k0).b ≠ b)→∀ k',toX c (s.adp k o vs) k' ≠ none→((φ.set (o :: k) L) k').b ≠ b:=fun b hb hbL hbk k' hk'=>by
  by_cases e1:k'=o :: k
  ·rw [e1,Phi.set_eq]; exact Ne.symm hbL
  ·rw [hφp _ e1]
   rcases hdd k' hk' with e2 | e2
   ·exact absurd e2 e1
   ·exact hbk k' (hX2d k' e2)
 have ok3:SOk c (s.adp k o vs):=by
  refine ⟨h.ps.ok.le,h.ps.ok.ee,h.ps.wt.adp hk hr hf q1 hvs,h.ps.ok.il,h.ps.ok.ge.to fun k' o' hk'=>?_⟩
  show nOf s.X k' o' ≤ nOf (adF s.X k o vs) k' o'
  rw [Xr3 hk _ _ k' o' (by
   rcases hk' with e | e <;> subst e
   ·exact Ne.symm h0
   ·exact Ne.symm (Xzi hr hf)) (by
   rcases hk' with e | e <;> subst e
   ·exact Ne.symm hko0
   ·intro e2; injection e2 with e3 e4; exact h0 e4.symm)]
  exact Nat.le_refl _
 have g0:([0]:Key) ≠ o :: k:=Ne.symm hko0
 have g1:([1]:Key) ≠ o :: k:=Ne.symm hko1
 have g2:([2]:Key) ≠ o :: k:=fun e=>by injection e with e1 e2; exact X32 hr e2.symm
 have hnd:L.b ∉ ts.map (·.1):=by
  have:=h.nd
  rw [List.map_cons,List.nodup_cons] at this
  exact this.1
 have hwL:c.wb ≠ L.b:=by have:=h.wb; have:=hlt.1; omega
 refine g m' _ hφp {
  ps:={
   nr:=o1
   wl:=h.ps.wl.wk h.ps.nb S3
   nb:=away c.wb h.ps.wl.lt hwL h.ps.nb
   pC:=by rw [hφp _ g1]; exact h.ps.pC
   pP:=by rw [hφp _ g0]; exact h.ps.pP
   pO:=by rw [hφp _ g2]; exact h.ps.pO
   ok:=ok3 }
  wk:=WF
  wb:=h.wb
  lt:=fun t ht=>by
   have:=h.lt t (by simp [ht])
   have:=S3.next
   omega
  nx:=fun t ht=>away t.1 (h.lt t (by simp [ht])).2 (fun e=>hnd (by rw [← e]; exact List.mem_map_of_mem ht)) (h.nx t (by simp [ht]))
  at':=fun t ht=>by
   obtain ⟨ty,q⟩:=h.at' t (by simp [ht])
   exact ⟨ty,by rw [S3.get _ (h.lt t (by simp [ht])).2 (h.nx t (by simp [ht]))]; exact q⟩
  nd:=h.tl.nd }
end Go.Ab.Sh

set_option maxRecDepth 100000
namespace Go.Ab.Sh
open Go Go.Ab Go.Lib
variable {c:Cx} {m0 m:Mem} {φ0 φ:Phi} {s0 s s':PSt} {cap δ:Nat} {ts:List Tmp} {x:Option Rs} {Q:Value→Nat→Phi→PSt→Prop} {v:Value} {cu:Cu}
theorem row_end {i N sz:Nat} (h:i < N):i * sz + sz ≤ N * sz:=by
 have:=Nat.mul_le_mul_right sz (show i + 1 ≤ N from h)
 rwa [Nat.add_mul,Nat.one_mul] at this
theorem row_cons {cs:List Value} {o sz:Nat} {y:Value} (hy:cs[o]?=some y) (hs:0 < sz):∃ t,(cs.drop o).take sz=y :: t:=by
 obtain ⟨sz,rfl⟩:∃ j,sz=j + 1:=⟨sz - 1,by omega⟩
 obtain ⟨h1,h2⟩:=List.getElem?_eq_some_iff.mp hy
 rw [List.drop_eq_getElem_cons h1,h2]
 exact ⟨_,rfl⟩
theorem PS.blk (h:PS c cap m φ s) {k:Key} {l:List Cl} (hk:s.X k=some (.c l)) (h1:k ≠ [1]) (h0:k ≠ [0]):∃ ty,m.get (φ k).b=some (.cells (cells φ k l) (φ k).ver 0 false ty):=h.nr.at' k (.c l) (by rw [X6a h1 h0]; exact hk)
theorem PS.headS (h:PS c cap m φ s) {k:Key} {l:List Cl} {r N sz:Nat} (hk:s.X k=some (.c l)) (hr:kt k=some r) (hs:rowL r=sz) (hl:l.length=N * sz) (hf:(rowT r)[0]?=some .s) (i:Nat) (hi:i < N):(cells φ k l)[i * sz]?=some (sv (sOf s.X k (i * sz + 0))):=by
 have hp:0 < sz:=by rw [← hs]; exact Xge r
 have he:=row_end (sz:=sz) hi
 obtain ⟨d,d1,d2⟩:=h.wt.get hk hr (o:=i * sz + 0) (by omega)
 rw [fd_row hs i 0 hp,hf] at d2
 cases d with
 | s n z=>exact False.elim d2
 | v y =>
  obtain ⟨t,rfl,ht⟩:=d2
  have e:sOf s.X k (i * sz + 0)=t:=by unfold sOf vOf; rw [X8v hk,d1]; rfl
  rw [e,Xv]
  rw [Nat.add_zero] at d1
  rw [d1]
  rfl
theorem PS.headI (h:PS c cap m φ s) {k:Key} {l:List Cl} {r N sz:Nat} (hk:s.X k=some (.c l)) (hr:kt k=some r) (hs:rowL r=sz) (hl:l.length=N * sz) (hf:(rowT r)[0]?=some (.i .u32)) (i:Nat) (hi:i < N):(cells φ k l)[i * sz]?=some (.int .u32 (iOf s.X k (i * sz + 0))):=by
 have hp:0 < sz:=by rw [← hs]; exact Xge r
 have he:=row_end (sz:=sz) hi
 obtain ⟨d,d1,d2⟩:=h.wt.get hk hr (o:=i * sz + 0) (by omega)
 rw [fd_row hs i 0 hp,hf] at d2
 cases d with
 | s n z=>exact False.elim d2
 | v y =>
  obtain ⟨t,rfl⟩:=d2
  have e:iOf s.X k (i * sz + 0)=t:=by unfold iOf vOf; rw [X8v hk,d1]; rfl
  rw [e,Xv]
  rw [Nat.add_zero] at d1
  rw [d1]
  rfl
theorem c_clP (a v:Str) (cs:List Value) {b:Nat} {m:Mem} (hb:b < m.next) (hg:∃ ty,m.get b=some (.cells [sv v] 0 0 false ty)) (d:Nat):TA (d + 1) Q28 [.agg ⟨sv a :: cs⟩,pt b 0 0] m=some (.bool (decide (a=v)),m):=by
 rw [X8z]
 obtain ⟨ty,hg⟩:=hg
 refine X1x (m1:=(withLow m m.next).push (.cells (sv a :: cs) 0 0 false (some (2 * Q6w + 1)))) ?_ (Fb.push _ (Nat.le_refl _)) rfl
 have l0:=X3h (m:=withLow m m.next) (cs:=sv a :: cs) (ty:=some (2 * Q6w + 1)) (o:=0 + 0) rfl
 have l1:X7 false 1 (pt b 0 0) ((withLow m m.next).push (.cells (sv a :: cs) 0 0 false (some (2 * Q6w + 1))))=some (sv v):=X17 (by rw [Mem.get_push,if_neg (by show m.next ≠ b; omega)]; exact hg) rfl
 have hcs:(Value.cells (.agg ⟨sv a :: cs⟩)).toList=sv a :: cs:=rfl
 unfold Q4l
 rw [hcs,X12]
 simp only [X6,Xe,X4,l0,l1,Qo]
theorem Xm8 (L:Lc) (hr:L.r < 2) (N:Nat) (hN:N ≤ 8589934592) (q:Nat→Str) (v:Str) {b:Nat} {m:Mem} (hb:b < m.next) (hg:∃ ty,m.get b=some (.cells [sv v] 0 0 false ty)) (cs:List Value) (hc:∃ ty,m.get L.b=some (.cells cs L.ver 0 false ty)) (hl:cs.length=N * 2) (hh:∀ i,i < N→cs[i * 2]?=some (sv (q (i * 2 + 0)))) (d:Nat) :
  ∀ n i f,i + n=N→n < f→Q8 ⟨TA (d + 1),18446744073709551616⟩ f (I i) (I N) (.func (.func Q28) ⟨[]⟩ ⟨[pt b 0 0]⟩) (slV L N 2) m=some (idxV (Xb4 (fun j=>decide (q j=v)) 2 0 n i),m)
 | 0,i,f + 1,e,hf=>by
  have:i=N:=by omega
  subst this
  unfold Q8
  simp only [Qw,X4,Int.lt_irrefl,decide_false,Xa]
  unfold Qx
  rfl
 | n + 1,i,f + 1,e,hf=>by
  have hi:i < N:=by omega
  have hlt:decide (((i:Nat):Int) < ((N:Nat):Int))=true:=decide_eq_true (by omega)
  have hend:=row_end (sz:=2) hi
  obtain ⟨ty,hc'⟩:=hc
  obtain ⟨t,ht⟩:=row_cons (sz:=2) (hh i hi) (by omega)
  have e1:=X3c L hr N 2 i .i64 hi
  have e2:X7 true 2 (pt L.b (i * 2) L.ver) m=some (.agg ⟨sv (q (i * 2 + 0)) :: t⟩):=Xx hc' (by omega) ht
  have e3:X59 (TA (d + 1)) (.func (.func Q28) ⟨[]⟩ ⟨[pt b 0 0]⟩) [.agg ⟨sv (q (i * 2 + 0)) :: t⟩] m=some (.bool (decide (q (i * 2 + 0)=v)),m):=c_clP (q (i * 2 + 0)) v t hb hg d
  unfold Q8
  simp only [Qw,X4,hlt,Xc,e1,e2,e3,X6]
  unfold Xb4
  by_cases hw:q (i * 2 + 0)=v
  ·rw [decide_eq_true hw,Xc,if_pos rfl]
   rfl
  ·rw [decide_eq_false hw,Xa,if_neg (by decide)]
   have e4:bin .add true true .int (I i) (.int .i64 1)=some (I (i + 1:Nat)):=by
    rw [Q3p]
    have:((i:Nat):Int) + 1=((i + 1:Nat):Int):=by omega
    rw [this,wrap64 _ (by omega)]
   simp only [e4,X4]
   exact Xm8 L hr N hN q v hb hg cs ⟨ty,hc'⟩ hl hh d n (i + 1) f (by omega) (by omega)
theorem c_ixP (h:PS c cap m φ s) (hcap:cap ≤ 8589934592) {k:Key} {l:List Cl} {r o:Nat} (hk:s.X k=some (.c l)) (hr:kt k=some r) (ho:o < l.length) (hf:fdAt r o=some (.l 7)) (v:Str) {b:Nat} (hb:b < m.next) (hg:∃ ty,m.get b=some (.cells [sv v] 0 0 false ty)) (d:Nat) :
  TA (d + 2) Qm [slV (φ (o :: k)) (nOf s.X k o) 2,.func (.func Q28) ⟨[]⟩ ⟨[pt b 0 0]⟩] m=some (idxV (X77 s.X k o 2 0 v),m):=by
 obtain ⟨_,q2,_,q4,q5⟩:=h.list hk hr ho hf
 have hr2:=X2z hr hf
 have hk1:=(X1j hr2).1
 have hk0:o :: k ≠ [0]:=fun e=>by injection e with e1 e2; exact X32 hr e2
 rw [X1r]
 refine X1l (m1:=withLow m m.next) ?_ (Fr.refl _ _) (by unfold idxV; split <;> rfl)
 unfold Qi Q1i Q1j
 simp only [X2x,X4]
 have hg':∃ ty,(withLow m m.next).get b=some (.cells [sv v] 0 0 false ty):=hg
 have hb':b < (withLow m m.next).next:=hb
 unfold X77
 by_cases hz:nOf s.X k o=0
 ·rw [hz]
  unfold Q8
  simp only [Qw,X4,Int.lt_irrefl,decide_false,Xa]
  unfold Qx
  rfl
 ·obtain ⟨l',a1,a2,a3⟩:=q5 hz
  obtain ⟨ty,hc⟩:=h.blk a1 hk1 hk0
  have hc':∃ ty,(withLow m m.next).get (φ (o :: k)).b=some (.cells (cells φ (o :: k) l') (φ (o :: k)).ver 0 false ty):=⟨ty,hc⟩
  exact Xm8 (φ (o :: k)) a3 (nOf s.X k o) (Nat.le_trans q2 hcap) (sOf s.X (o :: k)) v hb' hg' (cells φ (o :: k) l') hc' (by rw [X18]; exact a2) (fun i hi=>h.headS a1 hr2 rfl a2 rfl i hi) d (nOf s.X k o) 0 18446744073709551616 (by omega) (by omega)
theorem c_clC (a v:Str) (cs:List Value) {b:Nat} {m:Mem} (hb:b < m.next) (hg:∃ ty,m.get b=some (.cells [sv v] 0 0 false ty)) (d:Nat):TA (d + 1) Q29 [.agg ⟨sv a :: cs⟩,pt b 0 0] m=some (.bool (decide (a=v)),m):=by
 rw [X90]
 obtain ⟨ty,hg⟩:=hg
 refine X1x (m1:=(withLow m m.next).push (.cells (sv a :: cs) 0 0 false (some (2 * Q4m + 1)))) ?_ (Fb.push _ (Nat.le_refl _)) rfl
 have l0:=X3h (m:=withLow m m.next) (cs:=sv a :: cs) (ty:=some (2 * Q4m + 1)) (o:=0 + 0) rfl
 have l1:X7 false 1 (pt b 0 0) ((withLow m m.next).push (.cells (sv a :: cs) 0 0 false (some (2 * Q4m + 1))))=some (sv v):=X17 (by rw [Mem.get_push,if_neg (by show m.next ≠ b; omega)]; exact hg) rfl
 have hcs:(Value.cells (.agg ⟨sv a :: cs⟩)).toList=sv a :: cs:=rfl
 unfold Q4n
 rw [hcs,X12]
 simp only [X6,Xe,X4,l0,l1,Qo]
theorem Xlr (L:Lc) (hr:L.r < 2) (N:Nat) (hN:N ≤ 8589934592) (q:Nat→Str) (v:Str) {b:Nat} {m:Mem} (hb:b < m.next) (hg:∃ ty,m.get b=some (.cells [sv v] 0 0 false ty)) (cs:List Value) (hc:∃ ty,m.get L.b=some (.cells cs L.ver 0 false ty)) (hl:cs.length=N * 2) (hh:∀ i,i < N→cs[i * 2]?=some (sv (q (i * 2 + 0)))) (d:Nat) :
  ∀ n i f,i + n=N→n < f→Q4 ⟨TA (d + 1),18446744073709551616⟩ f (I i) (I N) (.func (.func Q29) ⟨[]⟩ ⟨[pt b 0 0]⟩) (slV L N 2) m=some (idxV (Xb4 (fun j=>decide (q j=v)) 2 0 n i),m)
 | 0,i,f + 1,e,hf=>by
  have:i=N:=by omega
  subst this
  unfold Q4
  simp only [Qw,X4,Int.lt_irrefl,decide_false,Xa]
  unfold Qq
  rfl
 | n + 1,i,f + 1,e,hf=>by
  have hi:i < N:=by omega
  have hlt:decide (((i:Nat):Int) < ((N:Nat):Int))=true:=decide_eq_true (by omega)
  have hend:=row_end (sz:=2) hi
  obtain ⟨ty,hc'⟩:=hc
  obtain ⟨t,ht⟩:=row_cons (sz:=2) (hh i hi) (by omega)
  have e1:=X3c L hr N 2 i .i64 hi
  have e2:X7 true 2 (pt L.b (i * 2) L.ver) m=some (.agg ⟨sv (q (i * 2 + 0)) :: t⟩):=Xx hc' (by omega) ht
  have e3:X59 (TA (d + 1)) (.func (.func Q29) ⟨[]⟩ ⟨[pt b 0 0]⟩) [.agg ⟨sv (q (i * 2 + 0)) :: t⟩] m=some (.bool (decide (q (i * 2 + 0)=v)),m):=c_clC (q (i * 2 + 0)) v t hb hg d
  unfold Q4
  simp only [Qw,X4,hlt,Xc,e1,e2,e3,X6]
  unfold Xb4
  by_cases hw:q (i * 2 + 0)=v
  ·rw [decide_eq_true hw,Xc,if_pos rfl]
   rfl
  ·rw [decide_eq_false hw,Xa,if_neg (by decide)]
   have e4:bin .add true true .int (I i) (.int .i64 1)=some (I (i + 1:Nat)):=by
    rw [Q3p]
    have:((i:Nat):Int) + 1=((i + 1:Nat):Int):=by omega
    rw [this,wrap64 _ (by omega)]
   simp only [e4,X4]
   exact Xlr L hr N hN q v hb hg cs ⟨ty,hc'⟩ hl hh d n (i + 1) f (by omega) (by omega)
theorem c_ixC (h:PS c cap m φ s) (hcap:cap ≤ 8589934592) {k:Key} {l:List Cl} {r o:Nat} (hk:s.X k=some (.c l)) (hr:kt k=some r) (ho:o < l.length) (hf:fdAt r o=some (.l 9)) (v:Str) {b:Nat} (hb:b < m.next) (hg:∃ ty,m.get b=some (.cells [sv v] 0 0 false ty)) (d:Nat) :
  TA (d + 2) Qj [slV (φ (o :: k)) (nOf s.X k o) 2,.func (.func Q29) ⟨[]⟩ ⟨[pt b 0 0]⟩] m=some (idxV (X77 s.X k o 2 0 v),m):=by
 obtain ⟨_,q2,_,q4,q5⟩:=h.list hk hr ho hf
 have hr2:=X2z hr hf
 have hk1:=(X1j hr2).1
 have hk0:o :: k ≠ [0]:=fun e=>by injection e with e1 e2; exact X32 hr e2
 rw [X1f]
 refine X1l (m1:=withLow m m.next) ?_ (Fr.refl _ _) (by unfold idxV; split <;> rfl)
 unfold Qa Q14 Q15
 simp only [X2x,X4]
 have hg':∃ ty,(withLow m m.next).get b=some (.cells [sv v] 0 0 false ty):=hg
 have hb':b < (withLow m m.next).next:=hb
 unfold X77
 by_cases hz:nOf s.X k o=0
 ·rw [hz]
  unfold Q4
  simp only [Qw,X4,Int.lt_irrefl,decide_false,Xa]
  unfold Qq
  rfl
 ·obtain ⟨l',a1,a2,a3⟩:=q5 hz
  obtain ⟨ty,hc⟩:=h.blk a1 hk1 hk0
  have hc':∃ ty,(withLow m m.next).get (φ (o :: k)).b=some (.cells (cells φ (o :: k) l') (φ (o :: k)).ver 0 false ty):=⟨ty,hc⟩
  exact Xlr (φ (o :: k)) a3 (nOf s.X k o) (Nat.le_trans q2 hcap) (sOf s.X (o :: k)) v hb' hg' (cells φ (o :: k) l') hc' (by rw [X18]; exact a2) (fun i hi=>h.headS a1 hr2 rfl a2 rfl i hi) d (nOf s.X k o) 0 18446744073709551616 (by omega) (by omega)
theorem c_clR (a v:Str) (cs:List Value) {b:Nat} {m:Mem} (hb:b < m.next) (hg:∃ ty,m.get b=some (.cells [sv v] 0 0 false ty)) (d:Nat):TA (d + 1) Q1m [.agg ⟨sv a :: cs⟩,pt b 0 0] m=some (.bool (decide (a=v)),m):=by
 rw [X5k]
 obtain ⟨ty,hg⟩:=hg
 refine X1x (m1:=(withLow m m.next).push (.cells (sv a :: cs) 0 0 false (some (2 * Q64 + 1)))) ?_ (Fb.push _ (Nat.le_refl _)) rfl
 have l0:=X3h (m:=withLow m m.next) (cs:=sv a :: cs) (ty:=some (2 * Q64 + 1)) (o:=0 + 0) rfl
 have l1:X7 false 1 (pt b 0 0) ((withLow m m.next).push (.cells (sv a :: cs) 0 0 false (some (2 * Q64 + 1))))=some (sv v):=X17 (by rw [Mem.get_push,if_neg (by show m.next ≠ b; omega)]; exact hg) rfl
 have hcs:(Value.cells (.agg ⟨sv a :: cs⟩)).toList=sv a :: cs:=rfl
 unfold Q2t
 rw [hcs,X12]
 simp only [X6,Xe,X4,l0,l1,Qo]
theorem Xmk (L:Lc) (hr:L.r < 2) (N:Nat) (hN:N ≤ 8589934592) (q:Nat→Str) (v:Str) {b:Nat} {m:Mem} (hb:b < m.next) (hg:∃ ty,m.get b=some (.cells [sv v] 0 0 false ty)) (cs:List Value) (hc:∃ ty,m.get L.b=some (.cells cs L.ver 0 false ty)) (hl:cs.length=N * 3) (hh:∀ i,i < N→cs[i * 3]?=some (sv (q (i * 3 + 0)))) (d:Nat) :
  ∀ n i f,i + n=N→n < f→Qh ⟨TA (d + 1),18446744073709551616⟩ f (I i) (I N) (.func (.func Q1m) ⟨[]⟩ ⟨[pt b 0 0]⟩) (slV L N 3) m=some (idxV (Xb4 (fun j=>decide (q j=v)) 3 0 n i),m)
 | 0,i,f + 1,e,hf=>by
  have:i=N:=by omega
  subst this
  unfold Qh
  simp only [Qw,X4,Int.lt_irrefl,decide_false,Xa]
  unfold Q1c
  rfl
 | n + 1,i,f + 1,e,hf=>by
  have hi:i < N:=by omega
  have hlt:decide (((i:Nat):Int) < ((N:Nat):Int))=true:=decide_eq_true (by omega)
  have hend:=row_end (sz:=3) hi
  obtain ⟨ty,hc'⟩:=hc
  obtain ⟨t,ht⟩:=row_cons (sz:=3) (hh i hi) (by omega)
  have e1:=X3c L hr N 3 i .i64 hi
  have e2:X7 true 3 (pt L.b (i * 3) L.ver) m=some (.agg ⟨sv (q (i * 3 + 0)) :: t⟩):=Xx hc' (by omega) ht
  have e3:X59 (TA (d + 1)) (.func (.func Q1m) ⟨[]⟩ ⟨[pt b 0 0]⟩) [.agg ⟨sv (q (i * 3 + 0)) :: t⟩] m=some (.bool (decide (q (i * 3 + 0)=v)),m):=c_clR (q (i * 3 + 0)) v t hb hg d
  unfold Qh
  simp only [Qw,X4,hlt,Xc,e1,e2,e3,X6]
  unfold Xb4
  by_cases hw:q (i * 3 + 0)=v
  ·rw [decide_eq_true hw,Xc,if_pos rfl]
   rfl
  ·rw [decide_eq_false hw,Xa,if_neg (by decide)]
   have e4:bin .add true true .int (I i) (.int .i64 1)=some (I (i + 1:Nat)):=by
    rw [Q3p]
    have:((i:Nat):Int) + 1=((i + 1:Nat):Int):=by omega
    rw [this,wrap64 _ (by omega)]
   simp only [e4,X4]
   exact Xmk L hr N hN q v hb hg cs ⟨ty,hc'⟩ hl hh d n (i + 1) f (by omega) (by omega)
theorem c_ixR (h:PS c cap m φ s) (hcap:cap ≤ 8589934592) {k:Key} {l:List Cl} {r o:Nat} (hk:s.X k=some (.c l)) (hr:kt k=some r) (ho:o < l.length) (hf:fdAt r o=some (.l 12)) (v:Str) {b:Nat} (hb:b < m.next) (hg:∃ ty,m.get b=some (.cells [sv v] 0 0 false ty)) (d:Nat) :
  TA (d + 2) Q11 [slV (φ (o :: k)) (nOf s.X k o) 3,.func (.func Q1m) ⟨[]⟩ ⟨[pt b 0 0]⟩] m=some (idxV (X77 s.X k o 3 0 v),m):=by
 obtain ⟨_,q2,_,q4,q5⟩:=h.list hk hr ho hf
 have hr2:=X2z hr hf
 have hk1:=(X1j hr2).1
 have hk0:o :: k ≠ [0]:=fun e=>by injection e with e1 e2; exact X32 hr e2
 rw [X25]
 refine X1l (m1:=withLow m m.next) ?_ (Fr.refl _ _) (by unfold idxV; split <;> rfl)
 unfold Qn Q22 Q23
 simp only [X2x,X4]
 have hg':∃ ty,(withLow m m.next).get b=some (.cells [sv v] 0 0 false ty):=hg
 have hb':b < (withLow m m.next).next:=hb
 unfold X77
 by_cases hz:nOf s.X k o=0
 ·rw [hz]
  unfold Qh
  simp only [Qw,X4,Int.lt_irrefl,decide_false,Xa]
  unfold Q1c
  rfl
 ·obtain ⟨l',a1,a2,a3⟩:=q5 hz
  obtain ⟨ty,hc⟩:=h.blk a1 hk1 hk0
  have hc':∃ ty,(withLow m m.next).get (φ (o :: k)).b=some (.cells (cells φ (o :: k) l') (φ (o :: k)).ver 0 false ty):=⟨ty,hc⟩
  exact Xmk (φ (o :: k)) a3 (nOf s.X k o) (Nat.le_trans q2 hcap) (sOf s.X (o :: k)) v hb' hg' (cells φ (o :: k) l') hc' (by rw [X18]; exact a2) (fun i hi=>h.headS a1 hr2 rfl a2 rfl i hi) d (nOf s.X k o) 0 18446744073709551616 (by omega) (by omega)
theorem c_clE (a v:Int) (cs:List Value) {b:Nat} {m:Mem} (hb:b < m.next) (hg:∃ ty,m.get b=some (.cells [.int .u32 v] 0 0 false ty)) (d:Nat):TA (d + 1) Q1a [.agg ⟨.int .u32 a :: cs⟩,pt b 0 0] m=some (.bool (decide (a=v)),m):=by
 rw [X4v]
 obtain ⟨ty,hg⟩:=hg
 refine X1x (m1:=(withLow m m.next).push (.cells (.int .u32 a :: cs) 0 0 false (some (2 * Qci + 1)))) ?_ (Fb.push _ (Nat.le_refl _)) rfl
 have l0:=X3h (m:=withLow m m.next) (cs:=.int .u32 a :: cs) (ty:=some (2 * Qci + 1)) (o:=0 + 0) rfl
 have l1:X7 false 1 (pt b 0 0) ((withLow m m.next).push (.cells (.int .u32 a :: cs) 0 0 false (some (2 * Qci + 1))))=some (.int .u32 v):=X17 (by rw [Mem.get_push,if_neg (by show m.next ≠ b; omega)]; exact hg) rfl
 have hcs:(Value.cells (.agg ⟨.int .u32 a :: cs⟩)).toList=.int .u32 a :: cs:=rfl
 unfold Q26
 rw [hcs,X12]
 simp only [X6,Xe,X4,l0,l1,Q3y]
theorem Xmx (L:Lc) (hr:L.r < 2) (N:Nat) (hN:N ≤ 8589934592) (q:Nat→Int) (v:Int) {b:Nat} {m:Mem} (hb:b < m.next) (hg:∃ ty,m.get b=some (.cells [.int .u32 v] 0 0 false ty)) (cs:List Value) (hc:∃ ty,m.get L.b=some (.cells cs L.ver 0 false ty)) (hl:cs.length=N * 6) (hh:∀ i,i < N→cs[i * 6]?=some (.int .u32 (q (i * 6 + 0)))) (d:Nat) :
  ∀ n i f,i + n=N→n < f→Qk ⟨TA (d + 1),18446744073709551616⟩ f (I i) (I N) (.func (.func Q1a) ⟨[]⟩ ⟨[pt b 0 0]⟩) (slV L N 6) m=some (idxV (Xb4 (fun j=>decide (q j=v)) 6 0 n i),m)
 | 0,i,f + 1,e,hf=>by
  have:i=N:=by omega
  subst this
  unfold Qk
  simp only [Qw,X4,Int.lt_irrefl,decide_false,Xa]
  unfold Q1n
  rfl
 | n + 1,i,f + 1,e,hf=>by
  have hi:i < N:=by omega
  have hlt:decide (((i:Nat):Int) < ((N:Nat):Int))=true:=decide_eq_true (by omega)
  have hend:=row_end (sz:=6) hi
  obtain ⟨ty,hc'⟩:=hc
  obtain ⟨t,ht⟩:=row_cons (sz:=6) (hh i hi) (by omega)
  have e1:=X3c L hr N 6 i .i64 hi
  have e2:X7 true 6 (pt L.b (i * 6) L.ver) m=some (.agg ⟨.int .u32 (q (i * 6 + 0)) :: t⟩):=Xx hc' (by omega) ht
  have e3:X59 (TA (d + 1)) (.func (.func Q1a) ⟨[]⟩ ⟨[pt b 0 0]⟩) [.agg ⟨.int .u32 (q (i * 6 + 0)) :: t⟩] m=some (.bool (decide (q (i * 6 + 0)=v)),m):=c_clE (q (i * 6 + 0)) v t hb hg d
  unfold Qk
  simp only [Qw,X4,hlt,Xc,e1,e2,e3,X6]
  unfold Xb4
  by_cases hw:q (i * 6 + 0)=v
  ·rw [decide_eq_true hw,Xc,if_pos rfl]
   rfl
  ·rw [decide_eq_false hw,Xa,if_neg (by decide)]
   have e4:bin .add true true .int (I i) (.int .i64 1)=some (I (i + 1:Nat)):=by
    rw [Q3p]
    have:((i:Nat):Int) + 1=((i + 1:Nat):Int):=by omega
    rw [this,wrap64 _ (by omega)]
   simp only [e4,X4]
   exact Xmx L hr N hN q v hb hg cs ⟨ty,hc'⟩ hl hh d n (i + 1) f (by omega) (by omega)
theorem c_ixE (h:PS c cap m φ s) (hcap:cap ≤ 8589934592) {k:Key} {l:List Cl} {r o:Nat} (hk:s.X k=some (.c l)) (hr:kt k=some r) (ho:o < l.length) (hf:fdAt r o=some (.l 18)) (v:Int) {b:Nat} (hb:b < m.next) (hg:∃ ty,m.get b=some (.cells [.int .u32 v] 0 0 false ty)) (d:Nat) :
  TA (d + 2) Q16 [slV (φ (o :: k)) (nOf s.X k o) 6,.func (.func Q1a) ⟨[]⟩ ⟨[pt b 0 0]⟩] m=some (idxV (Xje s.X k o 6 0 v),m):=by
 obtain ⟨_,q2,_,q4,q5⟩:=h.list hk hr ho hf
 have hr2:=X2z hr hf
 have hk1:=(X1j hr2).1
 have hk0:o :: k ≠ [0]:=fun e=>by injection e with e1 e2; exact X32 hr e2
 rw [X2d]
 refine X1l (m1:=withLow m m.next) ?_ (Fr.refl _ _) (by unfold idxV; split <;> rfl)
 unfold Qv Q2l Q2k
 simp only [X2x,X4]
 have hg':∃ ty,(withLow m m.next).get b=some (.cells [.int .u32 v] 0 0 false ty):=hg
 have hb':b < (withLow m m.next).next:=hb
 unfold Xje
 by_cases hz:nOf s.X k o=0
 ·rw [hz]
  unfold Qk
  simp only [Qw,X4,Int.lt_irrefl,decide_false,Xa]
  unfold Q1n
  rfl
 ·obtain ⟨l',a1,a2,a3⟩:=q5 hz
  obtain ⟨ty,hc⟩:=h.blk a1 hk1 hk0
  have hc':∃ ty,(withLow m m.next).get (φ (o :: k)).b=some (.cells (cells φ (o :: k) l') (φ (o :: k)).ver 0 false ty):=⟨ty,hc⟩
  exact Xmx (φ (o :: k)) a3 (nOf s.X k o) (Nat.le_trans q2 hcap) (iOf s.X (o :: k)) v hb' hg' (cells φ (o :: k) l') hc' (by rw [X18]; exact a2) (fun i hi=>h.headI a1 hr2 rfl a2 rfl i hi) d (nOf s.X k o) 0 18446744073709551616 (by omega) (by omega)
end Go.Ab.Sh

set_option maxRecDepth 100000
namespace Go.Ab.Sh
open Go Go.Ab Go.Lib
variable {c:Cx} {m0 m:Mem} {φ0 φ:Phi} {s0 s s':PSt} {cap δ:Nat} {ts:List Tmp} {x:Option Rs} {Q:Value→Nat→Phi→PSt→Prop} {v:Value} {cu:Cu}
noncomputable abbrev dd (d:Nat):Gt:=⟨TA (d + 8),18446744073709551616⟩
theorem kt3:kt [3,0]=some 2:=rfl
theorem W.ins1 (h:W c m0 φ s cap m φ s' ts) {w:Str} (hw:w.length ≤ 65536) (d:Nat) {S:PSt} (hS:Xz s' [w]=S) :
  Res c m0 φ s (bp (X9 Q1 [.string ⟨#[]⟩] 1 1 [(0,sv w)] m) fun y m=>bp (TA (d + 2) Q6 [pt c.P 0 0,y] m) fun _ m=>some (.tuple ⟨[]⟩,m)) (Q_s cap φ (.tuple ⟨[]⟩) S):=by
 subst hS
 refine h.bsl (cs:=[w].map sv) rfl (by decide) fun b m1 k1=>?_
 refine k1.cs (X55 k1.ps (ws:=[w]) (k1.slx (List.mem_cons_self ..)) (by simp) (by simp) (by simpa using hw) d) fun m2 k2=>?_
 exact k2.rets
theorem W.ins2 (h:W c m0 φ s cap m φ s' ts) {w1 w2:Str} (hw1:w1.length ≤ 65536) (hw2:w2.length ≤ 65536) (d:Nat) {S:PSt} (hS:Xz s' [w1,w2]=S) :
  Res c m0 φ s (bp (X9 Q1 [.string ⟨#[]⟩] 1 2 [(0,sv w1),(1,sv w2)] m) fun y m=>bp (TA (d + 2) Q6 [pt c.P 0 0,y] m) fun _ m=>some (.tuple ⟨[]⟩,m)) (Q_s cap φ (.tuple ⟨[]⟩) S):=by
 subst hS
 refine h.bsl (cs:=[w1,w2].map sv) rfl (by decide) fun b m1 k1=>?_
 refine k1.cs (X55 k1.ps (ws:=[w1,w2]) (k1.slx (List.mem_cons_self ..)) (by simp) (by simp) (by simpa using ⟨hw1,hw2⟩) d) fun m2 k2=>?_
 exact k2.rets
theorem W.badr (h:W c m0 φ s cap m φ s' ts) (e:Int) (he:e ≠ 0∧e ≠ 5) (d:Nat) {S:PSt} (hS:badS c s' e=S) :
  Res c m0 φ s (bp (TA (d + 2) Q3 [pt c.C 0 0,.int .i64 e] m) fun _ m=>some (.tuple ⟨[]⟩,m)) (Q_s cap φ (.tuple ⟨[]⟩) S):=by
 subst hS
 exact h.cl (X3n h.ps e he d) fun m1 k1=>k1.rets
theorem X3q (a b:Nat):bin .eql true true .int (I a) (I b)=some (.bool (decide (a=b))):=by
 rw [Q3y]
 congr 2
 simp only [decide_eq_decide]
 omega
theorem Xvt (a b:Nat):bin .neq true true .int (I a) (I b)=some (.bool (decide (a ≠ b))):=by
 rw [Q4z]
 congr 2
 simp only [decide_eq_decide]
 omega
noncomputable abbrev d6 (d:Nat):Gt:=⟨TA (d + 6),18446744073709551616⟩
theorem Xwy (d:Nat) {l:List Cl} {b:Nat} {w:Str} (hw:w.length ≤ 65536) (h:W c m0 φ s cap m φ s' ts) (hl:s'.X [3,0]=some (.c l)) (hb:b * 11 + 11 ≤ l.length) :
    Res c m0 φ s (Q71 (dd d) (pt (φ [3,0]).b (b * 11) (φ [3,0]).ver) (pt c.C 0 0) (pt c.P 0 0) (sv w) m) (Q_s cap φ (.tuple ⟨[]⟩)
      (let k:=X3t c s'.cu false
       let s1:=(s'.at k.2).sto [3,0] (b * 11 + 3) [I k.1]
       Xz (if k.1=0 then badS c s1 10 else s1) [w])):=by
  have cm:=Xhp h.ps false (d + 2)
  generalize X3t c s'.cu false=K at cm ⊢
  dsimp only
  unfold Q71
  refine h.cl cm fun m1 k1=>?_
  simp only [Xj,Xe,X4]
  refine k1.st1 hl kt3 (by omega) rfl rfl (by decide) (by rw [fd_row (r:=2) (sz:=11) rfl b 3 (by omega)]; exact ok_i _ _) fun m2 l2 hl2 hn2 k2=>?_
  unfold Q9z
  have ld:X7 false 1 (pt (φ [3,0]).b (b * 11 + 3) (φ [3,0]).ver) m2=some (I K.1):=by
    refine k2.ps.ldv (k:=[3,0]) (by decide) hl2 (fun e=>by cases e) ?_
    have hl3:(s'.at K.2).X [3,0]=some (.c l):=hl
    have e:=hl2
    rw [X1c hl3,NX.set_eq] at e
    cases e
    have g:=get_put (l:=l) (z:=[Cl.v (I K.1)]) (o:=b * 11 + 3) (by show b * 11 + 3 + 1 ≤ l.length; omega) (b * 11 + 3)
    refine Eq.trans g ?_
    rw [if_pos ⟨Nat.le_refl _,by show b * 11 + 3 < b * 11 + 3 + 1; omega⟩,Nat.sub_self]
    rfl
  have e0:bin .eql true true .int (I K.1) (.int .i64 0)=some (.bool (decide (K.1=0))):=X3q K.1 0
  simp only [Xj,Xe,X4,ld,e0]
  unfold Q72
  refine Xn (fun hb=>?_) (fun hb=>?_)
  . rw [if_pos (of_decide_eq_true hb)]
    refine k2.cl (X3n k2.ps 10 (by decide) (d + 6)) fun m3 k3=>?_
    exact k3.ins1 hw (d + 6) rfl
  . rw [if_neg (of_decide_eq_false hb)]
    exact k2.ins1 hw (d + 6) rfl
theorem Xvl {n:Nat} (h:0 < n) (h2:n ≤ 65536):bin .rem true true .int (.int .i64 1) (I n)=some (I (1 % n:Nat)):=by
 rw [Qqc _ _ _ _ _ (by omega),Int.tmod_eq_emod_of_nonneg (by omega)]
 rfl
theorem Xk7 (d:Nat) {w:Str} (hw:w.length ≤ 65536) (h:W c m0 φ s cap m φ s' ts) :
  Res c m0 φ s (Q2u (dd d) (pt c.P 0 0) (sv w) (pt c.C 0 0) m) (Q_s cap φ (.tuple ⟨[]⟩) (Xz s' [w,(wdC c (1 % c.ws.length)).1])):=by
 have hp:=Xub h.ps
 have hl:=h.ps.wl.len
 have hi:1 % c.ws.length < c.ws.length:=Nat.mod_lt _ hp
 obtain ⟨p,p1,p2,p3,_⟩:=h.ps.wl.ix hi
 have ht:=(h.ps.wl.txt _ (List.mem_of_getElem? (Xj6 (c:=c) hi))).1
 unfold Q2u
 simp only [Xj,Xe,X4,h.ps.ld0,h.ps.wl.len',Xvl hp hl,p1,p2,Nat.zero_add,p3]
 exact h.ins2 hw ht (d + 6) rfl
set_option maxHeartbeats 1000000 in
theorem Xtg (h:PS c cap m φ s) (hc:cap ≤ 8589934592) (hn:0 < nOf s.X [0] 3) (d:Nat):StC c cap m φ s (TA (d + 9) Q63 [pt c.P 0 0,pt c.C 0 0] m) (.tuple ⟨[]⟩) (Xce c s):=by
 refine h.stR (X7w _ _ _ _) fun m0 k=>?_
 obtain ⟨l,hl,_,hll,ld,sb,ix⟩:=k.ps.last hc (f:=3) (r':=2) (sz:=11) rfl (by omega) rfl hn
 unfold Q42
 simp only [Xj,Xe,X4,Nat.zero_add,ld,X2x,sb,ix]
 unfold Qa0
 have hw:=X2m k.ps
 refine k.cl (X2p k.ps (d + 6)) fun m1 k1=>?_
 unfold Qa1 Qa2 Xce
 dsimp only
 have e0:nOf (s.at (Xk c s.cu).2).X [0] 3=nOf s.X [0] 3:=rfl
 rw [e0]
 generalize nOf s.X [0] 3 - 1=b at hll ⊢
 generalize (Xk c s.cu).1=w at hw ⊢
 have hl1:(s.at (Xk c s.cu).2).X [3,0]=some (.c l):=hl
 generalize s.at (Xk c s.cu).2=s1 at k1 hl1 ⊢
 have strw:∀ x:Str,sv x=sv x:=fun _=>rfl
 simp only [X1a,Qo,X4]
 unfold Qa3
 refine Xn (fun hb=>?_) (fun hb=>?_)
 ·rw [if_pos (of_decide_eq_true hb)]
  have hnm:=X35 k1.ps
  refine k1.cl (X2y k1.ps (d + 3)) fun m2 k2=>?_
  simp only [Xj,Xe,X4]
  refine k2.st1 hl1 kt3 (by omega) rfl rfl (by decide) (by rw [fd_row (r:=2) (sz:=11) rfl b 1 (by omega)]; exact ok_s (Nat.le_trans hnm (by decide))) fun m3 l3 hl3 hn3 k3=>?_
  exact k3.ins1 hw (d + 6) rfl
 rw [if_neg (of_decide_eq_false hb)]
 simp only [X1a,Qo,X4]
 unfold Qa4
 refine Xn (fun hb=>?_) (fun hb=>?_)
 ·rw [if_pos (of_decide_eq_true hb)]
  refine k1.cl (X43 k1.ps (d + 3)) fun m2 k2=>?_
  simp only [Xj,Xe,X4]
  refine k2.st1 hl1 kt3 (by omega) rfl rfl (by decide) (by rw [fd_row (r:=2) (sz:=11) rfl b 2 (by omega)]; exact ok_i _ _) fun m3 l3 hl3 hn3 k3=>?_
  have key:=Xwy d (l:=l3) (b:=b) hw k3 hl3 (by omega)
  dsimp only at key
  exact key
 rw [if_neg (of_decide_eq_false hb)]
 simp only [X1a,Qo,X4]
 unfold Qa5
 refine Xn (fun hb=>?_) (fun hb=>?_)
 ·rw [if_pos (of_decide_eq_true hb)]
  have hnm:=X35 k1.ps
  refine k1.cl (X2y k1.ps (d + 3)) fun m2 k2=>?_
  refine k2.bsl (cs:=[[105,110],[111,117,116]].map sv) rfl (by decide) fun bs m3 k3=>?_
  refine k3.cl (X6d k3.ps (k3.slx (ws:=[[105,110],[111,117,116]]) (List.mem_cons_self ..)) (by simp) (d + 5)) fun m4 k4=>?_
  have e1:bin .eql true true .int (I (oneC c (s1.at (X1i c s1.cu).2).cu [[105,110],[111,117,116]]).1) (.int .i64 0)=some (.bool (decide ((oneC c (X1i c s1.cu).2 [[105,110],[111,117,116]]).1=0))):=X3q _ 0
  simp only [e1,X4]
  refine Xn (fun hb=>?_) (fun hb=>?_)
  ·rw [if_pos (of_decide_eq_true hb)]
   simp only [Xj,Xe,X4]
   refine k4.st1 hl1 kt3 (by omega) rfl rfl (by decide) (by rw [fd_row (r:=2) (sz:=11) rfl b 5 (by omega)]; exact ok_s (Nat.le_trans hnm (by decide))) fun m5 l5 hl5 hn5 k5=>?_
   exact k5.ins2 (w2:=[105,110]) hw (by decide) (d + 6) rfl
  ·rw [if_neg (of_decide_eq_false hb)]
   simp only [Xj,Xe,X4]
   refine k4.st1 hl1 kt3 (by omega) rfl rfl (by decide) (by rw [fd_row (r:=2) (sz:=11) rfl b 6 (by omega)]; exact ok_s (Nat.le_trans hnm (by decide))) fun m5 l5 hl5 hn5 k5=>?_
   exact k5.ins2 (w2:=[111,117,116]) hw (by decide) (d + 6) rfl
 rw [if_neg (of_decide_eq_false hb)]
 simp only [X1a,Qo,X4]
 unfold Qa6
 refine Xn (fun hb=>?_) (fun hb=>?_)
 ·rw [if_pos (of_decide_eq_true hb)]
  refine k1.bsl (cs:=[.int .u8 1,.int .u8 2]) rfl (by decide) fun bb m2 k2=>?_
  refine k2.bsl (cs:=[[105,110,115,105,100,101],[111,117,116,115,105,100,101]].map sv) rfl (by decide) fun bs m3 k3=>?_
  have lt:=Xg7 c s1.cu [[105,110,115,105,100,101],[111,117,116,115,105,100,101]] (by simp)
  refine k3.cl (X6d k3.ps (k3.slx (ws:=[[105,110,115,105,100,101],[111,117,116,115,105,100,101]]) (List.mem_cons_self ..)) (by simp) (d + 5)) fun m4 k4=>?_
  generalize hO:oneC c s1.cu [[105,110,115,105,100,101],[111,117,116,115,105,100,101]]=O at k4 lt ⊢
  have lt:O.1 < 2:=lt
  have ix:Xb 1 (.slice (some ⟨bb,0,some 1⟩) 2 1) (I O.1)=some (pt bb (O.1 * 1) 0):=X3c ⟨bb,0,1⟩ (by show 1 < 2; omega) 2 1 O.1 .i64 lt
  have ldx:X7 false 1 (pt bb (O.1 * 1) 0) m4=some (.int .u8 ((O.1 + 1:Nat):Int)):=k4.ld (List.mem_cons_of_mem _ (List.mem_cons_self ..)) (by
   have:O.1=0∨O.1=1:=by omega
   rcases this with e | e <;> rw [e] <;> rfl)
  simp only [ix,X4,ldx,Xj,Xe]
  refine k4.st1 hl1 kt3 (by omega) rfl rfl (by decide) (by rw [fd_row (r:=2) (sz:=11) rfl b 7 (by omega)]; exact ok_i _ _) fun m5 l5 hl5 hn5 k5=>?_
  exact k5.ins1 hw (d + 6) rfl
 rw [if_neg (of_decide_eq_false hb)]
 simp only [X1a,Qo,X4]
 unfold Q94
 refine Xn (fun hb=>?_) (fun hb=>?_)
 ·rw [if_pos (of_decide_eq_true hb)]
  refine k1.bsl (cs:=[[97,114,101,97],[99,111,115,116],[112,97,115,115,105,118,101]].map sv) rfl (by decide) fun bs m3 k3=>?_
  refine k3.cl (X6d k3.ps (k3.slx (ws:=[[97,114,101,97],[99,111,115,116],[112,97,115,115,105,118,101]]) (List.mem_cons_self ..)) (by simp) (d + 5)) fun m4 k4=>?_
  unfold Q95
  generalize hO:oneC c s1.cu [[97,114,101,97],[99,111,115,116],[112,97,115,115,105,118,101]]=O at k4 ⊢
  have ez:∀ z:Nat,bin .eql true true .int (I O.1) (.int .i64 (z:Int))=some (.bool (decide (O.1=z))):=fun z=>by
   rw [Q3y]
   congr 2
   simp only [decide_eq_decide]
   omega
  have ez0:bin .eql true true .int (I O.1) (.int .i64 0)=some (.bool (decide (O.1=0))):=ez 0
  have ez1:bin .eql true true .int (I O.1) (.int .i64 1)=some (.bool (decide (O.1=1))):=ez 1
  simp only [ez0,ez1,X4]
  refine Xn (fun hb=>?_) (fun hb=>?_)
  ·rw [if_pos (of_decide_eq_true hb)]
   refine k4.cl (X15 k4.ps 0 16777216 16777216 rfl (by omega) (d + 2)) fun m5 k5=>?_
   simp only [Xj,Xe,X4]
   refine k5.st1 hl1 kt3 (by omega) rfl rfl (by decide) (by rw [fd_row (r:=2) (sz:=11) rfl b 8 (by omega)]; exact ok_i _ _) fun m6 l6 hl6 hn6 k6=>?_
   exact Xk7 d hw k6
  ·rw [if_neg (of_decide_eq_false hb)]
   refine Xn (fun hb=>?_) (fun hb=>?_)
   ·rw [if_pos (of_decide_eq_true hb)]
    refine k4.cl (X15 k4.ps 1 65535 65535 rfl (by omega) (d + 2)) fun m5 k5=>?_
    simp only [Xj,Xe,X4]
    refine k5.st1 hl1 kt3 (by omega) rfl rfl (by decide) (by rw [fd_row (r:=2) (sz:=11) rfl b 9 (by omega)]; exact ok_i _ _) fun m6 l6 hl6 hn6 k6=>?_
    exact Xk7 d hw k6
   ·rw [if_neg (of_decide_eq_false hb)]
    simp only [Xj,Xe,X4]
    refine k4.st1 hl1 kt3 (by omega) rfl rfl (by decide) (by rw [fd_row (r:=2) (sz:=11) rfl b 10 (by omega)]; exact ok_b _) fun m6 l6 hl6 hn6 k6=>?_
    exact Xk7 d hw k6
 rw [if_neg (of_decide_eq_false hb)]
 simp only [X1a,Qo,X4]
 refine Xn (fun hb=>?_) (fun hb=>?_)
 ·rw [if_pos (of_decide_eq_true hb)]
  simp only [Xj,Xe,X4]
  refine k1.st1 hl1 kt3 (by omega) rfl rfl (by decide) (by rw [fd_row (r:=2) (sz:=11) rfl b 4 (by omega)]; exact ok_b _) fun m2 l2 hl2 hn2 k2=>?_
  exact k2.ins1 hw (d + 6) rfl
 ·rw [if_neg (of_decide_eq_false hb)]
  exact k1.badr 130 (by decide) (d + 6) rfl
end Go.Ab.Sh

set_option maxRecDepth 100000
namespace Go.Ab.Sh
open Go Go.Ab Go.Lib
variable {c:Cx} {m0 m:Mem} {φ0 φ:Phi} {s0 s s':PSt} {cap δ:Nat} {ts:List Tmp} {x:Option Rs} {Q:Value→Nat→Phi→PSt→Prop} {v:Value} {cu:Cu}
theorem kt4:kt [4,0]=some 3:=rfl
noncomputable abbrev ruL (p:Bool) (pr:Int) (a1 a2 b1 b2 d1 d2 e1 e2:Int):List Value:=[.bool p,.int .i64 pr,.int .u32 a1,.int .i64 a2,.int .u32 b1,.int .i64 b2,.int .u32 d1,.int .u32 d2,.int .u32 e1,.int .u32 e2]
noncomputable def Xhe (c:Cx) (s:PSt) (b:Nat) (p:Bool) (pr:Int):PSt:=
 let a:=Xbc c s.cu
 let q:=X3e c a.2 pr
 let d:=Xbc c q.2
 let e:=X3e c d.2 pr
 (s.at e.2).app [4,0] (b * 2 + 1) [.v (.bool p),.v (.int .i64 pr),.v (u32 a.1.1),.v (I a.1.2),.v (u32 d.1.1),.v (I d.1.2),.v (.int .u32 q.1.1),.v (.int .u32 q.1.2),.v (.int .u32 e.1.1),.v (.int .u32 e.1.2)]
theorem Xxl (d:Nat) {l:List Cl} {b b5:Nat} {p:Bool} {pr:Int} (hc:cap ≤ 8589934592) (h:W c m0 φ s cap m φ s' ((b5,0,ruL p pr 0 0 0 0 0 0 0 0) :: ts)) (hl:s'.X [4,0]=some (.c l)) (hb:b * 2 + 2 ≤ l.length) :
  Res c m0 φ s (Q1l (dd d) (pt c.C 0 0) (pt b5 0 0) (pt (φ [4,0]).b (b * 2) (φ [4,0]).ver) m) (Q_p cap 1 (.tuple ⟨[]⟩) (Xhe c s' b p pr)):=by
 unfold Q1l
 refine h.cl (Xp6 h.ps (d + 1)) fun m1 k1=>?_
 generalize hA:Xbc c s'.cu=A at k1
 simp only [Xe,X4,Nat.zero_add]
 refine k1.sto (l1:=[]) (o:=2) (y:=pfx A.1.1 (A.1.2:Int)) (cs':=ruL p pr A.1.1 A.1.2 0 0 0 0 0 0) rfl rfl (by show 2 + 2 ≤ 10; omega) rfl fun m2 k2=>?_
 have ld2:X7 false 1 (pt b5 1 0) m2=some (.int .i64 pr):=k2.ld (List.mem_cons_self ..) rfl
 simp only [ld2,X4]
 refine k2.cl (Xlq k2.ps pr (d + 1)) fun m3 k3=>?_
 rw [X29] at k3 ⊢
 generalize hB:X3e c A.2 pr=B at k3 ⊢
 refine k3.sto (l1:=[]) (o:=6) (y:=spV B.1.1 B.1.2) (cs':=ruL p pr A.1.1 A.1.2 0 0 B.1.1 B.1.2 0 0) rfl rfl (by show 6 + 2 ≤ 10; omega) rfl fun m4 k4=>?_
 refine k4.cl (Xp6 k4.ps (d + 1)) fun m5 k5=>?_
 rw [X29] at k5 ⊢
 generalize hD:Xbc c B.2=D at k5 ⊢
 refine k5.sto (l1:=[]) (o:=4) (y:=pfx D.1.1 (D.1.2:Int)) (cs':=ruL p pr A.1.1 A.1.2 D.1.1 D.1.2 B.1.1 B.1.2 0 0) rfl rfl (by show 4 + 2 ≤ 10; omega) rfl fun m6 k6=>?_
 have ld6:X7 false 1 (pt b5 1 0) m6=some (.int .i64 pr):=k6.ld (List.mem_cons_self ..) rfl
 simp only [ld6,X4]
 refine k6.cl (Xlq k6.ps pr (d + 1)) fun m7 k7=>?_
 rw [X29] at k7 ⊢
 generalize hE:X3e c D.2 pr=E at k7 ⊢
 refine k7.sto (l1:=[]) (o:=8) (y:=spV E.1.1 E.1.2) (cs':=ruL p pr A.1.1 A.1.2 D.1.1 D.1.2 B.1.1 B.1.2 E.1.1 E.1.2) rfl rfl (by show 8 + 2 ≤ 10; omega) rfl fun m8 k8=>?_
 have hl8:((((s'.at A.2).at B.2).at D.2).at E.2).X [4,0]=some (.c l):=hl
 have hf:fdAt 3 (b * 2 + 1)=some (.l 4):=by rw [fd_row (r:=3) (sz:=2) rfl b 1 (by omega)]; rfl
 obtain ⟨_,_,ldh,_,_⟩:=k8.ps.list hl8 kt4 (o:=b * 2 + 1) (by omega) hf
 have ldr:X7 true 10 (pt b5 0 0) m8=some (.agg ⟨ruL p pr A.1.1 A.1.2 D.1.1 D.1.2 B.1.1 B.1.2 E.1.1 E.1.2⟩):=k8.lds (o:=0) (List.mem_cons_self ..) (by show 0 + 10 ≤ 10; omega) rfl
 simp only [Xj,Xe,X4,ldh,ldr]
 refine k8.bsl (cs:=ruL p pr A.1.1 A.1.2 D.1.1 D.1.2 B.1.1 B.1.2 E.1.1 E.1.2) rfl (by decide) fun b2 m9 k9=>?_
 have k9:W c m0 φ s cap m9 φ ((((s'.at A.2).at B.2).at D.2).at E.2) ((b2,0,[Cl.v (.bool p),.v (.int .i64 pr),.v (u32 A.1.1),.v (I A.1.2),.v (u32 D.1.1),.v (I D.1.2),.v (.int .u32 B.1.1),.v (.int .u32 B.1.2),.v (.int .u32 E.1.1),.v (.int .u32 E.1.2)].map Cl.raw) :: _):=k9
 refine k9.apk hc hl8 kt4 (by omega) hf (sz:=10) rfl rfl rfl (X2k (by repeat' (first | exact trivial | exact ok_i _ _ | exact ok_b _ | apply And.intro))) (by decide) fun cap1 m10 φ1 hc1 _ k10=>?_
 have e:Xhe c s' b p pr=((((s'.at A.2).at B.2).at D.2).at E.2).app [4,0] (b * 2 + 1) [.v (.bool p),.v (.int .i64 pr),.v (u32 A.1.1),.v (I A.1.2),.v (u32 D.1.1),.v (I D.1.2),.v (.int .u32 B.1.1),.v (.int .u32 B.1.2),.v (.int .u32 E.1.1),.v (.int .u32 E.1.2)]:=by
  unfold Xhe
  dsimp only
  rw [hA,hB,hD,hE]
  rfl
 rw [e]
 exact k10.retp hc1
theorem Xw2 (h:PS c cap m φ s) (hc:cap ≤ 8589934592) (hn:0 < nOf s.X [0] 4) (d:Nat):PaD c cap 1 m φ s (TA (d + 9) Q6r [pt c.P 0 0,pt c.C 0 0] m) (.tuple ⟨[]⟩) (Xiv c s):=by
 refine h.pad (X89 _ _ _ _) fun m0 k=>?_
 obtain ⟨l,hl,_,hll,ld,sb,ix⟩:=k.ps.last hc (f:=4) (r':=3) (sz:=2) rfl (by omega) rfl hn
 unfold Q4o
 simp only [Xj,Xe,X4,Nat.zero_add,ld,X2x,sb,ix]
 unfold Qb6
 refine k.bsl (cs:=[[112,101,114,109,105,116],[100,101,110,121]].map sv) rfl (by decide) fun bs m1 k1=>?_
 refine k1.cl (X6d k1.ps (k1.slx (ws:=[[112,101,114,109,105,116],[100,101,110,121]]) (List.mem_cons_self ..)) (by simp) (d + 5)) fun m2 k2=>?_
 have spec:Xiv c s=(let o:=oneC c s.cu [[112,101,114,109,105,116],[100,101,110,121]]
   let x1:=isC c o.2 [97,110,121]
   let x2:=isC c x1.2 [116,99,112]
   let x3:=isC c x2.2 [117,100,112]
   let x4:=isC c x3.2 [105,99,109,112]
   let n:=Xf c x4.2 0 255
   let P:=decide (o.1=0)
   let b:=nOf s.X [0] 4 - 1
   if x1.1=true then Xhe c (s.at x1.2) b P (-1) else if x2.1=true then Xhe c (s.at x2.2) b P 6 else if x3.1=true then Xhe c (s.at x3.2) b P 17 else if x4.1=true then Xhe c (s.at x4.2) b P 1 else Xhe c (s.at n.2) b P n.1):=by
  unfold Xiv
  dsimp only
  split
  ·rfl
  ·split
   ·rfl
   ·split
    ·rfl
    ·split <;> rfl
 rw [spec]
 dsimp only
 generalize hO:oneC c s.cu [[112,101,114,109,105,116],[100,101,110,121]]=O at k2 ⊢
 generalize nOf s.X [0] 4 - 1=b at hll ⊢
 have e0:bin .eql true true .int (I O.1) (.int .i64 0)=some (.bool (decide (O.1=0))):=by
  rw [Q3y]
  congr 2
  simp only [decide_eq_decide]
  omega
 generalize decide (O.1=0)=p at e0 ⊢
 have eb:Xi Qhn [(0,1),(1,1),(2,2),(4,2),(6,2),(8,2)] [(0,.bool p)]=some (.agg ⟨ruL p 0 0 0 0 0 0 0 0 0⟩):=Eq.trans rfl rfl
 simp only [e0,eb,X4]
 refine k2.new fun b5 m3 k3=>?_
 refine k3.sto (l1:=[]) (o:=0) (y:=.agg ⟨ruL p 0 0 0 0 0 0 0 0 0⟩) (cs':=ruL p 0 0 0 0 0 0 0 0 0) rfl rfl (by show 0 + 10 ≤ 10; omega) rfl fun m4 k4=>?_
 unfold Qb7
 have fin:∀ (pr:Int) (m':Mem) (s':PSt),s'.X [4,0]=some (.c l)→W c m0 φ s cap m' φ s' ((b5,0,ruL p 0 0 0 0 0 0 0 0 0) :: [(bs,0,[[112,101,114,109,105,116],[100,101,110,121]].map sv)]) →
   Res c m0 φ s (bp (unt (X8 1 (pt b5 1 0) (.int .i64 pr) m')) fun _ m=>Q1l (dd d) (pt c.C 0 0) (pt b5 0 0) (pt (φ [4,0]).b (b * 2) (φ [4,0]).ver) m) (Q_p cap 1 (.tuple ⟨[]⟩) (Xhe c s' b p pr)):=fun pr m' s' hl' k'=>by
  refine k'.sto (l1:=[]) (o:=1) (y:=.int .i64 pr) (cs':=ruL p pr 0 0 0 0 0 0 0 0) rfl rfl (by show 1 + 1 ≤ 10; omega) rfl fun m5 k5=>?_
  exact Xxl d hc k5 hl' hll
 refine k4.cl (X64 k4.ps [97,110,121] (d + 6)) fun m5 k5=>?_
 rw [X29] at k5 ⊢
 simp only [Xe,X4,Nat.zero_add]
 refine Xn (fun hb=>?_) (fun hb=>?_)
 ·rw [if_pos hb]
  exact fin (-1) m5 _ hl k5
 rw [if_neg (by simpa using hb)]
 refine k5.cl (X64 k5.ps [116,99,112] (d + 6)) fun m6 k6=>?_
 rw [X29] at k6 ⊢
 refine Xn (fun hb=>?_) (fun hb=>?_)
 ·rw [if_pos hb]
  exact fin 6 m6 _ hl k6
 rw [if_neg (by simpa using hb)]
 refine k6.cl (X64 k6.ps [117,100,112] (d + 6)) fun m7 k7=>?_
 rw [X29] at k7 ⊢
 refine Xn (fun hb=>?_) (fun hb=>?_)
 ·rw [if_pos hb]
  exact fin 17 m7 _ hl k7
 rw [if_neg (by simpa using hb)]
 refine k7.cl (X64 k7.ps [105,99,109,112] (d + 6)) fun m8 k8=>?_
 rw [X29] at k8 ⊢
 refine Xn (fun hb=>?_) (fun hb=>?_)
 ·rw [if_pos hb]
  exact fin 1 m8 _ hl k8
 rw [if_neg (by simpa using hb)]
 refine k8.cl (X15 k8.ps 0 255 255 rfl (by omega) (d + 2)) fun m9 k9=>?_
 rw [X29] at k9 ⊢
 exact fin _ m9 _ hl k9
end Go.Ab.Sh

set_option maxRecDepth 100000
namespace Go.Ab.Sh
open Go Go.Ab Go.Lib
variable {c:Cx} {m0 m:Mem} {φ0 φ:Phi} {s0 s s':PSt} {cap δ:Nat} {ts:List Tmp} {x:Option Rs} {Q:Value→Nat→Phi→PSt→Prop} {v:Value} {cu:Cu}
theorem kt10:kt [10,0]=some 14:=rfl
theorem kt11:kt [11,0]=some 16:=rfl
theorem Res.pd {x:Option Rs} {v:Value} {S:PSt} (h:Res c m0 φ0 s0 x (Q_s cap φ v S)):Res c m0 φ0 s0 x (Q_p cap δ v S):=by
 obtain ⟨v',m1,cap1,φ1,s1,a1,a2,a3,rfl,rfl,rfl,rfl⟩:=h
 exact ⟨_,m1,_,_,_,a1,a2,a3,rfl,Nat.le_add_right _ _,rfl⟩
theorem X74 (L:Lc) (n sz:Nat) (m:Mem):again (pur (some (slV L n sz)) m) (slV L n sz)=true:=by
 show vsame 8 (slV L n sz) (slV L n sz)=true
 unfold slV
 split <;> simp [vsame]
theorem Xpx (h:PS c cap m φ s) (third:Str) (fr:Nat) (typed:Bool):(X2r c s.cu third fr typed).1.2.2.2.length ≤ 65536:=by
 show (rmR c _).1.length ≤ 65536
 have key:∀ cu:Cu,(rmR c cu).1.length ≤ 65536:=fun cu=>by
  unfold rmR
  split
  ·show (Xk c _).1.length ≤ 65536
   unfold Xk
   split
   ·rename_i hm
    exact (h.wl.txt _ (List.mem_of_getElem? (Xj6 (X8p (s:={ s with cu:=(isC c cu [114,111,117,116,101,45,109,97,112]).2 }) hm)))).1
   ·exact Nat.zero_le _
  ·exact Nat.zero_le _
 exact key _
theorem W.red (d:Nat) (h:W c m0 φ s cap m φ s' ts) (hc:cap ≤ 8589934592) {k:Key} {l:List Cl} {r o:Nat} (hk:s'.X k=some (.c l)) (hr:kt k=some r) (ho:o < l.length) (hf:fdAt r o=some (.l 15)) (third:Str) (fr:Nat) (typed:Bool) :
  Res c m0 φ s (bp (pur (X7 false 1 (pt (φ k).b o (φ k).ver) m) m) fun x21 m =>
   bp (TA (d + 7) Q3n [pt c.C 0 0,sv third,.int .u8 (fr:Int),.bool typed] m) fun x22 m =>
   ckB (again (pur (X7 false 1 (pt (φ k).b o (φ k).ver) m) m) x21 && true)
    (bp (X9 Q7a Q4v 4 1 [(0,x22)] m) fun x23 m =>
   bp (apS Q7a 4 40 x21 x23 m) fun x24 m =>
   bp (unt (X8 1 (pt (φ k).b o (φ k).ver) x24 m)) fun _ m =>
   some (.tuple ⟨[]⟩,m))) (Q_p cap 1 (.tuple ⟨[]⟩) ((s'.at (X2r c s'.cu third fr typed).2).app k o (rdC (X2r c s'.cu third fr typed).1))):=by
 obtain ⟨_,_,ld,_,_⟩:=h.ps.list hk hr ho hf
 rw [ld,X4]
 have hle:=Xpx h.ps third fr typed
 refine h.cl (Xr8 h.ps third fr typed d) fun m1 k1=>?_
 generalize X2r c s'.cu third fr typed=R at k1 hle ⊢
 have hk1:(s'.at R.2).X k=some (.c l):=hk
 obtain ⟨_,_,ld1,_,_⟩:=k1.ps.list hk1 hr ho hf
 have ld1:X7 false 1 (pt (φ k).b o (φ k).ver) m1=some (slV (φ (o :: k)) (nOf s'.X k o) (rowL 15)):=ld1
 rw [ld1,X74,Bool.and_true,X2c]
 refine k1.bsl (cs:=rdL R.1.1 R.1.2.1 R.1.2.2.1 R.1.2.2.2) rfl (by decide) fun b2 m2 k2=>?_
 have k2:W c m0 φ s cap m2 φ (s'.at R.2) ((b2,0,(rdC R.1).map Cl.raw) :: ts):=k2
 refine k2.apk hc hk1 hr ho hf (sz:=4) rfl rfl rfl (X2k (by repeat' (first | exact trivial | exact ok_i _ _ | exact ok_s (Nat.le_trans hle (by decide)) | apply And.intro))) (by decide) fun cap1 m3 φ1 hc1 _ k3=>?_
 exact k3.retp hc1
theorem Xvn (h:PS c cap m φ s) (hc:cap ≤ 8589934592) (hn:0 < nOf s.X [0] 10) (d:Nat):PaD c cap 1 m φ s (TA (d + 9) Q6s [pt c.P 0 0,pt c.C 0 0] m) (.tuple ⟨[]⟩) (Xi3 c s):=by
 refine h.pad (X8t _ _ _ _) fun m0 k=>?_
 obtain ⟨l,hl,_,hll,ld,sb,ix⟩:=k.ps.last hc (f:=10) (r':=14) (sz:=3) rfl (by omega) rfl hn
 unfold Q4p
 simp only [Xj,Xe,X4,Nat.zero_add,ld,X2x,sb,ix]
 have hw:=X2m k.ps
 refine k.cl (X2p k.ps (d + 6)) fun m1 k1=>?_
 unfold Xi3
 dsimp only
 have e0:nOf (s.at (Xk c s.cu).2).X [0] 10=nOf s.X [0] 10:=rfl
 rw [e0]
 generalize nOf s.X [0] 10 - 1=b at hll ⊢
 generalize (Xk c s.cu).1=w at hw ⊢
 have hl1:(s.at (Xk c s.cu).2).X [10,0]=some (.c l):=hl
 generalize s.at (Xk c s.cu).2=s1 at k1 hl1 ⊢
 try simp only [X1a,Qo,X4]
 refine Xn (fun hb=>?_) (fun hb=>?_)
 ·rw [if_pos (of_decide_eq_true hb)]
  refine k1.cl (X43 k1.ps (d + 3)) fun m2 k2=>?_
  try simp only [Xj,Xe,X4]
  refine k2.st1 hl1 kt10 (by omega) rfl rfl (by decide) (by rw [fd_row (r:=14) (sz:=3) rfl b 1 (by omega)]; exact ok_i _ _) fun m3 l3 hl3 hn3 k3=>?_
  exact (k3.ins1 hw (d + 6) rfl).pd
 rw [if_neg (of_decide_eq_false hb)]
 try simp only [X1a,Qo,X4]
 refine Xn (fun hb=>?_) (fun hb=>?_)
 ·rw [if_pos (of_decide_eq_true hb)]
  try simp only [Xj,Xe,X4]
  exact k1.red (d + 1) hc hl1 kt10 (by omega) (by rw [fd_row (r:=14) (sz:=3) rfl b 2 (by omega)]; rfl) [98,103,112] 8 true
 ·rw [if_neg (of_decide_eq_false hb)]
  exact (k1.badr 130 (by decide) (d + 6) rfl).pd
theorem Xx7 (i:Option Nat):bin .geq true true .int (idxV i) (.int .i64 0)=some (.bool i.isSome):=by
 cases i with
 | none=>show bin .geq true true .int (.int .i64 (-1)) (.int .i64 0)=_; rw [Qhk]; rfl
 | some j=>show bin .geq true true .int (I j) (.int .i64 0)=_; rw [Qhk,decide_eq_true (by omega)]; rfl
theorem Xrr (i:Option Nat):bin .lss true true .int (idxV i) (.int .i64 0)=some (.bool i.isNone):=by
 cases i with
 | none=>show bin .lss true true .int (.int .i64 (-1)) (.int .i64 0)=_; rw [Qw]; rfl
 | some j=>show bin .lss true true .int (I j) (.int .i64 0)=_; rw [Qw,decide_eq_false (by omega)]; rfl
theorem nb_9 {cap1:Nat} {φ1:Phi} (h:W c m0 φ s cap1 m φ1 s' ts) (hc1:cap1 ≤ cap + 1) {bw n r:Nat} {ws:List Str} (hb:(bw,0,ws.map sv) ∈ ts) (hn:n=ws.length) (hr:r < 2) (h0:ws ≠ []) (hle:ws.length ≤ 16) (hl:∀ w ∈ ws,w.length ≤ 65536) (d:Nat) {S:PSt} (hS:Xz s' ws=S) :
  Res c m0 φ s (Q25 (d6 d) (pt c.P 0 0) (.slice (some ⟨bw,0,some 1⟩) n r) m) (Q_p cap 1 (.tuple ⟨[]⟩) S):=by
 subst hS
 unfold Q25
 exact h.cs (X55 h.ps (h.slx' hb hn hr) h0 hle hl (d + 4)) fun m1 k1=>k1.retp hc1
noncomputable def X7y (s:PSt) (b:Nat) (i:Option Nat) (o:Nat) (yl:List Value) (ws:List Str):PSt:=match i with
 | none=>if o=0 then Xz (s.app [11,0] (b * 6 + 4) (yl.map .v)) ws else s.sto [0] 16 [.bool true]
 | some j=>Xz (if o=0 then s else s.sto [b * 6 + 4,11,0] (j * 6) yl) ws
theorem nb_6 (hc:cap ≤ 8589934592) {l:List Cl} {b o by' bw n r:Nat} {i:Option Nat} {yl:List Value} {ws:List Str} (h:W c m0 φ s cap m φ s' ts) (hl:s'.X [11,0]=some (.c l)) (hll:b * 6 + 6 ≤ l.length) (hi:∀ j,i=some j→j < nOf s'.X [11,0] (b * 6 + 4))
  (hby:(by',0,yl) ∈ ts) (hy6:yl.length=6) (hyt:okL (rowT 18) (yl.map .v)) (hy1:yl.all one=true) (hbw:(bw,0,ws.map sv) ∈ ts) (hn:n=ws.length) (hr:r < 2) (h0:ws ≠ []) (hle:ws.length ≤ 16) (hwl:∀ w ∈ ws,w.length ≤ 65536) (d:Nat) :
  Res c m0 φ s (Q1b (d6 d) (I o) (idxV i) (pt (φ [11,0]).b (b * 6) (φ [11,0]).ver) (pt by' 0 0) (pt c.P 0 0) (.slice (some ⟨bw,0,some 1⟩) n r) m) (Q_p cap 1 (.tuple ⟨[]⟩) (X7y s' b i o yl ws)):=by
 have hf:fdAt 16 (b * 6 + 4)=some (.l 18):=by rw [fd_row (r:=16) (sz:=6) rfl b 4 (by omega)]; rfl
 obtain ⟨_,_,ldh,_,q5⟩:=h.ps.list hl kt11 (o:=b * 6 + 4) (by omega) hf
 have ldy:X7 true 6 (pt by' 0 0) m=some (.agg ⟨yl⟩):=h.lds (o:=0) hby (by omega) (by rw [List.drop_zero,List.take_of_length_le (by omega)])
 have e0:bin .eql true true .int (I o) (.int .i64 0)=some (.bool (decide (o=0))):=X3q o 0
 have e1:bin .neq true true .int (I o) (.int .i64 0)=some (.bool (decide (o ≠ 0))):=Xvt o 0
 unfold Q1b
 simp only [e0,X4]
 have hold:∀ x7:Bool,x7=(decide (o=0) && i.isNone)→Res c m0 φ s (Q3e (d6 d) (.bool x7) (pt (φ [11,0]).b (b * 6) (φ [11,0]).ver) (pt by' 0 0) (pt c.P 0 0) (.slice (some ⟨bw,0,some 1⟩) n r) (idxV i) (I o) m) (Q_p cap 1 (.tuple ⟨[]⟩) (X7y s' b i o yl ws)):=fun x7 hx=>by
  unfold Q3e
  refine Xn (fun hb=>?_) (fun hb=>?_)
  ·rw [hb] at hx
   have hx:=hx.symm
   simp only [Bool.and_eq_true,decide_eq_true_eq,Option.isNone_iff_eq_none] at hx
   obtain ⟨rfl,rfl⟩:=hx
   simp only [Xj,Xe,X4,ldh,ldy]
   refine h.bsl (cs:=yl) (by
    match yl,hy6 with
    | [y0,y1,y2,y3,y4,y5],_=>rfl) (by decide) fun b2 m1 k1=>?_
   have k1:W c m0 φ s cap m1 φ s' ((b2,0,(yl.map Cl.v).map Cl.raw) :: ts):=by
    rw [List.map_map,show (Cl.raw ∘ Cl.v)=id from rfl,List.map_id]
    exact k1
   refine k1.apk hc hl kt11 (by omega) hf (sz:=6) rfl (by rw [List.length_map]; exact hy6) (by
    rw [List.all_map]
    exact hy1) (X2k hyt) (by decide) fun cap1 m2 φ1 hc1 _ k2=>?_
   exact nb_9 k2 hc1 hbw hn hr h0 hle hwl d (by unfold X7y; simp)
  ·rw [hb] at hx
   simp only [Xx7,X4,e1]
   have h8:∀ x8:Bool,x8=(i.isSome && decide (o ≠ 0))→Res c m0 φ s (Q3d (d6 d) (.bool x8) (pt (φ [11,0]).b (b * 6) (φ [11,0]).ver) (idxV i) (pt by' 0 0) (pt c.P 0 0) (.slice (some ⟨bw,0,some 1⟩) n r) m) (Q_p cap 1 (.tuple ⟨[]⟩) (X7y s' b i o yl ws)):=fun x8 hx8=>by
    unfold Q3d
    refine Xn (fun hb=>?_) (fun hb=>?_)
    ·rw [hb] at hx8
     have hx8:=hx8.symm
     simp only [Bool.and_eq_true,decide_eq_true_eq] at hx8
     obtain ⟨g1,g2⟩:=hx8
     obtain ⟨j,rfl⟩:=Option.isSome_iff_exists.mp g1
     have hj:=hi j rfl
     obtain ⟨l2,a1,a2,a3⟩:=q5 (by omega)
     have ixj:Xb 6 (slV (φ [b * 6 + 4,11,0]) (nOf s'.X [11,0] (b * 6 + 4)) (rowL 18)) (idxV (some j))=some (pt (φ [b * 6 + 4,11,0]).b (j * 6) (φ [b * 6 + 4,11,0]).ver):=X3c _ a3 _ 6 j .i64 hj
     have hend:=row_end (sz:=rowL 18) hj
     have hend:j * 6 + 6 ≤ l2.length:=by rw [a2]; exact hend
     simp only [Xj,Xe,X4,ldh,ldy,ixj]
     refine h.stn (k:=[b * 6 + 4,11,0]) a1 (X2z kt11 hf) hy6 hend hy1 (fun e=>by injection e with e1 e2; cases e2) (fun q y hy=>?_) fun m1 k1=>?_
     ·have hq:q < 6:=by rw [← hy6]; exact (List.getElem?_eq_some_iff.mp hy).1
      rw [fd_row (r:=18) (sz:=6) rfl j q hq]
      exact X2k hyt q (.v y) (by rw [List.getElem?_map,hy]; rfl)
     ·exact nb_9 k1 (Nat.le_succ _) hbw hn hr h0 hle hwl d (by unfold X7y; dsimp only; rw [if_neg g2])
    ·rw [hb] at hx8
     simp only [Xrr,X4]
     refine Xn (fun hb2=>?_) (fun hb2=>?_)
     ·rw [Option.isNone_iff_eq_none] at hb2
      subst hb2
      have ho:o ≠ 0:=fun e=>by subst e; simp at hx
      try simp only [Xj,Xe,X4,Nat.zero_add]
      refine h.str1 (o:=16) (x:=.bool true) rfl rfl (by omega) (.inr (by omega)) (show okc (some Fd.b) (.v (.bool true)) from ok_b true) fun m1 k1=>?_
      have e:X7y s' b none o yl ws=s'.sto [0] 16 [.bool true]:=by unfold X7y; simp [ho]
      rw [e]
      exact k1.retp (Nat.le_succ _)
     ·cases i with
      | none=>simp at hb2
      | some j =>
       have ho:o=0:=by
        simp at hx8
        exact hx8
       exact nb_9 h (Nat.le_succ _) hbw hn hr h0 hle hwl d (by unfold X7y; dsimp only; rw [if_pos ho])
   cases i with
   | none =>
    simp only [Option.isSome_none,Xa]
    exact h8 false rfl
   | some j =>
    simp only [Option.isSome_some,Xc,e1,X4]
    exact h8 _ (by simp)
 by_cases ho:o=0
 ·rw [decide_eq_true ho,Xc]
  simp only [Xrr,X4]
  exact hold _ (by rw [decide_eq_true ho,Bool.true_and])
 ·rw [decide_eq_false ho,Xa]
  exact hold false (by rw [decide_eq_false ho,Bool.false_and])
end Go.Ab.Sh
