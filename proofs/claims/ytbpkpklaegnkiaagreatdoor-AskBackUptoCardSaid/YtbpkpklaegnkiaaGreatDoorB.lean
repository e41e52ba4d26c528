/-
  What the functions of package bdd come to at an arena as it lies in the memory. No conditions.
-/
import Derived.Test.YtbpkpklaegnkiaaGreatDoorT
import Derived.Test.YtbpkpklaegnkiaaGreatDoorAb5
set_option linter.unusedSimpArgs false
set_option linter.unusedVariables false
namespace Go.Ab.Sh
open Go Go.Ab

theorem Xwb {G:Gt} {I:Ids} {s:ASt} {Gs H:SB} {m:Mem} (hA:Ar I s Gs H m) {f:Nat} (hf:f < s.n) (v:Nat) (b:Bool) :
  ∃ m1,Q1v G (pt I.a 0 I.av) (i32 f) (i32 v) (.bool b) m=some (i32 (cutP s.N f v b),m1)∧Fr [] m m1:=by
 obtain ⟨m2,k1,hF,_,hg⟩:=X16 [] m (some (2 * Qd + 1)) Qb5 (v:=.agg ⟨[i32 (ndc s.N (3 * f)),i32 (ndc s.N (3 * f + 1)),i32 (ndc s.N (3 * f + 2))]⟩) (n:=3) rfl rfl rfl
 refine ⟨m2,?_,hF⟩
 have l0:X4 false 1 (pt m.next (0 + 0) 0) m2=some (i32 (ndc s.N (3 * f))):=Xt hg rfl
 have l1:X4 false 1 (pt m.next (0 + 1) 0) m2=some (i32 (ndc s.N (3 * f + 1))):=Xt hg rfl
 have l2:X4 false 1 (pt m.next (0 + 2) 0) m2=some (i32 (ndc s.N (3 * f + 2))):=Xt hg rfl
 unfold Q1v
 simp only [X4v,X7,Xy,hA.fld 2 rfl,Ar.idx hf,hA.node hf,aNew,X9,k1,Xg,l0,Xyh]
 rw [X109]
 by_cases h:ndc s.N (3 * f)=v
 ·simp only [h,ne_eq,not_true_eq_false,decide_false,Xd,if_true]
  cases b
  ·simp only [Xd,l1,X7,Bool.false_eq_true,if_false]
  ·simp only [Xh,l2,X7,if_true]
 ·simp only [h,ne_eq,not_false_eq_true,decide_true,Xh,if_false]

theorem Xfc (a b c:Nat):X18 Qb5 [(0,1),(1,1),(2,1)] [(0,i32 a),(1,i32 b),(2,i32 c)]=some (.agg ⟨[i32 a,i32 b,i32 c]⟩):=Eq.trans rfl rfl
theorem Xkg (a b c:Nat) (m:Mem):Xc Qd Qb5 3 1 [(0,.agg ⟨[i32 a,i32 b,i32 c]⟩)] m=some (.slice (some ⟨m.next,0,some 3⟩) 1 1,m.push (.cells [i32 a,i32 b,i32 c] 0 0 false (some (2 * Qd)))):=Eq.trans rfl rfl

theorem X101 {G:Gt} {I:Ids} {s s':ASt} {Gs H:SB} {m:Mem} {v lo hi r:Nat} (hA:Ar I s Gs H m) (hT:tyOf I.nty (2 * Qd)=I.nty) (hR:MkR s v lo hi r s') :
  ∃ m1,Q1j G (i32 lo) (i32 hi) (i32 v) (pt I.a 0 I.av) m=some (i32 r,m1)∧Fr I.W m m1∧Ar I s' Gs H m1:=by
 obtain ⟨m2,k1,hF,hn2,hg⟩:=X16 [] m (some (2 * Qd + 1)) Qb5 (v:=.agg ⟨[i32 v,i32 lo,i32 hi]⟩) (n:=3) rfl rfl rfl
 have hA2:=hA.fr hF
 have l9:X4 true 3 (pt m.next 0 0) m2=some (.agg ⟨[i32 v,i32 lo,i32 hi]⟩):=X10 hg (by show 0 + 3 ≤ 3; omega) rfl
 cases hR with
 | same =>
  refine ⟨m,?_,.refl _ _,hA⟩
  unfold Q1j Q87
  simp only [X4r,X7,decide_true,Xh]
 | old =>
  have hne:lo ≠ hi:=by assumption
  have hv:v < 65536:=by assumption
  have hlo:lo < 65536:=by assumption
  have hl:s.B.look (cod v lo hi)=some r:=by assumption
  refine ⟨m2,?_,hF.mono (by simp),hA2⟩
  unfold Q1j Q87 Qcv Qcw Qcx Q88
  simp only [X4r,X7,hne,decide_false,Xd,Xfc,aNew,X9,k1,Xg,X4v,Xy,hA2.fld 3 rfl,l9,Xvr hA2.b hv hlo,hl,ext0,ext1,X2o,Bool.not_true]
 | new =>
  rename_i B' _ _ _ _ _ _ hi'
  have hne:lo ≠ hi:=by assumption
  have hv:v < 65536:=by assumption
  have hlo:lo < 65536:=by assumption
  have hhi:hi < 65536:=by assumption
  have hl:s.B.look (cod v lo hi)=none:=by assumption
  have hn:s.n < 65535:=by assumption
  have hW:∀ w ∈ I.W,w < m2.next:=hA2.lt
  have ne:=Ids.ne hA2.nd
  have hF2:Fr I.W m m2:=hF.mono (by simp)
  -- the row that is put behind
  have hA3:Ar I s Gs H (m2.push (.cells [i32 v,i32 lo,i32 hi] 0 0 false (some (2 * Qd)))):=hA2.fr (.push _)
  have hF3:Fr I.W m (m2.push (.cells [i32 v,i32 lo,i32 hi] 0 0 false (some (2 * Qd)))):=hF2.trans (.push _)
  have hg3:(m2.push (.cells [i32 v,i32 lo,i32 hi] 0 0 false (some (2 * Qd)))).get m2.next=some (.cells [i32 v,i32 lo,i32 hi] 0 0 false (some (2 * Qd))):=by rw [Mem.get_push,if_pos rfl]
  have hgp:(m2.push (.cells [i32 v,i32 lo,i32 hi] 0 0 false (some (2 * Qd)))).get m.next=some (.cells [i32 v,i32 lo,i32 hi] 0 0 false (some (2 * Qd + 1))):=by
   rw [Mem.get_push,if_neg (by omega)]; exact hg
  have hle:∀ w ∈ I.W,w < m.next:=hA.lt
  generalize hm3:m2.push (.cells [i32 v,i32 lo,i32 hi] 0 0 false (some (2 * Qd)))=m3 at hA3 hF3 hg3 hgp
  have hfit:fits (s.n + 1) 12=true:=by
   simp only [fits,Bool.and_eq_true,Nat.ble_eq]; omega
  obtain ⟨m4,k4,e4⟩:=Xmo (e:=Qd) (bytes:=12) (len:=s.n) (size:=3) hA3.n hg3 rfl rfl (by omega) (Nat.zero_le _) (by rw [X3a]; omega) hfit
  rw [List.take_of_length_le (by rw [X3a]; omega),hT] at e4
  have hF4:Fr I.W m m4:=(hF3.put _ (.inl (by simp [Ids.W]))).meq e4
  have ga4:m4.get I.a=m3.get I.a:=by rw [e4.get,Mem.get_put,if_neg ne.an.symm]
  obtain ⟨m5,k5,e5⟩:=X3f (m:=m4) (b:=I.a) (o:=0 + 2) (v:=.slice (some ⟨I.nb,0,some 3⟩) (s.n + 1) (2 * (s.ver + 1))) (n:=1) (by rw [ga4]; exact hA3.a) rfl (Nat.zero_le _) (by show 0 + 2 + 1 ≤ 7; omega) rfl rfl
  have hF5:Fr I.W m m5:=(hF4.put _ (.inl (by simp [Ids.W]))).meq e5
  have g5:∀ b,b ≠ I.a→b ≠ I.nb→m5.get b=m3.get b:=fun b h1 h2=>by rw [e5.get,Mem.get_put,if_neg h1.symm,e4.get,Mem.get_put,if_neg h2.symm]
  have ga5:=e5.get I.a
  rw [Mem.get_put,if_pos rfl] at ga5
  have gn5:m5.get I.nb=some (.cells (ndl s.N (3 * s.n) ++ [i32 v,i32 lo,i32 hi]) (s.ver + 1) 0 false I.nty):=by
   rw [e5.get,Mem.get_put,if_neg ne.an,e4.get,Mem.get_put,if_pos rfl]
  have gb5:m5.get I.bb=some (Sp.norm (.tab s.B)):=by rw [g5 _ ne.ab.symm ne.nb.symm]; exact hA3.b
  have l9':X4 true 3 (pt m.next 0 0) m5=some (.agg ⟨[i32 v,i32 lo,i32 hi]⟩):=X10 (by
   have h1:=hle I.a (by simp [Ids.W])
   have h2:=hle I.nb (by simp [Ids.W])
   rw [g5 _ (by omega) (by omega)]; exact hgp) (by show 0 + 3 ≤ 3; omega) rfl
  have lb5:X4 false 1 (pt I.a (0 + 3) I.av) m5=some (.map (some I.bb)):=Xt ga5 rfl
  refine ⟨m5.put I.bb (Sp.norm (.tab B')),?_,hF5.put _ (.inl (by simp [Ids.W])),?_⟩
  ·unfold Q1j Q87 Qcv Qcw Qcx Q88
   simp only [X4r,X7,hne,decide_false,Xd,Xh,Xfc,aNew,X9,k1,Xg,X4v,Xy,hA2.fld 3 rfl,hA2.fld 2 rfl,l9,Xvr hA2.b hv hlo,hl,ext0,ext1,X2o,Bool.not_false,X5n,X9l .i64 s.n (by omega),
    Xkg,hm3,k4,k5,lb5,l9',upd3 gb5 hv hlo hi']
  ·exact {
    a:=by rw [Mem.get_put,if_neg ne.ab.symm]; exact ga5
    n:=by
     rw [Mem.get_put,if_neg ne.nb.symm,gn5,← X13h _ _ _ _ _ hv hlo hhi]; rfl
    b:=by rw [Mem.get_put,if_pos rfl]
    i:=by rw [Mem.get_put,if_neg ne.bi,g5 _ ne.ai.symm ne.ni.symm]; exact hA3.i
    g:=by rw [Mem.get_put,if_neg ne.bg,g5 _ ne.ag.symm ne.ng.symm]; exact hA3.g
    h:=by rw [Mem.get_put,if_neg ne.bh,g5 _ ne.ah.symm ne.nh.symm]; exact hA3.h
    lt:=fun w hw=>by
     rw [Mem.next_put]
     exact Nat.lt_of_lt_of_le (hle w hw) hF5.next
    nd:=hA.nd
    gk:=hA.gk
    hk:=hA.hk }

noncomputable def outOf (m:Mem) (x:Option Rs):Option Rs:=match x with | some (v,m1)=>some (gc m v m1) | none=>none
/-- a table of calls, so many deep -/
structure Tb (T:Nat→Tab) (R:Nat):Prop where
 ite:∀ d a0 a1 a2 a3 m,T (d + 1) Qr [a0,a1,a2,a3] m=outOf m (Qm ⟨T d,R⟩ a0 a1 a2 a3 (X3 m m.next))
 iteS1:∀ d a0 a1 a2 a3 a4 a5 m,T (d + 1) Q2f [a0,a1,a2,a3,a4,a5] m=outOf m (Q1c ⟨T d,R⟩ a1 a2 a3 a0 a4 a5 (X3 m m.next))
 cut:∀ d a0 a1 a2 a3 m,T (d + 1) Q2n [a0,a1,a2,a3] m=outOf m (Q1v ⟨T d,R⟩ a0 a1 a2 a3 (X3 m m.next))
 giveS1:∀ d a0 a1 a2 a3 a4 m,T (d + 1) Qo [a0,a1,a2,a3,a4] m=outOf m (Qj ⟨T d,R⟩ a1 a0 a2 a3 a4 (X3 m m.next))
 give:∀ d a0 a1 m,T (d + 1) Q26 [a0,a1] m=outOf m (Q1a ⟨T d,R⟩ a0 a1 (X3 m m.next))
 check:∀ d a0 a1 m,T (d + 1) Q15 [a0,a1] m=outOf m (Qs ⟨T d,R⟩ a0 a1 (X3 m m.next))
 Ite:∀ d a0 a1 a2 a3 m,T (d + 1) Q19 [a0,a1,a2,a3] m=outOf m (Q1w ⟨T d,R⟩ a0 a1 a2 a3 (X3 m m.next))
 Var:∀ d a0 a1 m,T (d + 1) Q1y [a0,a1] m=outOf m (Q1x ⟨T d,R⟩ a0 a1 (X3 m m.next))
 mkn:∀ d a0 a1 a2 a3 m,T (d + 1) Q2w [a0,a1,a2,a3] m=outOf m (Q1j ⟨T d,R⟩ a2 a3 a1 a0 (X3 m m.next))

theorem X2e {W:List Nat} {m m1:Mem} {v:Value} {x:Option Rs} (hx:x=some (v,m1)) (hF:Fr W (X3 m m.next) m1) :
  ∃ m2,outOf m x=some (v,m2)∧Fr W m m2∧m2.next ≤ m1.next∧(∀ b,b < m.next→m2.get b=m1.get b):=by
 obtain ⟨m2,k1,k2,k3,k4⟩:=Fr.call v hF
 exact ⟨m2,by rw [hx]; simp only [outOf,k1],k2,k3,k4⟩

theorem Xha {T:Nat→Tab} {R:Nat} (hT:Tb T R) {I:Ids} {s:ASt} {Gs H:SB} {m:Mem} (hA:Ar I s Gs H m) {f:Nat} (hf:f < s.n) (v:Nat) (b:Bool) {d:Nat} (hd:1 ≤ d) :
  ∃ m1,T d Q2n [pt I.a 0 I.av,i32 f,i32 v,.bool b] m=some (i32 (cutP s.N f v b),m1)∧Fr [] m m1:=by
 obtain ⟨m1,k1,k2⟩:=Xwb (G:=⟨T (d - 1),R⟩) (hA.wl m.next) hf v b
 obtain ⟨m2,q1,q2,_,_⟩:=X2e (m:=m) k1 k2
 refine ⟨m2,?_,q2⟩
 obtain ⟨e,rfl⟩:∃ e,d=e + 1:=⟨d - 1,by omega⟩
 rw [hT.cut]
 exact q1
theorem Xmb {T:Nat→Tab} {R:Nat} (hT:Tb T R) {I:Ids} {s s':ASt} {Gs H:SB} {m:Mem} {v lo hi r:Nat} (hA:Ar I s Gs H m) (hy:tyOf I.nty (2 * Qd)=I.nty) (hR:MkR s v lo hi r s') {d:Nat} (hd:1 ≤ d) :
  ∃ m1,T d Q2w [pt I.a 0 I.av,i32 v,i32 lo,i32 hi] m=some (i32 r,m1)∧Fr I.W m m1∧Ar I s' Gs H m1:=by
 obtain ⟨m1,k1,k2,k3⟩:=X101 (G:=⟨T (d - 1),R⟩) (hA.wl m.next) hy hR
 obtain ⟨m2,q1,q2,q3,q4⟩:=X2e (m:=m) k1 k2
 refine ⟨m2,?_,q2,?_⟩
 ·obtain ⟨e,rfl⟩:∃ e,d=e + 1:=⟨d - 1,by omega⟩
  rw [hT.mkn]
  exact q1
 ·exact hA.back k3 q2.next q4

theorem Xox {T:Nat→Tab} {R:Nat} (hT:Tb T R) {I:Ids} {s s':ASt} {Gs H:SB} {m:Mem} {b4 b5 bv b6 b7 f g h v r:Nat} {b:Bool} (hA:Ar I s Gs H m) (h4:Va m b4 (pt I.a 0 I.av)) (h5:Va m b5 (i32 f)) (hv:Va m bv (i32 v)) (h6:Va m b6 (i32 g)) (h7:Va m b7 (i32 h))
  (l4:b4 < m.next) (l5:b5 < m.next) (lv:bv < m.next) (l6:b6 < m.next) (l7:b7 < m.next) (hf:f < s.n) (hg:g < s.n) (hh:h < s.n) {d:Nat} (hd:1 ≤ d)
  (ih:∀ m,Ar I s Gs H m→∃ m1,T d Qr [pt I.a 0 I.av,i32 (cutP s.N f v b),i32 (cutP s.N g v b),i32 (cutP s.N h v b)] m=some (i32 r,m1)∧Fr I.W m m1∧Ar I s' Gs H m1) :
  ∃ m1,Q1c ⟨T d,R⟩ (pt b4 0 0) (pt b5 0 0) (pt bv 0 0) (.bool b) (pt b6 0 0) (pt b7 0 0) m=some (i32 r,m1)∧Fr I.W m m1∧Ar I s' Gs H m1:=by
 obtain ⟨m2,k2,f2⟩:=Xha hT hA hf v b hd
 have hA2:=hA.fr f2
 have h42:=h4.fr f2 l4 (by simp)
 have h52:=h5.fr f2 l5 (by simp)
 have hv2:=hv.fr f2 lv (by simp)
 have h62:=h6.fr f2 l6 (by simp)
 have h72:=h7.fr f2 l7 (by simp)
 obtain ⟨m3,k3,f3⟩:=Xha hT hA2 hg v b hd
 have hA3:=hA2.fr f3
 have n2:=f2.next
 have h43:=h42.fr f3 (by omega) (by simp)
 have hv3:=hv2.fr f3 (by omega) (by simp)
 have h73:=h72.fr f3 (by omega) (by simp)
 obtain ⟨m4,k4,f4⟩:=Xha hT hA3 hh v b hd
 have hA4:=hA3.fr f4
 have n3:=f3.next
 have h44:=h43.fr f4 (by omega) (by simp)
 obtain ⟨m5,k5,f5,hA5⟩:=ih m4 hA4
 refine ⟨m5,?_,((f2.trans (f3.trans f4)).mono (by simp)).trans f5,hA5⟩
 unfold Q1c
 simp only [h4.load,h5.load,hv.load,h6.load,h7.load,X7,k2,X9,h42.load,h62.load,hv2.load,h72.load,Xn7,Xjk,Bool.and_self,X2h,k3,h43.load,hv3.load,h73.load,k4,h44.load,k5]

theorem Xeu {T:Nat→Tab} {R:Nat} (hT:Tb T R) {I:Ids} {s s':ASt} {Gs H:SB} {m:Mem} {b4 b5 bv b6 b7 f g h v r:Nat} {b:Bool} (hA:Ar I s Gs H m) (h4:Va m b4 (pt I.a 0 I.av)) (h5:Va m b5 (i32 f)) (hv:Va m bv (i32 v)) (h6:Va m b6 (i32 g)) (h7:Va m b7 (i32 h))
  (l4:b4 < m.next) (l5:b5 < m.next) (lv:bv < m.next) (l6:b6 < m.next) (l7:b7 < m.next) (hf:f < s.n) (hg:g < s.n) (hh:h < s.n) {d:Nat} (hd:1 ≤ d)
  (ih:∀ m,Ar I s Gs H m→∃ m1,T d Qr [pt I.a 0 I.av,i32 (cutP s.N f v b),i32 (cutP s.N g v b),i32 (cutP s.N h v b)] m=some (i32 r,m1)∧Fr I.W m m1∧Ar I s' Gs H m1) :
  ∃ m1,T (d + 1) Q2f [.bool b,pt b4 0 0,pt b5 0 0,pt bv 0 0,pt b6 0 0,pt b7 0 0] m=some (i32 r,m1)∧Fr I.W m m1∧Ar I s' Gs H m1:=by
 obtain ⟨m1,k1,k2,k3⟩:=Xox hT (R:=R) (hA.wl m.next) (b:=b) (r:=r) (s':=s') h4 h5 hv h6 h7 l4 l5 lv l6 l7 hf hg hh hd ih
 obtain ⟨m2,q1,q2,q3,q4⟩:=X2e (m:=m) k1 k2
 refine ⟨m2,?_,q2,hA.back k3 q2.next q4⟩
 rw [hT.iteS1]
 exact q1

/-- the variables of ite's arguments -/
noncomputable def iteM (p:Value) (f g h:Nat) (m:Mem):Mem:=
 (((m.push (.cells [p] 0 0 false (some (2 * Q1q + 1)))).push (.cells [i32 f] 0 0 false (some (2 * Q1m + 1)))).push (.cells [i32 g] 0 0 false (some (2 * Q1m + 1)))).push (.cells [i32 h] 0 0 false (some (2 * Q1m + 1)))
structure Vars (p:Value) (f g h:Nat) (m mD:Mem):Prop where
 fr:Fr [] m mD
 next:mD.next=m.next + 4
 vp:Va mD m.next p
 vf:Va mD (m.next + 1) (i32 f)
 vg:Va mD (m.next + 2) (i32 g)
 vh:Va mD (m.next + 3) (i32 h)
theorem X6s (b o r f g h:Nat) (m:Mem):Vars (pt b o r) f g h m (iteM (pt b o r) f g h m):=by
 unfold iteM
 have hA:=Va.push m (pt b o r) (some (2 * Q1q + 1))
 have fA:Fr [] m _:=Fr.push (.cells [pt b o r] 0 0 false (some (2 * Q1q + 1)))
 have nA:(m.push (.cells [pt b o r] 0 0 false (some (2 * Q1q + 1)))).next=m.next + 1:=rfl
 generalize m.push (.cells [pt b o r] 0 0 false (some (2 * Q1q + 1)))=mA at hA fA nA ⊢
 have hB:=Va.push mA (i32 f) (some (2 * Q1m + 1))
 have fB:Fr [] mA _:=Fr.push (.cells [i32 f] 0 0 false (some (2 * Q1m + 1)))
 have nB:(mA.push (.cells [i32 f] 0 0 false (some (2 * Q1m + 1)))).next=mA.next + 1:=rfl
 generalize mA.push (.cells [i32 f] 0 0 false (some (2 * Q1m + 1)))=mB at hB fB nB ⊢
 have hC:=Va.push mB (i32 g) (some (2 * Q1m + 1))
 have fC:Fr [] mB _:=Fr.push (.cells [i32 g] 0 0 false (some (2 * Q1m + 1)))
 have nC:(mB.push (.cells [i32 g] 0 0 false (some (2 * Q1m + 1)))).next=mB.next + 1:=rfl
 generalize mB.push (.cells [i32 g] 0 0 false (some (2 * Q1m + 1)))=mC at hC fC nC ⊢
 have hD:=Va.push mC (i32 h) (some (2 * Q1m + 1))
 have fD:Fr [] mC _:=Fr.push (.cells [i32 h] 0 0 false (some (2 * Q1m + 1)))
 have nD:(mC.push (.cells [i32 h] 0 0 false (some (2 * Q1m + 1)))).next=mC.next + 1:=rfl
 generalize mC.push (.cells [i32 h] 0 0 false (some (2 * Q1m + 1)))=mD at hD fD nD ⊢
 rw [nA] at hB
 rw [nB,nA] at hC
 rw [nC,nB,nA] at hD
 have no:∀ b:Nat,b ∉ ([]:List Nat):=by simp
 exact ⟨fA.trans (fB.trans (fC.trans fD)),by omega,((hA.fr fB (by omega) (no _)).fr fC (by omega) (no _)).fr fD (by omega) (no _),(hB.fr fC (by omega) (no _)).fr fD (by omega) (no _),hC.fr fD (by omega) (no _),hD⟩
theorem Xj7 (G:Gt) (b o r f g h:Nat) (m:Mem):Qm G (pt b o r) (i32 f) (i32 g) (i32 h) m=Q2k G (pt (m.next + 1) 0 0) (pt (m.next + 2) 0 0) (pt (m.next + 3) 0 0) (pt m.next 0 0) (iteM (pt b o r) f g h m):=by
 unfold Qm
 simp only [aNew,X9]
 rfl
theorem Xvf (g:Tab) (a b c d e x:Value) (m:Mem):Xi g (.func (.func Q2f) ⟨[]⟩ ⟨[a,b,c,d,e]⟩) [x] m=g Q2f [x,a,b,c,d,e] m:=Eq.trans rfl rfl
theorem Xi6 (a b c:Nat):X6a Qne 1 [(0,i32 a),(1,i32 b),(2,i32 c)]=some (.agg ⟨[i32 a,i32 b,i32 c]⟩):=Eq.trans rfl rfl

theorem Xuz {G:Gt} {p:Value} {f g h:Nat} {m mD:Mem} (hV:Vars p f g h m mD) (h1:f ≠ 1) (h2:g ≠ h) (h3:f ≠ 0) (h4:¬ (g=1∧h=0)) :
  Q2k G (pt (m.next + 1) 0 0) (pt (m.next + 2) 0 0) (pt (m.next + 3) 0 0) (pt m.next 0 0) mD=Q1s G (.bool false) (pt (m.next + 1) 0 0) (pt (m.next + 2) 0 0) (pt (m.next + 3) 0 0) (pt m.next 0 0) mD:=by
 unfold Q2k Q3a Q7c
 have l1:=hV.vf.load
 have l2:=hV.vg.load
 have l3:=hV.vh.load
 by_cases hg:g=1
 ·have hh:h ≠ 0:=fun x=>h4 ⟨hg,x⟩
  simp only [l1,X7,Xp1,h1,decide_false,Xd,l2,l3,X4r,h2,Xx8,h3,hg,decide_true,Xh,hh]
  have h2':¬ 1=h:=fun x=>h2 (hg.trans x)
  simp only [h2',decide_false,Xd]
 ·simp only [l1,X7,Xp1,h1,decide_false,Xd,l2,l3,X4r,h2,Xx8,h3,hg]

theorem Xw5 {G:Gt} {I:Ids} {s:ASt} {Gs H:SB} {f g h r:Nat} {m mD:Mem} (hV:Vars (pt I.a 0 I.av) f g h m mD) (hA:Ar I s Gs H mD) (hf:f < 65536) (hg:g < 65536) (hl:s.I.look (cod f g h)=some r) :
  ∃ m1,Q1s G (.bool false) (pt (m.next + 1) 0 0) (pt (m.next + 2) 0 0) (pt (m.next + 3) 0 0) (pt m.next 0 0) mD=some (i32 r,m1)∧Fr [] mD m1:=by
 obtain ⟨mE,k1,hF,hn2,hgE⟩:=X16 [] mD (some (2 * Qew + 1)) Qne (v:=.agg ⟨[i32 f,i32 g,i32 h]⟩) (n:=3) rfl rfl rfl
 have hAE:=hA.fr hF
 have n1:=hV.next
 have l4:=(hV.vp.fr hF (by omega) (by simp)).load
 have l7:X4 true 3 (pt mD.next 0 0) mE=some (.agg ⟨[i32 f,i32 g,i32 h]⟩):=X10 hgE (by show 0 + 3 ≤ 3; omega) rfl
 refine ⟨mE,?_,hF⟩
 unfold Q1s
 simp only [Xd,hV.vf.load,hV.vg.load,hV.vh.load,X7,Xi6,aNew,X9,k1,Xg,l4,X4v,Xy,hAE.fld 4 rfl,l7,Xvr hAE.i hf hg,hl,ext0,ext1,Xh]

theorem Xx2 {T:Nat→Tab} {R:Nat} (hT:Tb T R) {I:Ids} (hy:tyOf I.nty (2 * Qd)=I.nty) {s s1 s2 s3:ASt} {Gs H:SB} {f g h v lo hi r:Nat} {I4:TB} {m mD:Mem} (hV:Vars (pt I.a 0 I.av) f g h m mD) (hA:Ar I s Gs H mD) (hle:∀ w ∈ I.W,w < m.next)
  (hf:f < s.n) (hg:g < s.n) (hh:h < s.n) (hn:s.n ≤ 65536) (hl:s.I.look (cod f g h)=none)
  (hv:v=minP (minP (ndc s.N (3 * f)) (ndc s.N (3 * g))) (ndc s.N (3 * h))) (hn1:s.n ≤ s1.n) (k3:MkR s2 v lo hi r s3) (k4:s3.I.ins (cod f g h) r=some I4) {d:Nat} (hd:1 ≤ d)
  (ih1:∀ m,Ar I s Gs H m→∃ m1,T d Qr [pt I.a 0 I.av,i32 (cutP s.N f v false),i32 (cutP s.N g v false),i32 (cutP s.N h v false)] m=some (i32 lo,m1)∧Fr I.W m m1∧Ar I s1 Gs H m1)
  (ih2:∀ m,Ar I s1 Gs H m→∃ m1,T d Qr [pt I.a 0 I.av,i32 (cutP s1.N f v true),i32 (cutP s1.N g v true),i32 (cutP s1.N h v true)] m=some (i32 hi,m1)∧Fr I.W m m1∧Ar I s2 Gs H m1) :
  ∃ m1,Q1s ⟨T (d + 1),R⟩ (.bool false) (pt (m.next + 1) 0 0) (pt (m.next + 2) 0 0) (pt (m.next + 3) 0 0) (pt m.next 0 0) mD=some (i32 r,m1)∧Fr I.W mD m1∧Ar I ⟨s3.N,s3.n,s3.ver,s3.B,I4⟩ Gs H m1:=by
 have nw:∀ b,m.next ≤ b→b ∉ I.W:=fun b hb hw=>by have:=hle b hw; omega
 have n1:=hV.next
 obtain ⟨mE,k1,hF,nE,hgE⟩:=X16 [] mD (some (2 * Qew + 1)) Qne (v:=.agg ⟨[i32 f,i32 g,i32 h]⟩) (n:=3) rfl rfl rfl
 have hAE:=hA.fr hF
 have vpE:=hV.vp.fr hF (by omega) (by simp)
 have vfE:=hV.vf.fr hF (by omega) (by simp)
 have vgE:=hV.vg.fr hF (by omega) (by simp)
 have vhE:=hV.vh.fr hF (by omega) (by simp)
 have l7:X4 true 3 (pt mD.next 0 0) mE=some (.agg ⟨[i32 f,i32 g,i32 h]⟩):=X10 hgE (by show 0 + 3 ≤ 3; omega) rfl
 -- the variable
 obtain ⟨mF,q1,hF2,nF,hgF⟩:=X16 [] mE (some (2 * Q1m + 1)) [(.int .i32 0)] (v:=i32 v) (n:=1) rfl rfl rfl
 have hAF:=hAE.fr hF2
 have vpF:=vpE.fr hF2 (by omega) (by simp)
 have vfF:=vfE.fr hF2 (by omega) (by simp)
 have vgF:=vgE.fr hF2 (by omega) (by simp)
 have vhF:=vhE.fr hF2 (by omega) (by simp)
 have vvF:Va mF mE.next (i32 v):=⟨_,hgF⟩
 have kF:mF.get mD.next=some (.cells [i32 f,i32 g,i32 h] 0 0 false (some (2 * Qew + 1))):=by rw [hF2.get _ (by omega) (by simp)]; exact hgE
 -- the first part
 obtain ⟨mG,c1,hF3,hAG⟩:=Xeu hT (b:=false) (r:=lo) (s':=s1) hAF vpF vfF vvF vgF vhF (by omega) (by omega) (by omega) (by omega) (by omega) hf hg hh hd ih1
 have nG:=hF3.next
 have vpG:=vpF.fr hF3 (by omega) (nw _ (by omega))
 have vfG:=vfF.fr hF3 (by omega) (nw _ (by omega))
 have vgG:=vgF.fr hF3 (by omega) (nw _ (by omega))
 have vhG:=vhF.fr hF3 (by omega) (nw _ (by omega))
 have vvG:=vvF.fr hF3 (by omega) (nw _ (by omega))
 have kG:mG.get mD.next=some (.cells [i32 f,i32 g,i32 h] 0 0 false (some (2 * Qew + 1))):=by rw [hF3.get _ (by omega) (nw _ (by omega))]; exact kF
 -- the second part
 obtain ⟨mH,c2,hF4,hAH⟩:=Xeu hT (b:=true) (r:=hi) (s':=s2) hAG vpG vfG vvG vgG vhG (by omega) (by omega) (by omega) (by omega) (by omega) (by omega) (by omega) (by omega) hd ih2
 have nH:=hF4.next
 have vpH:=vpG.fr hF4 (by omega) (nw _ (by omega))
 have vvH:=vvG.fr hF4 (by omega) (nw _ (by omega))
 have kH:mH.get mD.next=some (.cells [i32 f,i32 g,i32 h] 0 0 false (some (2 * Qew + 1))):=by rw [hF4.get _ (by omega) (nw _ (by omega))]; exact kG
 -- the node
 obtain ⟨mI,c3,hF5,hAI⟩:=Xmb hT hAH hy k3 (d:=d + 1) (by omega)
 have nI:=hF5.next
 have vpI:=vpH.fr hF5 (by omega) (nw _ (by omega))
 have kI:mI.get mD.next=some (.cells [i32 f,i32 g,i32 h] 0 0 false (some (2 * Qew + 1))):=by rw [hF5.get _ (by omega) (nw _ (by omega))]; exact kH
 have l7I:X4 true 3 (pt mD.next 0 0) mI=some (.agg ⟨[i32 f,i32 g,i32 h]⟩):=X10 kI (by show 0 + 3 ≤ 3; omega) rfl
 have ne:=Ids.ne hA.nd
 refine ⟨mI.put I.ib (Sp.norm (.tab I4)),?_,?_,?_⟩
 ·unfold Q1s
  have e3:∀ x:Nat,0 + x * 3 + 0=3 * x:=fun x=>by omega
  have lf:=hAE.cell (j:=3 * f) (by omega)
  have lg:=hAE.cell (j:=3 * g) (by omega)
  have lh:=hAE.cell (j:=3 * h) (by omega)
  simp only [Xd,hV.vf.load,hV.vg.load,hV.vh.load,X7,Xi6,aNew,X9,k1,Xg,vpE.load,X4v,Xy,hAE.fld 4 rfl,l7,Xvr hAE.i (show f < 65536 by omega) (show g < 65536 by omega),hl,ext0,ext1,
   hAE.fld 2 rfl,vfE.load,vgE.load,vhE.load,Ar.idx hf,Ar.idx hg,Ar.idx hh,e3,lf,lg,lh,Xvv,← hv,q1,Xvf,c1,vpG.load,vvG.load,c2,vpH.load,vvH.load,Xn7,Xjk,Bool.and_self,X2h,c3,vpI.load,hAI.fld 4 rfl,l7I,
   upd3 hAI.i (show f < 65536 by omega) (show g < 65536 by omega) k4]
 ·exact (((hF.trans hF2).mono (by simp)).trans (hF3.trans (hF4.trans hF5))).put _ (.inl (by simp [Ids.W]))
 ·exact {
   a:=by rw [Mem.get_put,if_neg ne.ai.symm]; exact hAI.a
   n:=by rw [Mem.get_put,if_neg ne.ni.symm]; exact hAI.n
   b:=by rw [Mem.get_put,if_neg ne.bi.symm]; exact hAI.b
   i:=by rw [Mem.get_put,if_pos rfl]
   g:=by rw [Mem.get_put,if_neg ne.ig]; exact hAI.g
   h:=by rw [Mem.get_put,if_neg ne.ih]; exact hAI.h
   lt:=fun w hw=>by rw [Mem.next_put]; exact hAI.lt w hw
   nd:=hA.nd
   gk:=hA.gk
   hk:=hA.hk }

/-- what ite comes to: its walk -/
theorem Xtm {T:Nat→Tab} {R:Nat} (hT:Tb T R) {I:Ids} (hy:tyOf I.nty (2 * Qd)=I.nty) {s s':ASt} {f g h r:Nat} (hR:IteR s f g h r s') {Gs H:SB} :
  ∃ D,∀ d,D ≤ d→∀ m,Ar I s Gs H m→∃ m1,T d Qr [pt I.a 0 I.av,i32 f,i32 g,i32 h] m=some (i32 r,m1)∧Fr I.W m m1∧Ar I s' Gs H m1:=by
 induction hR with
 | a s f g h hc =>
  refine ⟨1,fun d hd m hA=>?_⟩
  obtain ⟨e,rfl⟩:∃ e,d=e + 1:=⟨d - 1,by omega⟩
  have hV:=X6s I.a 0 I.av f g h (X3 m m.next)
  have hx:Qm ⟨T e,R⟩ (pt I.a 0 I.av) (i32 f) (i32 g) (i32 h) (X3 m m.next)=some (i32 g,iteM (pt I.a 0 I.av) f g h (X3 m m.next)):=by
   rw [Xj7]
   generalize iteM (pt I.a 0 I.av) f g h (X3 m m.next)=mD at hV ⊢
   unfold Q2k Q3a
   by_cases h1:f=1
   ·simp only [hV.vf.load,X7,Xp1,h1,decide_true,Xh,hV.vg.load]
   ·have h2:g=h:=by rcases hc with hc | hc; exact absurd hc h1; exact hc
    subst h2
    simp only [hV.vf.load,X7,Xp1,h1,decide_false,Xd,hV.vg.load,hV.vh.load,X4r,decide_true,Xh]
  obtain ⟨m2,q1,q2,q3,q4⟩:=X2e (m:=m) hx hV.fr
  exact ⟨m2,by rw [hT.ite]; exact q1,q2.mono (by simp),hA.fr q2⟩
 | b s g h h2 =>
  refine ⟨1,fun d hd m hA=>?_⟩
  obtain ⟨e,rfl⟩:∃ e,d=e + 1:=⟨d - 1,by omega⟩
  have hV:=X6s I.a 0 I.av 0 g h (X3 m m.next)
  have hx:Qm ⟨T e,R⟩ (pt I.a 0 I.av) (i32 0) (i32 g) (i32 h) (X3 m m.next)=some (i32 h,iteM (pt I.a 0 I.av) 0 g h (X3 m m.next)):=by
   rw [Xj7]
   unfold Q2k Q3a Q7c
   simp only [hV.vf.load,X7,Xp1,Nat.zero_ne_one,decide_false,Xd,hV.vg.load,hV.vh.load,X4r,Xx8,h2,decide_true,Xh]
  obtain ⟨m2,q1,q2,q3,q4⟩:=X2e (m:=m) hx hV.fr
  exact ⟨m2,by rw [hT.ite]; exact q1,q2.mono (by simp),hA.fr q2⟩
 | c s f h1 h3 =>
  refine ⟨1,fun d hd m hA=>?_⟩
  obtain ⟨e,rfl⟩:∃ e,d=e + 1:=⟨d - 1,by omega⟩
  have hV:=X6s I.a 0 I.av f 1 0 (X3 m m.next)
  have hx:Qm ⟨T e,R⟩ (pt I.a 0 I.av) (i32 f) (i32 1) (i32 0) (X3 m m.next)=some (i32 f,iteM (pt I.a 0 I.av) f 1 0 (X3 m m.next)):=by
   rw [Xj7]
   unfold Q2k Q3a Q7c Q1s
   simp only [hV.vf.load,X7,Xp1,h1,h3,decide_false,Xd,hV.vg.load,hV.vh.load,X4r,Xx8,Nat.one_ne_zero,decide_true,Xh]
  obtain ⟨m2,q1,q2,q3,q4⟩:=X2e (m:=m) hx hV.fr
  exact ⟨m2,by rw [hT.ite]; exact q1,q2.mono (by simp),hA.fr q2⟩
 | d s f g h r h1 h2 h3 h4 hf hg hh hn hl =>
  refine ⟨1,fun d hd m hA=>?_⟩
  obtain ⟨e,rfl⟩:∃ e,d=e + 1:=⟨d - 1,by omega⟩
  have hV:=X6s I.a 0 I.av f g h (X3 m m.next)
  have hx:∃ m1,Qm ⟨T e,R⟩ (pt I.a 0 I.av) (i32 f) (i32 g) (i32 h) (X3 m m.next)=some (i32 r,m1)∧Fr [] (X3 m m.next) m1:=by
   rw [Xj7]
   generalize iteM (pt I.a 0 I.av) f g h (X3 m m.next)=mD at hV ⊢
   rw [Xuz hV h1 h2 h3 h4]
   obtain ⟨m1,q1,q2⟩:=Xw5 (G:=⟨T e,R⟩) hV ((hA.wl _).fr hV.fr) (by omega) (by omega) hl
   exact ⟨m1,q1,hV.fr.trans q2⟩
  obtain ⟨m1,hx,hF⟩:=hx
  obtain ⟨m2,q1,q2,q3,q4⟩:=X2e (m:=m) hx hF
  exact ⟨m2,by rw [hT.ite]; exact q1,q2.mono (by simp),hA.fr q2⟩
 | e s s1 s2 s3 f g h v lo hi r I4 h1 h2 h3 h4 hf hg hh hn hl hv k1 hn1 k2 k3 k4 ih1 ih2 =>
  obtain ⟨D1,ih1⟩:=ih1
  obtain ⟨D2,ih2⟩:=ih2
  refine ⟨D1 + D2 + 3,fun d hd m hA=>?_⟩
  obtain ⟨e,rfl⟩:∃ e,d=e + 1 + 1:=⟨d - 2,by omega⟩
  have hV:=X6s I.a 0 I.av f g h (X3 m m.next)
  have hx:∃ m1,Qm ⟨T (e + 1),R⟩ (pt I.a 0 I.av) (i32 f) (i32 g) (i32 h) (X3 m m.next)=some (i32 r,m1)∧Fr I.W (X3 m m.next) m1∧Ar I ⟨s3.N,s3.n,s3.ver,s3.B,I4⟩ Gs H m1:=by
   rw [Xj7]
   generalize iteM (pt I.a 0 I.av) f g h (X3 m m.next)=mD at hV ⊢
   rw [Xuz hV h1 h2 h3 h4]
   obtain ⟨m1,q1,q2,q3⟩:=Xx2 hT hy hV ((hA.wl _).fr hV.fr) hA.lt hf hg hh hn hl hv hn1 k3 k4 (d:=e) (by omega) (ih1 e (by omega)) (ih2 e (by omega))
   exact ⟨m1,q1,(hV.fr.mono (by simp)).trans q2,q3⟩
  obtain ⟨m1,hx,hF,hA1⟩:=hx
  obtain ⟨m2,q1,q2,q3,q4⟩:=X2e (m:=m) hx hF
  exact ⟨m2,by rw [hT.ite]; exact q1,q2,hA.back hA1 q2.next q4⟩

theorem Xt2 {B:Nat} {m m1:Mem} {v:Value} {x:Option Rs} (hx:x=some (v,m1)) (h:Fb B (X3 m m.next) m1) (hB:B ≤ m.next) (hw:m1.low < m.next∨(m1.next=m.next∧∀ b,m1.get b=m.get b)) :
  ∃ m2,outOf m x=some (v,m2)∧Fb B m m2∧m2.next=m1.next∧(∀ b,m2.get b=m1.get b):=by
 obtain ⟨m2,k1,k2,k3,k4⟩:=Fb.call v h hB hw
 exact ⟨m2,by rw [hx]; simp only [outOf,k1],k2,k3,k4⟩
theorem Xhx (g:Tab) (a b c d x:Value) (m:Mem):Xi g (.func (.func Qo) ⟨[]⟩ ⟨[a,b,c,d]⟩) [x] m=g Qo [x,a,b,c,d] m:=Eq.trans rfl rfl
theorem Xv0 (f:Nat) (m:Mem):Xc Q1m [(.int .i32 0)] 1 1 [(0,i32 f)] m=some (.slice (some ⟨m.next,0,some 1⟩) 1 1,m.push (.cells [i32 f] 0 0 false (some (2 * Q1m)))):=Eq.trans rfl rfl

/-- what give's walk comes to -/
theorem Xos {T:Nat→Tab} {R:Nat} (hT:Tb T R) {I:Ids} {s:ASt} {Gs H:SB} {Z Z':SB} {f:Nat} (hR:GR s.N s.n H Z f Z') :
  ∃ D,∀ (B pv av fv wv zb:Nat) (F:List Nat) (d:Nat),D ≤ d→∀ m,Gv I s Gs H Qo B pv av fv wv zb Z F m→∃ m1 F',T d Qo [i32 f,pt pv 0 0,pt av 0 0,pt fv 0 0,pt wv 0 0] m=some (.tuple ⟨[]⟩,m1)∧Gv I s Gs H Qo B pv av fv wv zb Z' F' m1∧Fb B m m1:=by
 induction hR with
 | seen Z f h1 =>
  refine ⟨1,fun B pv av fv wv zb F d hd m hG=>?_⟩
  obtain ⟨e,rfl⟩:∃ e,d=e + 1:=⟨d - 1,by omega⟩
  have hx:Qj ⟨T e,R⟩ (pt pv 0 0) (i32 f) (pt av 0 0) (pt fv 0 0) (pt wv 0 0) (X3 m m.next)=some (.tuple ⟨[]⟩,X3 m m.next):=by
   have hG:=hG.same (m':=X3 m m.next) (Nat.le_refl _) fun _=>rfl
   unfold Qj Q32
   simp only [hG.p.load,X7,Xhw hG.k hG.zs,h1,Xh]
  obtain ⟨m2,q1,q2,q3,q4⟩:=Xt2 (B:=B) hx (.refl _ _) (by have:=hG.bd; omega) (.inr ⟨rfl,fun _=>rfl⟩)
  exact ⟨m2,F,by rw [hT.giveS1]; exact q1,hG.same (by rw [q3]; exact Nat.le_refl _) q4,q2⟩
 | held Z f h1 h2 =>
  refine ⟨1,fun B pv av fv wv zb F d hd m hG=>?_⟩
  obtain ⟨e,rfl⟩:∃ e,d=e + 1:=⟨d - 1,by omega⟩
  have hx:Qj ⟨T e,R⟩ (pt pv 0 0) (i32 f) (pt av 0 0) (pt fv 0 0) (pt wv 0 0) (X3 m m.next)=some (.tuple ⟨[]⟩,X3 m m.next):=by
   have hG:=hG.same (m':=X3 m m.next) (Nat.le_refl _) fun _=>rfl
   unfold Qj Q32
   simp only [hG.p.load,X7,Xhw hG.k hG.zs,h1,Xd,hG.a.load,X4v,Xy,hG.ar.fld 6 rfl,Xhw hG.ar.hk hG.ar.h,h2,Xh]
  obtain ⟨m2,q1,q2,q3,q4⟩:=Xt2 (B:=B) hx (.refl _ _) (by have:=hG.bd; omega) (.inr ⟨rfl,fun _=>rfl⟩)
  exact ⟨m2,F,by rw [hT.giveS1]; exact q1,hG.same (by rw [q3]; exact Nat.le_refl _) q4,q2⟩
 | go Z Z1 Z2 f h1 h2 hf hz k1 k2 ih1 ih2 =>
  obtain ⟨D1,ih1⟩:=ih1
  obtain ⟨F1,e1,_⟩:=k1.more
  obtain ⟨D2,ih2⟩:=ih2
  refine ⟨D1 + D2 + 1,fun B pv av fv wv zb F d hd m hG0=>?_⟩
  obtain ⟨e,rfl⟩:∃ e,d=e + 1:=⟨d - 1,by omega⟩
  have hG:=hG0.same (m':=X3 m m.next) (Nat.le_refl _) fun _=>rfl
  obtain ⟨x1,x3,m3,m4,c1,c2,c3,c4,c5,c6⟩:=Xp5 (T32:=Q1m) hG h1 hz
  obtain ⟨m5,F5,c7,c8,c9⟩:=ih1 B pv av fv wv zb (f :: F) e (by omega) m4 c4
  have eF:F5=F1 ++ f :: F:=by
   have a1:=c8.l
   rw [e1,(SB.add_new h1).2.1,hG.l] at a1
   have:(F1 ++ f :: F) ++ [1,0]=F5 ++ [1,0]:=by rw [← a1]; simp
   exact (List.append_cancel_right this).symm
  rw [eF] at c8
  obtain ⟨m6,F6,c10,c11,c12⟩:=ih2 B pv av fv wv zb (F1 ++ f :: F) e (by omega) m5 c8
  have hx:Qj ⟨T e,R⟩ (pt pv 0 0) (i32 f) (pt av 0 0) (pt fv 0 0) (pt wv 0 0) (X3 m m.next)=some (.tuple ⟨[]⟩,m6):=by
   have e3:∀ x k:Nat,0 + x * 3 + k=3 * x + k:=fun x k=>by omega
   have l1:=c4.ar.cell (j:=3 * f + 1) (by omega)
   have l2:=c8.ar.cell (j:=3 * f + 2) (by omega)
   have nx:(m.put zb (Sp.norm (.set (Z.add f)))).next=m.next:=Mem.next_put _ _ _
   have nx':((X3 m m.next).put zb (Sp.norm (.set (Z.add f)))).next=(X3 m m.next).next:=Mem.next_put _ _ _
   unfold Qj Q32
   simp only [hG.p.load,X7,Xhw hG.k hG.zs,h1,Xd,hG.a.load,X4v,Xy,hG.ar.fld 6 rfl,Xhw hG.ar.hk hG.ar.h,h2,Xx6 hG.k hG.zs,Xg,c1,Xv0,X9,nx',c2,c3,c4.w.load,c4.a.load,c4.ar.fld 2 rfl,Ar.idx hf,e3,l1,Xhx,c7,
    c8.w.load,c8.a.load,c8.ar.fld 2 rfl,l2,c10]
  obtain ⟨m2,q1,q2,q3,q4⟩:=Xt2 (B:=B) hx (c5.trans (c9.trans c12)) (by have:=hG0.bd; omega) (.inl (by have:=c9.low; have:=c12.low; have:=hG0.bd; omega))
  exact ⟨m2,F6,by rw [hT.giveS1]; exact q1,c11.same (by rw [q3]; exact Nat.le_refl _) q4,q2⟩

/-- handing out, node by node -/
theorem Xsk {G:Gt} {I:Ids} {s:ASt} {Gs:SB} {mb:Mem} {F:List Nat} {sl:Value} {av f:Nat} (hsl:∀ (j x:Nat),F.reverse[j]?=some x→∃ p,X5 1 sl (.int .i64 (Int.ofNat j))=some p∧∀ m',Fr I.W mb m'→X4 false 1 p m'=some (i32 x))
  (hav:Va mb av (pt I.a 0 I.av)) (h1:av < mb.next) (h2:av ∉ I.W) (hf:f < 65536) (hF:F.length < 200000):∀ (rest done:List Nat) (fuel:Nat) (m:Mem) (Hc:SB),F.reverse=done ++ rest→rest.length < fuel→Fr I.W mb m→Ar I s Gs Hc m →
   ∃ m1,Q3m G fuel (.int .i64 (Int.ofNat done.length)) (.int .i64 (Int.ofNat F.length)) sl (pt av 0 0) (i32 f) m=some (.tuple ⟨[.int .i64 (Int.ofNat f),.int .i64 0]⟩,m1)∧Fr I.W mb m1∧Ar I s (Gs.add f) (rest.foldl (fun H g=>H.add g) Hc) m1:=by
 intro rest
 induction rest with
 | nil =>
  intro done fuel m Hc hr hl hFr hA
  obtain ⟨e,rfl⟩:∃ e,fuel=e + 1:=⟨fuel - 1,by simp at hl; omega⟩
  have hd:done.length=F.length:=by
   have:=congrArg List.length hr
   simp at this; exact this.symm
  have va:=(hav.fr hFr h1 h2).load
  refine ⟨m.put I.gb (Sp.norm (.set (Gs.add f))),?_,hFr.put _ (.inl (by simp [Ids.W])),hA.putG f⟩
  unfold Q3m Qgx
  simp only [hd,X6q,Nat.lt_irrefl,decide_false,X7,Xd,va,X4v,Xy,hA.fld 5 rfl,Xwj .i32 f (by omega),X9,X12c hA.gk hA.g,Xg]
 | cons x rest ih =>
  intro done fuel m Hc hr hl hFr hA
  obtain ⟨e,rfl⟩:∃ e,fuel=e + 1:=⟨fuel - 1,by simp at hl; omega⟩
  have hx:F.reverse[done.length]?=some x:=by rw [hr]; simp
  obtain ⟨p,p1,p2⟩:=hsl _ _ hx
  have hd:done.length < F.length:=by
   have:=congrArg List.length hr
   simp at this; omega
  have va:=(hav.fr hFr h1 h2).load
  obtain ⟨m1,q1,q2,q3⟩:=ih (done ++ [x]) e (m.put I.hb (Sp.norm (.set (Hc.add x)))) (Hc.add x) (by rw [hr]; simp) (by simp at hl; omega) (hFr.put _ (.inl (by simp [Ids.W]))) (hA.putH x)
  refine ⟨m1,?_,q2,q3⟩
  rw [← q1]
  have e1:(done ++ [x]).length=done.length + 1:=by simp
  have a1:bin .add true true .int (.int .i64 (Int.ofNat done.length)) (.int .i64 1)=some (.int .i64 (Int.ofNat (done.length + 1))):=Xg3 true true done.length 1 (by omega)
  conv=>lhs; unfold Q3m
  simp only [X6q,hd,decide_true,X7,Xh,p1,p2 m hFr,va,X4v,Xy,hA.fld 6 rfl,Xx6 hA.hk hA.h,Xg,a1,e1]

/-- what give comes to -/
theorem Xhk {T:Nat→Tab} {R:Nat} (hT:Tb T R) (hR:200000 < R) {I:Ids} {s:ASt} {Gs H G' H':SB} {most f:Nat} (hm:I.most=Int.ofNat most) (hg:GiveR s.N s.n most Gs H f G' H') :
  ∃ D,∀ d,D ≤ d→∀ m,Ar I s Gs H m→∃ m1,T d Q26 [pt I.a 0 I.av,i32 f] m=some (.tuple ⟨[.int .i64 (Int.ofNat f),.int .i64 0]⟩,m1)∧Fr I.W m m1∧Ar I s G' H' m1:=by
 obtain ⟨Z,hn,hf,hh,hw,hmost⟩:=hg
 obtain ⟨D,hlaw⟩:=Xos hT (I:=I) (Gs:=Gs) hw
 have key:∀ (m:Mem) (d:Nat),D ≤ d→Ar I s Gs H m→∃ m1,Q1a ⟨T d,R⟩ (pt I.a 0 I.av) (i32 f) m=some (.tuple ⟨[.int .i64 (Int.ofNat f),.int .i64 0]⟩,m1)∧Fr I.W m m1 ∧
   Ar I s (Gs.add f) ((Z.l.take (Z.l.length - 2)).foldr (fun g H=>H.add g) H) m1:=by
  intro m d hd hA
  have hlaw:=hlaw m.next (m.next + 3) m.next (m.next + 1) (m.next + 4) (m.next + 2) []
  -- the variables
  have vA:=Va.push m (pt I.a 0 I.av) (some (2 * Q1q + 1))
  have fA:Fb m.next m _:=Fb.push (.cells [pt I.a 0 I.av] 0 0 false (some (2 * Q1q + 1))) (Nat.le_refl _)
  have nA:(m.push (.cells [pt I.a 0 I.av] 0 0 false (some (2 * Q1q + 1)))).next=m.next + 1:=rfl
  have in1:Q1a ⟨T d,R⟩ (pt I.a 0 I.av) (i32 f) m=Q6a ⟨T d,R⟩ (pt m.next 0 0) (i32 f) (m.push (.cells [pt I.a 0 I.av] 0 0 false (some (2 * Q1q + 1)))):=by
   unfold Q1a
   simp only [aNew,X9]
   rfl
  rw [in1]
  generalize m.push (.cells [pt I.a 0 I.av] 0 0 false (some (2 * Q1q + 1)))=mA at vA fA nA ⊢
  have vB:=Va.push mA (.slice none 0 0) (some (2 * Qlx + 1))
  have fB:Fr [] mA _:=Fr.push (.cells [.slice none 0 0] 0 0 false (some (2 * Qlx + 1)))
  have nB:(mA.push (.cells [.slice none 0 0] 0 0 false (some (2 * Qlx + 1)))).next=mA.next + 1:=rfl
  have in2:Q6a ⟨T d,R⟩ (pt m.next 0 0) (i32 f) mA=Qac ⟨T d,R⟩ (pt m.next 0 0) (pt mA.next 0 0) (i32 f) (mA.push (.cells [.slice none 0 0] 0 0 false (some (2 * Qlx + 1)))):=by
   unfold Q6a
   simp only [aNew,X9]
  rw [in2]
  generalize mA.push (.cells [.slice none 0 0] 0 0 false (some (2 * Qlx + 1)))=mB at vB fB nB ⊢
  have vA2:=vA.fr fB (by omega) (by simp)
  -- the set
  have gC:(mB.push (.map [] 0)).get mB.next=some (.map [] 0):=by rw [Mem.get_push,if_pos rfl]
  have fC:Fr [] mB _:=Fr.push (.map [] 0)
  have nC:(mB.push (.map [] 0)).next=mB.next + 1:=rfl
  have hmk:X4j mB=(.map (some mB.next),mB.push (.map [] 0)):=rfl
  generalize mB.push (.map [] 0)=mC at gC fC nC hmk
  obtain ⟨m1,mD,s1,s2,gD,kD,nD,fD⟩:=Xu7 gC
  have vA3:Va mD m.next (pt I.a 0 I.av):=(vA2.fr fC (by omega) (by simp)).fb (B:=0) (kD _ (by omega))
  have vB3:Va mD (m.next + 1) (.slice none 0 0):=by
   rw [nA] at vB
   exact (vB.fr fC (by omega) (by simp)).fb (B:=0) (kD _ (by omega))
  -- the two other variables
  obtain ⟨mE,t1,fE,nE,gE⟩:=X16 [] mD (some (2 * Qev + 1)) [(.map none)] (v:=.map (some mB.next)) (n:=1) rfl rfl rfl
  obtain ⟨mF,u1,fF,nF,gF⟩:=X16 [] mE (some (2 * Qqw + 1)) [.nilFunc] (v:=.func (.func Qo) ⟨[]⟩ ⟨[pt mD.next 0 0,pt m.next 0 0,pt mA.next 0 0,pt mE.next 0 0]⟩) (n:=1) rfl rfl rfl
  have eB:mB.next=m.next + 2:=by omega
  have eD:mD.next=m.next + 3:=by omega
  have eE:mE.next=m.next + 4:=by omega
  have fAll:Fb m.next m mF:=fA.trans ((fB.toFb (by omega)).trans ((fC.toFb (by omega)).trans ((fD _ (by omega)).trans ((fE.toFb (by omega)).trans (fF.toFb (by omega))))))
  have gEF:mF.get mD.next=some (.cells [.map (some mB.next)] 0 0 false (some (2 * Qev + 1))):=by rw [fF.get _ (by omega) (by simp)]; exact gE
  have hGv:Gv I s Gs H Qo m.next (m.next + 3) m.next (m.next + 1) (m.next + 4) (m.next + 2) Z0 [] mF:={
   ar:=hA.fr fAll.toFr
   wB:=hA.lt
   bd:=by omega
   ne:=by omega
   zs:=by
    rw [eB] at gD
    rw [fF.get _ (by omega) (by simp),fE.get _ (by omega) (by simp)]; exact gD
   p:=⟨_,by rw [eD,eB] at gEF; exact gEF⟩
   a:=(vA3.fr fE (by omega) (by simp)).fr fF (by omega) (by simp)
   w:=⟨_,by rw [eD,nA,eE] at gF; exact gF⟩
   k:=Z0_l.2
   l:=Z0_l.1
   f:=.inl ⟨rfl,(vB3.fr fE (by omega) (by simp)).fr fF (by omega) (by simp)⟩ }
  obtain ⟨mG,F',c1,c2,c3⟩:=hlaw d hd mF hGv
  have nG:=c3.next
  have n1:=fAll.next
  obtain ⟨sl,l1,l2,l3⟩:=Xld c2
  have hZ:Z.l.take (Z.l.length - 2)=F':=by rw [c2.l]; simp
  have hlen:F'.length=Z.l.length - 2:=by rw [c2.l]; simp
  have hbig:F'.length < 200000:=by
   have h1:=hlen
   have h2:=hw.len
   have h3:Z0.l.length=2:=by rw [Z0_l.1]; rfl
   omega
  have avW:m.next ∉ I.W:=fun hw=>by have:=hA.lt _ hw; omega
  obtain ⟨m2,q1,q2,q3⟩:=Xsk (G:=⟨T d,R⟩) (s:=s) (Gs:=Gs) (mb:=mG) (F:=F') (sl:=sl) (av:=m.next) (f:=f) l3 c2.a (by have:=c2.bd; omega) avW hf hbig F'.reverse [] R mG H rfl (by simp; omega) (.refl _ _) c2.ar
  refine ⟨m2,?_,(fAll.trans c3).toFr.trans q2,?_⟩
  ·have a1:bin .add false true .int (.int .i64 (Int.ofNat H.l.length)) (.int .i64 (Int.ofNat F'.length))=some (.int .i64 (Int.ofNat (H.l.length + F'.length))):=Xg3 _ _ _ _ (by omega)
   have a2:¬ most < H.l.length + F'.length:=by omega
   have z0:(Value.int .i64 0)=.int .i64 (Int.ofNat ([]:List Nat).length):=rfl
   rw [eD,nA,eE] at u1
   unfold Qac Qh3 Qh2 Qh1 Qh0 Qgz Qgy
   rw [eB] at t1 s1 s2 hmk
   rw [eD] at t1
   have hw:=hGv.w.load
   have hm2:=c2.ar.fld 1 (v:=.int .i64 I.most) rfl
   simp only [hmk,X9,s1,s2,Xg,aNew,nA,eD,eE,t1,u1,hw,X7,Xhx,c1,c2.a.load,X4v,Xy,c2.ar.fld 6 rfl,X104 c2.ar.h,l1,l2,a1,hm2,hm,Xyk,a2,decide_false,Xd]
   rw [z0]
   exact q1
  ·rw [hZ]
   have:F'.reverse.foldl (fun H g=>H.add g) H=F'.foldr (fun g H=>H.add g) H:=by rw [List.foldl_reverse]
   rw [← this]
   exact q3
 refine ⟨D + 1,fun d hd m hA=>?_⟩
 obtain ⟨e,rfl⟩:∃ e,d=e + 1:=⟨d - 1,by omega⟩
 obtain ⟨m1,k1,k2,k3⟩:=key (X3 m m.next) e (by omega) (hA.wl _)
 obtain ⟨m2,q1,q2,q3,q4⟩:=X2e (m:=m) k1 k2
 exact ⟨m2,by rw [hT.give]; exact q1,q2,hA.back k3 q2.next q4⟩

abbrev i64 (n:Nat):Value:=.int .i64 (Int.ofNat n)
theorem Xqb (f g h:Nat) (m:Mem):Xc Q7j [(.int .i64 0)] 1 3 [(0,i64 f),(1,i64 g),(2,i64 h)] m=some (.slice (some ⟨m.next,0,some 1⟩) 3 1,m.push (.cells [i64 f,i64 g,i64 h] 0 0 false (some (2 * Q7j)))):=Eq.trans rfl rfl
theorem Xkl (b o r:Nat) (m:Mem):binP m .eql true true .ptr (pt b o r) (.pointer none)=some (.bool false):=by
 unfold binP
 simp only [X1c,binO,aEq]
 rfl

theorem Xav {G:Gt} {I:Ids} {s:ASt} {Gs H:SB} {m:Mem} (hA:Ar I s Gs H m) {b i j x:Nat} {c:List Nat} (hc:m.get b=some (.cells (c.map i64) 0 0 false (some (2 * Q7j)))) (h3:c.length=3) (hx:c[j]?=some x) (hg:Gs.has x=true) :
  Qf G (i + 1) (i64 j) (i64 3) (.slice (some ⟨b,0,some 1⟩) 3 1) (pt I.a 0 I.av) m=Qf G i (i64 (j + 1)) (i64 3) (.slice (some ⟨b,0,some 1⟩) 3 1) (pt I.a 0 I.av) m:=by
 have hj:j < 3:=by
  have:=(List.getElem?_eq_some_iff.mp hx).1
  omega
 have a1:X5 1 (.slice (some ⟨b,0,some 1⟩) 3 1) (i64 j)=some (pt b (0 + j * 1) 0):=by
  rw [X11]
  have h1:Nat.blt j 3=true:=Nat.blt_eq.mpr hj
  simp [X22,h1,X14]
 have a2:X4 false 1 (pt b (0 + j * 1) 0) m=some (i64 x):=by
  refine Xt hc ?_
  have:0 + j * 1=j:=by omega
  rw [this,List.getElem?_map,hx]; rfl
 have a3:bin .add true true .int (i64 j) (.int .i64 1)=some (i64 (j + 1)):=Xg3 true true j 1 (by omega)
 conv=>lhs; unfold Qf
 simp only [X6q,hj,decide_true,X7,Xh,a1,a2,X4v,Xy,hA.fld 5 rfl,Xxn hA.gk hA.g,hg,X2o,Bool.not_true,Xd,a3]
theorem Xqx {G:Gt} {i:Nat} {sl p:Value} {m:Mem}:Qf G (i + 1) (i64 3) (i64 3) sl p m=some (.int .i64 0,m):=by
 unfold Qf Q8m
 simp only [X6q,Nat.lt_irrefl,decide_false,X7,Xd]
theorem Xps {T:Nat→Tab} {R:Nat} (hT:Tb T R) (hR:200000 < R) {I:Ids} {s:ASt} {Gs H:SB} {m:Mem} (hA:Ar I s Gs H m) {b f g h:Nat} (hc:m.get b=some (.cells [i64 f,i64 g,i64 h] 0 0 false (some (2 * Q7j)))) (h1:Gs.has f=true) (h2:Gs.has g=true) (h3:Gs.has h=true) {d:Nat} (hd:1 ≤ d) :
  ∃ m1,T d Q15 [pt I.a 0 I.av,.slice (some ⟨b,0,some 1⟩) 3 1] m=some (.int .i64 0,m1)∧Fr [] m m1:=by
 obtain ⟨e,rfl⟩:∃ e,d=e + 1:=⟨d - 1,by omega⟩
 have hx:Qs ⟨T e,R⟩ (pt I.a 0 I.av) (.slice (some ⟨b,0,some 1⟩) 3 1) (X3 m m.next)=some (.int .i64 0,X3 m m.next):=by
  have hA':=hA.wl m.next
  have z0:(Value.int .i64 0)=i64 0:=rfl
  unfold Qs Q8p Q8o Q8n
  simp only [Xkl,X7,Xd,X5n]
  obtain ⟨q,rfl⟩:∃ q,R=q + 4:=⟨R - 4,by omega⟩
  rw [z0]
  show Qf _ (q + 3 + 1) (i64 0) (i64 3) _ _ _=_
  rw [Xav hA' (c:=[f,g,h]) (m:=X3 m m.next) hc rfl (x:=f) rfl h1,Xav hA' (c:=[f,g,h]) (m:=X3 m m.next) hc rfl (x:=g) rfl h2,Xav hA' (c:=[f,g,h]) (m:=X3 m m.next) hc rfl (x:=h) rfl h3,Xqx]
  rfl
 obtain ⟨m2,q1,q2,q3,q4⟩:=X2e (W:=[]) (m:=m) hx (.refl _ _)
 exact ⟨m2,by rw [hT.check]; exact q1,q2⟩

/-- what Ite comes to -/
theorem Xrq {T:Nat→Tab} {R:Nat} (hT:Tb T R) (hR:200000 < R) {I:Ids} (hy:tyOf I.nty (2 * Qd)=I.nty) {s s':ASt} {Gs H G' H':SB} {most f g h r:Nat} (hm:I.most=Int.ofNat most) (hf:f < 65536) (hg:g < 65536) (hh:h < 65536)
  (h1:Gs.has f=true) (h2:Gs.has g=true) (h3:Gs.has h=true) (k1:IteR s f g h r s') (k2:GiveR s'.N s'.n most Gs H r G' H') :
  ∃ D,∀ d,D ≤ d→∀ m,Ar I s Gs H m→∃ m1,T d Q19 [pt I.a 0 I.av,i64 f,i64 g,i64 h] m=some (.tuple ⟨[i64 r,.int .i64 0]⟩,m1)∧Fr I.W m m1∧Ar I s' G' H' m1:=by
 obtain ⟨D1,l1⟩:=Xtm hT hy k1 (Gs:=Gs) (H:=H)
 obtain ⟨D2,l2⟩:=Xhk hT hR hm k2
 refine ⟨D1 + D2 + 2,fun d hd m hA0=>?_⟩
 obtain ⟨e,rfl⟩:∃ e,d=e + 1:=⟨d - 1,by omega⟩
 have hx:∃ m1,Q1w ⟨T e,R⟩ (pt I.a 0 I.av) (i64 f) (i64 g) (i64 h) (X3 m m.next)=some (.tuple ⟨[i64 r,.int .i64 0]⟩,m1)∧Fr I.W (X3 m m.next) m1∧Ar I s' G' H' m1:=by
  have hA:=hA0.wl m.next
  generalize X3 m m.next=m at hA
  have fA:Fr [] m _:=Fr.push (.cells [i64 f,i64 g,i64 h] 0 0 false (some (2 * Q7j)))
  have gA:(m.push (.cells [i64 f,i64 g,i64 h] 0 0 false (some (2 * Q7j)))).get m.next=some (.cells [i64 f,i64 g,i64 h] 0 0 false (some (2 * Q7j))):=by rw [Mem.get_push,if_pos rfl]
  have hb:=Xqb f g h m
  generalize m.push (.cells [i64 f,i64 g,i64 h] 0 0 false (some (2 * Q7j)))=mA at fA gA hb
  have hA1:=hA.fr fA
  obtain ⟨mB,c1,fB⟩:=Xps hT hR hA1 gA h1 h2 h3 (d:=e) (by omega)
  obtain ⟨mC,c2,fC,hA2⟩:=l1 e (by omega) mB (hA1.fr fB)
  obtain ⟨mD,c3,fD,hA3⟩:=l2 e (by omega) mC hA2
  refine ⟨mD,?_,((fA.trans fB).mono (by simp)).trans (fC.trans fD),hA3⟩
  have z0:bin .neq true true .int (.int .i64 0) (.int .i64 0)=some (.bool false):=by
   rw [X1c]; rfl
  unfold Q1w
  simp only [hb,X9,c1,z0,X7,Xd,X9l .i64 f (show f < 2147483648 by omega),X9l .i64 g (show g < 2147483648 by omega),X9l .i64 h (show h < 2147483648 by omega),c2,c3]
  rfl
 obtain ⟨m1,k1,k2,k3⟩:=hx
 obtain ⟨m2,q1,q2,q3,q4⟩:=X2e (m:=m) k1 k2
 exact ⟨m2,by rw [hT.Ite]; exact q1,q2,hA0.back k3 q2.next q4⟩

theorem Xka {G:Gt} {I:Ids} {s:ASt} {Gs H:SB} {m:Mem} (hA:Ar I s Gs H m) {b i j x L r ver fro:Nat} {ro:Bool} {ty:Option Nat} {cs:List Value} (hc:m.get b=some (.cells cs ver fro ro ty)) (hr:r / 2=ver) (hj:j < L) (hL:L < 100000) (hx:cs[j]?=some (i64 x)) (hg:Gs.has x=true) :
  Qf G (i + 1) (i64 j) (i64 L) (.slice (some ⟨b,0,some 1⟩) L r) (pt I.a 0 I.av) m=Qf G i (i64 (j + 1)) (i64 L) (.slice (some ⟨b,0,some 1⟩) L r) (pt I.a 0 I.av) m:=by
 have a1:X5 1 (.slice (some ⟨b,0,some 1⟩) L r) (i64 j)=some (pt b (0 + j * 1) ver):=by
  rw [X11]
  have h1:Nat.blt j L=true:=Nat.blt_eq.mpr hj
  simp [X22,h1,X14,hr]
 have a2:X4 false 1 (pt b (0 + j * 1) ver) m=some (i64 x):=by
  refine Xt hc ?_
  have:0 + j * 1=j:=by omega
  rw [this]; exact hx
 have a3:bin .add true true .int (i64 j) (.int .i64 1)=some (i64 (j + 1)):=Xg3 true true j 1 (by omega)
 conv=>lhs; unfold Qf
 simp only [X6q,hj,decide_true,X7,Xh,a1,a2,X4v,Xy,hA.fld 5 rfl,Xxn hA.gk hA.g,hg,X2o,Bool.not_true,Xd,a3]
theorem Xp2 {G:Gt} {i L:Nat} {sl p:Value} {m:Mem}:Qf G (i + 1) (i64 L) (i64 L) sl p m=some (.int .i64 0,m):=by
 unfold Qf Q8m
 simp only [X6q,Nat.lt_irrefl,decide_false,X7,Xd]
theorem Xcc {G:Gt} {I:Ids} {s:ASt} {Gs H:SB} {m:Mem} (hA:Ar I s Gs H m) {b L r ver fro:Nat} {ro:Bool} {ty:Option Nat} {cs:List Value} (hc:m.get b=some (.cells cs ver fro ro ty)) (hr:r / 2=ver) (hL:L < 100000)
  (hx:∀ i,i < L→∃ x,cs[i]?=some (i64 x)∧Gs.has x=true):∀ (k j fuel:Nat),j + k=L→k < fuel→Qf G fuel (i64 j) (i64 L) (.slice (some ⟨b,0,some 1⟩) L r) (pt I.a 0 I.av) m=some (.int .i64 0,m)
 | 0,j,fuel,hj,hf=>by
  obtain ⟨e,rfl⟩:∃ e,fuel=e + 1:=⟨fuel - 1,by omega⟩
  have:j=L:=by omega
  rw [this]
  exact Xp2
 | k + 1,j,fuel,hj,hf=>by
  obtain ⟨e,rfl⟩:∃ e,fuel=e + 1:=⟨fuel - 1,by omega⟩
  obtain ⟨x,x1,x2⟩:=hx j (by omega)
  rw [Xka hA hc hr (by omega) hL x1 x2]
  exact Xcc hA hc hr hL hx k (j + 1) e (by omega) (by omega)
theorem Xle {T:Nat→Tab} {R:Nat} (hT:Tb T R) (hR:200000 < R) {I:Ids} {s:ASt} {Gs H:SB} {m:Mem} (hA:Ar I s Gs H m) {b L r ver fro:Nat} {ro:Bool} {ty:Option Nat} {cs:List Value} (hc:m.get b=some (.cells cs ver fro ro ty)) (hr:r / 2=ver) (hL:L < 100000)
  (hx:∀ i,i < L→∃ x,cs[i]?=some (i64 x)∧Gs.has x=true):∃ m1,T 1 Q15 [pt I.a 0 I.av,.slice (some ⟨b,0,some 1⟩) L r] m=some (.int .i64 0,m1)∧Fr [] m m1:=by
 have hx:Qs ⟨T 0,R⟩ (pt I.a 0 I.av) (.slice (some ⟨b,0,some 1⟩) L r) (X3 m m.next)=some (.int .i64 0,X3 m m.next):=by
  have hA':=hA.wl m.next
  have z0:(Value.int .i64 0)=i64 0:=rfl
  have key:=Xcc (G:=⟨T 0,R⟩) hA' (m:=X3 m m.next) hc hr hL hx L 0 R (by omega) (by omega)
  unfold Qs Q8p Q8o Q8n
  simp only [Xkl,X7,Xd,X5n]
  exact key
 obtain ⟨m2,q1,q2,q3,q4⟩:=X2e (W:=[]) (m:=m) hx (.refl _ _)
 exact ⟨m2,by rw [hT.check]; exact q1,q2⟩
theorem Xyr (c g:Bool) (a b:Nat):bin .geq c g .int (i64 a) (i64 b)=some (.bool (decide (b ≤ a))):=by
 rw [X1c]
 simp only [binO,ne_eq,not_true_eq_false,if_false]
 by_cases h:b ≤ a
 ·have:Int.ofNat b ≤ Int.ofNat a:=Int.ofNat_le.mpr h
  simp only [h,ge_iff_le,this]
 ·have:¬ Int.ofNat b ≤ Int.ofNat a:=fun x=>h (Int.ofNat_le.mp x)
  simp only [h,ge_iff_le,this]
/-- what Var comes to -/
theorem Xzk {T:Nat→Tab} {R:Nat} (hT:Tb T R) (hR:200000 < R) {I:Ids} (hy:tyOf I.nty (2 * Qd)=I.nty) {s s':ASt} {Gs H G' H':SB} {most i nv r:Nat} (hm:I.most=Int.ofNat most) (hv:I.vars=i64 nv) (hi:i < nv) (hb:i < 65536)
  (k1:MkR s i 0 1 r s') (k2:GiveR s'.N s'.n most Gs H r G' H') :
  ∃ D,∀ d,D ≤ d→∀ m,Ar I s Gs H m→∃ m1,T d Q1y [pt I.a 0 I.av,i64 i] m=some (.tuple ⟨[i64 r,.int .i64 0]⟩,m1)∧Fr I.W m m1∧Ar I s' G' H' m1:=by
 obtain ⟨D2,l2⟩:=Xhk hT hR hm k2
 refine ⟨D2 + 2,fun d hd m hA0=>?_⟩
 obtain ⟨e,rfl⟩:∃ e,d=e + 1:=⟨d - 1,by omega⟩
 have hx:∃ m1,Q1x ⟨T e,R⟩ (pt I.a 0 I.av) (i64 i) (X3 m m.next)=some (.tuple ⟨[i64 r,.int .i64 0]⟩,m1)∧Fr I.W (X3 m m.next) m1∧Ar I s' G' H' m1:=by
  have hA:=hA0.wl m.next
  generalize X3 m m.next=m at hA
  obtain ⟨mC,c2,fC,hA2⟩:=Xmb hT hA hy k1 (d:=e) (by omega)
  obtain ⟨mD,c3,fD,hA3⟩:=l2 e (by omega) mC hA2
  refine ⟨mD,?_,fC.trans fD,hA3⟩
  have z0:bin .lss true true .int (i64 i) (.int .i64 0)=some (.bool false):=by
   rw [show (Value.int .i64 0)=i64 0 from rfl,X6q]; simp
  have z1:X4 false 1 (pt I.a (0 + 0) I.av) m=some (i64 nv):=by rw [← hv]; exact hA.fld 0 rfl
  have z2:¬ nv ≤ i:=by omega
  have c2':T e Q2w [pt I.a 0 I.av,i32 i,.int .i32 0,.int .i32 1] m=some (i32 r,mC):=c2
  unfold Q1x Qia Qi9 Qbc
  simp only [Xkl,X7,Xd,z0,X4v,Xy,z1,Xyr,z2,decide_false,X9l .i64 i (show i < 2147483648 by omega),X9,c2',c3]
  rfl
 obtain ⟨m1,k1,k2,k3⟩:=hx
 obtain ⟨m2,q1,q2,q3,q4⟩:=X2e (m:=m) k1 k2
 exact ⟨m2,by rw [hT.Var]; exact q1,q2,hA0.back k3 q2.next q4⟩
end Go.Ab.Sh
