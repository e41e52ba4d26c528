/-
  And, Or and Not as answers of the table. No conditions.
-/
import Derived.Test.YtbpkpklaegnkiaaGreatDoorB3
set_option linter.unusedSimpArgs false
set_option linter.unusedVariables false
namespace Go.Ab.Sh
open Go Go.Ab
theorem Xmj (s:Gt→Value→Value→Value→Mem→Option Rs) (G:Gt) (a0 a1 a2:Value) (m:Mem):arg3 s G [a0,a1,a2] m=s G a0 a1 a2 m:=rfl
/-- what stands around a call of Ite -/
noncomputable def X2z (d:Nat) (x p q r:Value) (m:Mem):Option Rs:=
 bp (TN d Q19 [x,p,q,r] m) fun x0 m=>bp (pur (X6 x0 0) m) fun x1 m=>bp (pur (X6 x0 1) m) fun x2 m=>some (.tuple ⟨[x1,x2]⟩,m)
theorem Xfl {F:FuncId} {args:List Value} {x p q r:Value} (hw:∀ d m,TN (d + 1) F args m=outOf m (X2z d x p q r (X3 m m.next))) {m m':Mem} {v:Value} (h1:X8e Qd x p q r m=some (v,m')) :
  ∃ n m1,TN n F args m=some (v,m1)∧Drop m v m1 m':=by
 unfold X8e at h1
 obtain ⟨a,rfl,h2⟩:=X1y h1
 obtain ⟨b,rfl,h3⟩:=X1y h2
 obtain ⟨c,rfl,h4⟩:=X1y h3
 obtain ⟨l1,h5⟩:=Xk h4
 obtain ⟨l2,h6⟩:=Xk h5
 obtain ⟨l3,h7⟩:=Xk h6
 obtain ⟨m0,I,most,s,G,H,e,hr,h8⟩:=X46 h7
 obtain ⟨g1,h9⟩:=Xk h8
 obtain ⟨g2,h10⟩:=Xk h9
 obtain ⟨g3,h11⟩:=Xk h10
 obtain ⟨⟨r',s'⟩,k1,h12⟩:=X1f h11
 rw [Xbn,Xf] at h12
 simp only at h12
 cases hs:s' with
 | mk N n ver B Im =>
 rw [hs] at h12
 obtain ⟨⟨G',H'⟩,k2,h13⟩:=X1f h12
 rw [Xbn] at h13
 cases h13
 have hR:=X6h _ _ _ _ _ _ _ k1
 have hG:=X78 k2
 have hG':GiveR s'.N s'.n most G H r' G' H':=by rw [hs]; exact hG
 obtain ⟨D,hl⟩:=Xrq tbN (by decide) hr.ty hr.pm (yblt l1) (yblt l2) (yblt l3) g1 g2 g3 hR hG'
 have hA:=hr.ar.of_meq e
 obtain ⟨m1,q1,q2,q3⟩:=hl D (Nat.le_refl _) (X3 m m.next) (hA.wl _)
 obtain ⟨_,_,n1,n2⟩:=hR.mono
 obtain ⟨n3,n4⟩:=hG.mono
 obtain ⟨n5,n6⟩:=Xmy hG
 have hx:X2z D x (i64 a) (i64 b) (i64 c) (X3 m m.next)=some (.tuple ⟨[i64 r',.int .i64 0]⟩,m1):=by
  unfold X2z
  rw [hr.px]
  simp only [q1,X9]
  rfl
 obtain ⟨m2,q4,q5,q6,q7⟩:=X2e (m:=m) hx q2
 refine ⟨D + 1,m2,by rw [hw]; exact q4,?_⟩
 rw [← hs]
 exact X9x e hr.ar (q5.of_meq e) (hA.back q3 q5.next q7) (Xoz hr.ar n1 n2 n3 n4 (n5.trans hr.ar.gk) (n6.trans hr.ar.hk)) hr.vi (Xc3 _ _)
theorem X129:Q9j.h=arg3 (fun G a0 a1 a2 m=>Q4m G a0 a1 a2 m):=by kernel_rfl
theorem X12m (d:Nat) (a0 a1 a2:Value) (m:Mem):TN (d + 1) Q6e [a0,a1,a2] m=outOf m (X2z d a0 a1 a2 (.int .i64 0) (X3 m m.next)):=by
 rw [X82 (e:=Q9j) (by kernel_rfl) (by kernel_rfl),X129,Xmj]
 unfold Q4m X2z
 rfl
theorem h_Or:Qb7.h=arg3 (fun G a0 a1 a2 m=>Q5j G a0 a1 a2 m):=by kernel_rfl
theorem t_Or (d:Nat) (a0 a1 a2:Value) (m:Mem):TN (d + 1) Qb2 [a0,a1,a2] m=outOf m (X2z d a0 a1 (.int .i64 1) a2 (X3 m m.next)):=by
 rw [X82 (e:=Qb7) (by kernel_rfl) (by kernel_rfl),h_Or,Xmj]
 unfold Q5j X2z
 rfl
theorem X139:Q9k.h=arg2 (fun G a0 a1 m=>Q4n G a0 a1 m):=by kernel_rfl
theorem X13e (d:Nat) (a0 a1:Value) (m:Mem):TN (d + 1) Q6f [a0,a1] m=outOf m (X2z d a0 a1 (.int .i64 0) (.int .i64 1) (X3 m m.next)):=by
 rw [X82 (e:=Q9k) (by kernel_rfl) (by kernel_rfl),X139,X9h]
 unfold Q4n X2z
 rfl
noncomputable def Xs2:Over:=fun f args m=>match args with | [x,p,q]=>bI (Nat.beq f Q6e) (X8e Qd x p q (.int .i64 (Int.ofNat 0)) m) none | _=>none
noncomputable def X10c:Over:=fun f args m=>match args with | [x,p,q]=>bI (Nat.beq f Qb2) (X8e Qd x p (.int .i64 (Int.ofNat 1)) q m) none | _=>none
noncomputable def Xv2:Over:=fun f args m=>match args with | [x,p]=>bI (Nat.beq f Q6f) (X8e Qd x p (.int .i64 (Int.ofNat 0)) (.int .i64 (Int.ofNat 1)) m) none | _=>none
theorem Xsz (hm:Go.Proofs.Tryz.prog.follows .mixedOrders=true) (W0:World):Xe Go.Proofs.Tryz.prog W0 Xs2:=by
 refine X30 (Xde hm W0) fun f args m v m' h=>?_
 unfold Xs2 at h
 split at h
 ·rename_i x p q
  obtain ⟨hb,h1⟩:=Xk h
  have hf:=Nat.eq_of_beq_eq_true hb
  subst hf
  exact Xfl (fun d m=>X12m d x p q m) h1
 ·cases h
theorem Xwq (hm:Go.Proofs.Tryz.prog.follows .mixedOrders=true) (W0:World):Xe Go.Proofs.Tryz.prog W0 X10c:=by
 refine X30 (Xde hm W0) fun f args m v m' h=>?_
 unfold X10c at h
 split at h
 ·rename_i x p q
  obtain ⟨hb,h1⟩:=Xk h
  have hf:=Nat.eq_of_beq_eq_true hb
  subst hf
  exact Xfl (fun d m=>t_Or d x p q m) h1
 ·cases h
theorem Xsq (hm:Go.Proofs.Tryz.prog.follows .mixedOrders=true) (W0:World):Xe Go.Proofs.Tryz.prog W0 Xv2:=by
 refine X30 (Xde hm W0) fun f args m v m' h=>?_
 unfold Xv2 at h
 split at h
 ·rename_i x p
  obtain ⟨hb,h1⟩:=Xk h
  have hf:=Nat.eq_of_beq_eq_true hb
  subst hf
  exact Xfl (fun d m=>X13e d x p m) h1
 ·cases h
end Go.Ab.Sh
