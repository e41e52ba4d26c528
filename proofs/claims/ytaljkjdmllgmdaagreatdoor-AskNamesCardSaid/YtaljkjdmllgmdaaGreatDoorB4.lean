/-
  And, Or and Not as answers of the table. No conditions.
-/
import Derived.Test.YtaljkjdmllgmdaaGreatDoorB3
set_option linter.unusedSimpArgs false
set_option linter.unusedVariables false
namespace Go.Ab.Sh
open Go Go.Ab
theorem Xel (s:Gt→Value→Value→Value→Mem→Option Rs) (G:Gt) (a0 a1 a2:Value) (m:Mem):arg3 s G [a0,a1,a2] m=s G a0 a1 a2 m:=rfl
/-- what stands around a call of Ite -/
noncomputable def X24 (d:Nat) (x p q r:Value) (m:Mem):Option Rs:=
 bp (TN d Q28 [x,p,q,r] m) fun x0 m=>bp (pur (X5 x0 0) m) fun x1 m=>bp (pur (X5 x0 1) m) fun x2 m=>some (.tuple ⟨[x1,x2]⟩,m)
theorem X9m {F:FuncId} {args:List Value} {x p q r:Value} (hw:∀ d m,TN (d + 1) F args m=outOf m (X24 d x p q r (Xd m m.next))) {m m':Mem} {v:Value} (h1:X5k Qs x p q r m=some (v,m')) :
  ∃ n m1,TN n F args m=some (v,m1)∧Drop m v m1 m':=by
 unfold X5k at h1
 obtain ⟨a,rfl,h2⟩:=X1g h1
 obtain ⟨b,rfl,h3⟩:=X1g h2
 obtain ⟨c,rfl,h4⟩:=X1g h3
 obtain ⟨l1,h5⟩:=Xl h4
 obtain ⟨l2,h6⟩:=Xl h5
 obtain ⟨l3,h7⟩:=Xl h6
 obtain ⟨m0,I,most,s,G,H,e,hr,h8⟩:=X2o h7
 obtain ⟨g1,h9⟩:=Xl h8
 obtain ⟨g2,h10⟩:=Xl h9
 obtain ⟨g3,h11⟩:=Xl h10
 obtain ⟨⟨r',s'⟩,k1,h12⟩:=X14 h11
 rw [X78,Xi] at h12
 simp only at h12
 cases hs:s' with
 | mk N n ver B Im =>
 rw [hs] at h12
 obtain ⟨⟨G',H'⟩,k2,h13⟩:=X14 h12
 rw [X78] at h13
 cases h13
 have hR:=X4u _ _ _ _ _ _ _ k1
 have hG:=X4y k2
 have hG':GiveR s'.N s'.n most G H r' G' H':=by rw [hs]; exact hG
 obtain ⟨D,hl⟩:=Xj4 tbN (by decide) hr.ty hr.pm (yblt l1) (yblt l2) (yblt l3) g1 g2 g3 hR hG'
 have hA:=hr.ar.of_meq e
 obtain ⟨m1,q1,q2,q3⟩:=hl D (Nat.le_refl _) (Xd m m.next) (hA.wl _)
 obtain ⟨_,_,n1,n2⟩:=hR.mono
 obtain ⟨n3,n4⟩:=hG.mono
 obtain ⟨n5,n6⟩:=Xea hG
 have hx:X24 D x (i64 a) (i64 b) (i64 c) (Xd m m.next)=some (.tuple ⟨[i64 r',.int .i64 0]⟩,m1):=by
  unfold X24
  rw [hr.px]
  simp only [q1,X18]
  rfl
 obtain ⟨m2,q4,q5,q6,q7⟩:=X1s (m:=m) hx q2
 refine ⟨D + 1,m2,by rw [hw]; exact q4,?_⟩
 rw [← hs]
 exact X6e e hr.ar (q5.of_meq e) (hA.back q3 q5.next q7) (Xfq hr.ar n1 n2 n3 n4 (n5.trans hr.ar.gk) (n6.trans hr.ar.hk)) hr.vi (X7e _ _)
theorem Xp7:Qxj.h=arg3 (fun G a0 a1 a2 m=>Qfp G a0 a1 a2 m):=by kernel_rfl
theorem Xp6 (d:Nat) (a0 a1 a2:Value) (m:Mem):TN (d + 1) Qac [a0,a1,a2] m=outOf m (X24 d a0 a1 a2 (.int .i64 0) (Xd m m.next)):=by
 rw [X5f (e:=Qxj) (by kernel_rfl) (by kernel_rfl),Xp7,Xel]
 unfold Qfp X24
 rfl
theorem h_Or:Q10w.h=arg3 (fun G a0 a1 a2 m=>Qhd G a0 a1 a2 m):=by kernel_rfl
theorem t_Or (d:Nat) (a0 a1 a2:Value) (m:Mem):TN (d + 1) Qh0 [a0,a1,a2] m=outOf m (X24 d a0 a1 (.int .i64 1) a2 (Xd m m.next)):=by
 rw [X5f (e:=Q10w) (by kernel_rfl) (by kernel_rfl),h_Or,Xel]
 unfold Qhd X24
 rfl
theorem Xoo:Qx8.h=arg2 (fun G a0 a1 m=>Qex G a0 a1 m):=by kernel_rfl
theorem Xos (d:Nat) (a0 a1:Value) (m:Mem):TN (d + 1) Qey [a0,a1] m=outOf m (X24 d a0 a1 (.int .i64 0) (.int .i64 1) (Xd m m.next)):=by
 rw [X5f (e:=Qx8) (by kernel_rfl) (by kernel_rfl),Xoo,X61]
 unfold Qex X24
 rfl
noncomputable def Xja:Over:=fun f args m=>match args with | [x,p,q]=>bI (Nat.beq f Qac) (X5k Qs x p q (.int .i64 (Int.ofNat 0)) m) none | _=>none
noncomputable def Xnj:Over:=fun f args m=>match args with | [x,p,q]=>bI (Nat.beq f Qh0) (X5k Qs x p (.int .i64 (Int.ofNat 1)) q m) none | _=>none
noncomputable def Xhj:Over:=fun f args m=>match args with | [x,p]=>bI (Nat.beq f Qey) (X5k Qs x p (.int .i64 (Int.ofNat 0)) (.int .i64 (Int.ofNat 1)) m) none | _=>none
theorem Xjj (hm:Go.Proofs.Tryz.prog.follows .mixedOrders=true) (W0:World):X9 Go.Proofs.Tryz.prog W0 Xja:=by
 refine X26 (X87 hm W0) fun f args m v m' h=>?_
 unfold Xja at h
 split at h
 ·rename_i x p q
  obtain ⟨hb,h1⟩:=Xl h
  have hf:=Nat.eq_of_beq_eq_true hb
  subst hf
  exact X9m (fun d m=>Xp6 d x p q m) h1
 ·cases h
theorem Xk3 (hm:Go.Proofs.Tryz.prog.follows .mixedOrders=true) (W0:World):X9 Go.Proofs.Tryz.prog W0 Xnj:=by
 refine X26 (X87 hm W0) fun f args m v m' h=>?_
 unfold Xnj at h
 split at h
 ·rename_i x p q
  obtain ⟨hb,h1⟩:=Xl h
  have hf:=Nat.eq_of_beq_eq_true hb
  subst hf
  exact X9m (fun d m=>t_Or d x p q m) h1
 ·cases h
theorem Xi9 (hm:Go.Proofs.Tryz.prog.follows .mixedOrders=true) (W0:World):X9 Go.Proofs.Tryz.prog W0 Xhj:=by
 refine X26 (X87 hm W0) fun f args m v m' h=>?_
 unfold Xhj at h
 split at h
 ·rename_i x p
  obtain ⟨hb,h1⟩:=Xl h
  have hf:=Nat.eq_of_beq_eq_true hb
  subst hf
  exact X9m (fun d m=>Xos d x p m) h1
 ·cases h
end Go.Ab.Sh
