/-
  And, Or and Not as answers of the table. No conditions.
-/
import Derived.Test.YtfdlocphbipadaaGreatDoorB3
namespace Go.Ab.Sh
open Go Go.Ab
theorem Xdf (s:Gt→Value→Value→Value→Mem→Option Rs) (G:Gt) (a0 a1 a2:Value) (m:Mem):arg3 s G [a0,a1,a2] m=s G a0 a1 a2 m:=rfl
/-- what stands around a call of Ite -/
noncomputable def X1u (d:Nat) (x p q r:Value) (m:Mem):Option Rs:=
  bp (TN d Q3k [x,p,q,r] m) fun x0 m=>bp (pur (X5 x0 0) m) fun x1 m=>bp (pur (X5 x0 1) m) fun x2 m=>some (.tuple ⟨[x1,x2]⟩,m)
theorem X9e {F:FuncId} {args:List Value} {x p q r:Value} (hw:∀ d m,TN (d + 1) F args m=outOf m (X1u d x p q r (Xc m m.next))) {m m':Mem} {v:Value} (h1:X4o Q14 x p q r m=some (v,m')) :
    ∃ n m1,TN n F args m=some (v,m1)∧Drop m v m1 m':=by
  unfold X4o at h1
  obtain ⟨a,rfl,h2⟩:=X1f h1
  obtain ⟨b,rfl,h3⟩:=X1f h2
  obtain ⟨c,rfl,h4⟩:=X1f h3
  obtain ⟨l1,h5⟩:=Xi h4
  obtain ⟨l2,h6⟩:=Xi h5
  obtain ⟨l3,h7⟩:=Xi h6
  obtain ⟨m0,I,most,s,G,H,e,hr,h8⟩:=X2k h7
  obtain ⟨g1,h9⟩:=Xi h8
  obtain ⟨g2,h10⟩:=Xi h9
  obtain ⟨g3,h11⟩:=Xi h10
  obtain ⟨⟨r',s'⟩,k1,h12⟩:=X11 h11
  rw [X6b,Xk] at h12
  simp only at h12
  cases hs:s' with
  | mk N n ver B Im =>
  rw [hs] at h12
  obtain ⟨⟨G',H'⟩,k2,h13⟩:=X11 h12
  rw [X6b] at h13
  cases h13
  have hR:=X3w _ _ _ _ _ _ _ k1
  have hG:=X47 k2
  have hG':GiveR s'.N s'.n most G H r' G' H':=by rw [hs]; exact hG
  obtain ⟨D,hl⟩:=Xfj tbN (by decide) hr.ty hr.pm (yblt l1) (yblt l2) (yblt l3) g1 g2 g3 hR hG'
  have hA:=hr.ar.of_meq e
  obtain ⟨m1,q1,q2,q3⟩:=hl D (Nat.le_refl _) (Xc m m.next) (hA.wl _)
  obtain ⟨_,_,n1,n2⟩:=hR.mono
  obtain ⟨n3,n4⟩:=hG.mono
  obtain ⟨n5,n6⟩:=Xdu hG
  have hx:X1u D x (i64 a) (i64 b) (i64 c) (Xc m m.next)=some (.tuple ⟨[i64 r',.int .i64 0]⟩,m1):=by
    unfold X1u
    rw [hr.px]
    simp only [q1,X14]
    rfl
  obtain ⟨m2,q4,q5,q6,q7⟩:=X1o (m:=m) hx q2
  refine ⟨D + 1,m2,by rw [hw]; exact q4,?_⟩
  rw [← hs]
  exact X5v e hr.ar (q5.of_meq e) (hA.back q3 q5.next q7) (Xem hr.ar n1 n2 n3 n4 (n5.trans hr.ar.gk) (n6.trans hr.ar.hk)) hr.vi (X6i _ _)
theorem Xmr:Q19k.h=arg3 (fun G a0 a1 a2 m=>Ql5 G a0 a1 a2 m):=by kernel_rfl
theorem Xm8 (d:Nat) (a0 a1 a2:Value) (m:Mem):TN (d + 1) Ql3 [a0,a1,a2] m=outOf m (X1u d a0 a1 a2 (.int .i64 0) (Xc m m.next)):=by
  rw [X4s (e:=Q19k) (by kernel_rfl) (by kernel_rfl),Xmr,Xdf]
  unfold Ql5 X1u
  rfl
theorem h_Or:Q1gk.h=arg3 (fun G a0 a1 a2 m=>Qo7 G a0 a1 a2 m):=by kernel_rfl
theorem t_Or (d:Nat) (a0 a1 a2:Value) (m:Mem):TN (d + 1) Qxo [a0,a1,a2] m=outOf m (X1u d a0 a1 (.int .i64 1) a2 (Xc m m.next)):=by
  rw [X4s (e:=Q1gk) (by kernel_rfl) (by kernel_rfl),h_Or,Xdf]
  unfold Qo7 X1u
  rfl
theorem Xmq:Q1a8.h=arg2 (fun G a0 a1 m=>Qm4 G a0 a1 m):=by kernel_rfl
theorem Xmm (d:Nat) (a0 a1:Value) (m:Mem):TN (d + 1) Ql4 [a0,a1] m=outOf m (X1u d a0 a1 (.int .i64 0) (.int .i64 1) (Xc m m.next)):=by
  rw [X4s (e:=Q1a8) (by kernel_rfl) (by kernel_rfl),Xmq,X55]
  unfold Qm4 X1u
  rfl
noncomputable def Xfa:Over:=fun f args m=>match args with | [x,p,q]=>bI (Nat.beq f Ql3) (X4o Q14 x p q (.int .i64 (Int.ofNat 0)) m) none | _=>none
noncomputable def Xkf:Over:=fun f args m=>match args with | [x,p,q]=>bI (Nat.beq f Qxo) (X4o Q14 x p (.int .i64 (Int.ofNat 1)) q m) none | _=>none
noncomputable def Xg1:Over:=fun f args m=>match args with | [x,p]=>bI (Nat.beq f Ql4) (X4o Q14 x p (.int .i64 (Int.ofNat 0)) (.int .i64 (Int.ofNat 1)) m) none | _=>none
theorem Xh5 (hm:Go.Proofs.Tryz.prog.follows .mixedOrders=true) (W0:World):Xf Go.Proofs.Tryz.prog W0 Xfa:=by
  refine X1v (X6m hm W0) fun f args m v m' h=>?_
  unfold Xfa at h
  split at h
  . rename_i x p q
    obtain ⟨hb,h1⟩:=Xi h
    have hf:=Nat.eq_of_beq_eq_true hb
    subst hf
    exact X9e (fun d m=>Xm8 d x p q m) h1
  . cases h
theorem Xib (hm:Go.Proofs.Tryz.prog.follows .mixedOrders=true) (W0:World):Xf Go.Proofs.Tryz.prog W0 Xkf:=by
  refine X1v (X6m hm W0) fun f args m v m' h=>?_
  unfold Xkf at h
  split at h
  . rename_i x p q
    obtain ⟨hb,h1⟩:=Xi h
    have hf:=Nat.eq_of_beq_eq_true hb
    subst hf
    exact X9e (fun d m=>t_Or d x p q m) h1
  . cases h
theorem Xf7 (hm:Go.Proofs.Tryz.prog.follows .mixedOrders=true) (W0:World):Xf Go.Proofs.Tryz.prog W0 Xg1:=by
  refine X1v (X6m hm W0) fun f args m v m' h=>?_
  unfold Xg1 at h
  split at h
  . rename_i x p
    obtain ⟨hb,h1⟩:=Xi h
    have hf:=Nat.eq_of_beq_eq_true hb
    subst hf
    exact X9e (fun d m=>Xmm d x p m) h1
  . cases h
end Go.Ab.Sh
