/-
  Those functions as answers of the table. No conditions.
-/
import Derived.Test.YtbpkpklaegnkiaaGreatDoorB
import Derived.Test.YtbpkpklaegnkiaaGreatDoorAb5
import Derived.KernelRfl
set_option linter.unusedSimpArgs false
set_option linter.unusedVariables false
namespace Go.Ab
open Go
theorem Fr.of_meq {W:List Nat} {m m0 m1:Mem} (e:MEq m m0) (h:Fr W m m1):Fr W m0 m1 where
 next:=by rw [e.next]; exact h.next
 low:=by rw [e.low]; exact h.low
 low2:=fun x h1 h2 h3=>h.low2 x (by rw [← e.low]; exact h1) (by rw [← e.next]; exact h2) h3
 get:=fun b h1 h2=>by rw [e.get]; exact h.get b (by rw [← e.next]; exact h1) h2
 lo:=fun b h1=>by rw [e.get]; exact h.lo b (by rw [← e.next]; exact h1)
theorem Ar.of_meq {I:Ids} {s:ASt} {G H:SB} {m m0:Mem} (e:MEq m m0) (h:Ar I s G H m0):Ar I s G H m:=h.keep (by rw [e.next]; exact Nat.le_refl _) fun w _=>(e.get w).symm
end Go.Ab
namespace Go.Ab.Sh
open Go Go.Ab

noncomputable def ovN:Over:=fun _ _ _=>none
noncomputable def TN:Nat→Tab:=shT fns ovN 18446744073709551616
theorem X82 {f:Nat} {e:Entry Go.Proofs.Tryz.prog} (h1:fns.get (f + 1)=some e) (h2:e.f=f) (d:Nat) (args:List Value) (m:Mem):TN (d + 1) f args m=outOf m (e.h ⟨TN d,18446744073709551616⟩ args (X3 m m.next)):=by
 unfold TN
 rw [Xbv]
 have h3:Nat.beq e.f f=true:=by rw [h2]; exact Nat.beq_refl _
 simp only [ovN,h1,h3]
 rfl
theorem X9h (s:Gt→Value→Value→Mem→Option Rs) (G:Gt) (a0 a1:Value) (m:Mem):arg2 s G [a0,a1] m=s G a0 a1 m:=rfl
theorem Xc1 (s:Gt→Value→Value→Value→Value→Mem→Option Rs) (G:Gt) (a0 a1 a2 a3:Value) (m:Mem):arg4 s G [a0,a1,a2,a3] m=s G a0 a1 a2 a3 m:=rfl
theorem Xwn (s:Gt→Value→Value→Value→Value→Value→Mem→Option Rs) (G:Gt) (a0 a1 a2 a3 a4:Value) (m:Mem):arg5 s G [a0,a1,a2,a3,a4] m=s G a0 a1 a2 a3 a4 m:=rfl
theorem Xwo (s:Gt→Value→Value→Value→Value→Value→Value→Mem→Option Rs) (G:Gt) (a0 a1 a2 a3 a4 a5:Value) (m:Mem):arg6 s G [a0,a1,a2,a3,a4,a5] m=s G a0 a1 a2 a3 a4 a5 m:=rfl
theorem X133:Q8x.h=arg4 (fun G a0 a1 a2 a3 m=>Qm G a0 a1 a2 a3 m):=by kernel_rfl
theorem X12x (d:Nat) (a0 a1 a2 a3:Value) (m:Mem):TN (d + 1) Qr [a0,a1,a2,a3] m=outOf m (Qm ⟨TN d,18446744073709551616⟩ a0 a1 a2 a3 (X3 m m.next)):=by
 rw [X82 (e:=Q8x) (by kernel_rfl) (by kernel_rfl),X133,Xc1]
theorem Xyf:Q6v.h=arg6 (fun G a0 a1 a2 a3 a4 a5 m=>Q1c G a1 a2 a3 a0 a4 a5 m):=by kernel_rfl
theorem Xy6 (d:Nat) (a0 a1 a2 a3 a4 a5:Value) (m:Mem):TN (d + 1) Q2f [a0,a1,a2,a3,a4,a5] m=outOf m (Q1c ⟨TN d,18446744073709551616⟩ a1 a2 a3 a0 a4 a5 (X3 m m.next)):=by
 rw [X82 (e:=Q6v) (by kernel_rfl) (by kernel_rfl),Xyf,Xwo]
theorem X12t:Q8y.h=arg4 (fun G a0 a1 a2 a3 m=>Q1v G a0 a1 a2 a3 m):=by kernel_rfl
theorem X131 (d:Nat) (a0 a1 a2 a3:Value) (m:Mem):TN (d + 1) Q2n [a0,a1,a2,a3] m=outOf m (Q1v ⟨TN d,18446744073709551616⟩ a0 a1 a2 a3 (X3 m m.next)):=by
 rw [X82 (e:=Q8y) (by kernel_rfl) (by kernel_rfl),X12t,Xc1]
theorem Xw1:Q60.h=arg5 (fun G a0 a1 a2 a3 a4 m=>Qj G a1 a0 a2 a3 a4 m):=by kernel_rfl
theorem Xwd (d:Nat) (a0 a1 a2 a3 a4:Value) (m:Mem):TN (d + 1) Qo [a0,a1,a2,a3,a4] m=outOf m (Qj ⟨TN d,18446744073709551616⟩ a1 a0 a2 a3 a4 (X3 m m.next)):=by
 rw [X82 (e:=Q60) (by kernel_rfl) (by kernel_rfl),Xw1,Xwn]
theorem X116:Q80.h=arg2 (fun G a0 a1 m=>Q1a G a0 a1 m):=by kernel_rfl
theorem X10v (d:Nat) (a0 a1:Value) (m:Mem):TN (d + 1) Q26 [a0,a1] m=outOf m (Q1a ⟨TN d,18446744073709551616⟩ a0 a1 (X3 m m.next)):=by
 rw [X82 (e:=Q80) (by kernel_rfl) (by kernel_rfl),X116,X9h]
theorem Xyx:Q6w.h=arg2 (fun G a0 a1 m=>Qs G a0 a1 m):=by kernel_rfl
theorem Xzg (d:Nat) (a0 a1:Value) (m:Mem):TN (d + 1) Q15 [a0,a1] m=outOf m (Qs ⟨TN d,18446744073709551616⟩ a0 a1 (X3 m m.next)):=by
 rw [X82 (e:=Q6w) (by kernel_rfl) (by kernel_rfl),Xyx,X9h]
theorem X12a:Q8z.h=arg4 (fun G a0 a1 a2 a3 m=>Q1w G a0 a1 a2 a3 m):=by kernel_rfl
theorem X12h (d:Nat) (a0 a1 a2 a3:Value) (m:Mem):TN (d + 1) Q19 [a0,a1,a2,a3] m=outOf m (Q1w ⟨TN d,18446744073709551616⟩ a0 a1 a2 a3 (X3 m m.next)):=by
 rw [X82 (e:=Q8z) (by kernel_rfl) (by kernel_rfl),X12a,Xc1]
theorem h_mk:Qax.h=arg4 (fun G a0 a1 a2 a3 m=>Q1j G a2 a3 a1 a0 m):=by kernel_rfl
theorem t_mk (d:Nat) (a0 a1 a2 a3:Value) (m:Mem):TN (d + 1) Q2w [a0,a1,a2,a3] m=outOf m (Q1j ⟨TN d,18446744073709551616⟩ a2 a3 a1 a0 (X3 m m.next)):=by
 rw [X82 (e:=Qax) (by kernel_rfl) (by kernel_rfl),h_mk,Xc1]
theorem X12s:Q90.h=arg2 (fun G a0 a1 m=>Q1x G a0 a1 m):=by kernel_rfl
theorem X127 (d:Nat) (a0 a1:Value) (m:Mem):TN (d + 1) Q1y [a0,a1] m=outOf m (Q1x ⟨TN d,18446744073709551616⟩ a0 a1 (X3 m m.next)):=by
 rw [X82 (e:=Q90) (by kernel_rfl) (by kernel_rfl),X12s,X9h]
theorem tbN:Tb TN 18446744073709551616 where
 ite:=fun d a0 a1 a2 a3 m=>X12x d a0 a1 a2 a3 m
 iteS1:=fun d a0 a1 a2 a3 a4 a5 m=>Xy6 d a0 a1 a2 a3 a4 a5 m
 cut:=fun d a0 a1 a2 a3 m=>X131 d a0 a1 a2 a3 m
 giveS1:=fun d a0 a1 a2 a3 a4 m=>Xwd d a0 a1 a2 a3 a4 m
 give:=fun d a0 a1 m=>X10v d a0 a1 m
 check:=fun d a0 a1 m=>Xzg d a0 a1 m
 Ite:=fun d a0 a1 a2 a3 m=>X12h d a0 a1 a2 a3 m
 Var:=fun d a0 a1 m=>X127 d a0 a1 m
 mkn:=fun d a0 a1 a2 a3 m=>t_mk d a0 a1 a2 a3 m

noncomputable def Xs4:Over:=fun f args m=>match args with | [x,p,q,r]=>bI (Nat.beq f Qr) (aIte Qd x p q r m) none | _=>none
noncomputable def Xyv:Over:=fun f args m=>match args with | [x,p,q,r]=>bI (Nat.beq f Q2w) (aMk Qd x p q r m) none | _=>none
noncomputable def Xlj:Over:=fun f args m=>match args with | [x,p]=>bI (Nat.beq f Q26) (X11t Qd x p m) none | _=>none
noncomputable def Xv4:Over:=fun f args m=>match args with | [x,p,q,r]=>bI (Nat.beq f Q19) (X8e Qd x p q r m) none | _=>none

variable {W0:World}
theorem Xde (hm:Go.Proofs.Tryz.prog.follows .mixedOrders=true) (W0:World):∀ n,Xx Go.Proofs.Tryz.prog W0 (TN n):=Xf2 hm (fns:=fns) Xut
theorem Xsy (n r:Nat):refs n 8 (i32 r)=true:=rfl
theorem Xc3 (n r:Nat):refs n 8 (.tuple ⟨[.int .i64 (Int.ofNat r),.int .i64 0]⟩)=true:=rfl

theorem Xuq (hm:Go.Proofs.Tryz.prog.follows .mixedOrders=true) (W0:World):Xe Go.Proofs.Tryz.prog W0 Xs4:=by
 refine X30 (Xde hm W0) fun f args m v m' h=>?_
 unfold Xs4 at h
 split at h
 ·rename_i x p q r
  obtain ⟨hb,h1⟩:=Xk h
  have hf:=Nat.eq_of_beq_eq_true hb
  subst hf
  unfold aIte at h1
  obtain ⟨a,rfl,h2⟩:=X42 h1
  obtain ⟨b,rfl,h3⟩:=X42 h2
  obtain ⟨c,rfl,h4⟩:=X42 h3
  obtain ⟨m0,I,most,s,G,H,e,hr,h5⟩:=X46 h4
  obtain ⟨⟨r',s'⟩,k1,h6⟩:=X1f h5
  rw [Xbn] at h6
  cases h6
  have hR:=X6h _ _ _ _ _ _ _ k1
  obtain ⟨D,hl⟩:=Xtm tbN hr.ty hR (Gs:=G) (H:=H)
  obtain ⟨m1,q1,q2,q3⟩:=hl D (Nat.le_refl _) m (hr.ar.of_meq e)
  obtain ⟨_,_,n1,n2⟩:=hR.mono
  refine ⟨D,m1,by rw [hr.px]; exact q1,X9x e hr.ar (q2.of_meq e) q3 (Xoz hr.ar n1 n2 (fun _=>rfl) (fun _=>rfl) hr.ar.gk hr.ar.hk) hr.vi (Xsy _ _)⟩
 ·cases h
theorem Xve (hm:Go.Proofs.Tryz.prog.follows .mixedOrders=true) (W0:World):Xe Go.Proofs.Tryz.prog W0 Xyv:=by
 refine X30 (Xde hm W0) fun f args m v m' h=>?_
 unfold Xyv at h
 split at h
 ·rename_i x p q r
  obtain ⟨hb,h1⟩:=Xk h
  have hf:=Nat.eq_of_beq_eq_true hb
  subst hf
  unfold aMk at h1
  obtain ⟨a,rfl,h2⟩:=X42 h1
  obtain ⟨b,rfl,h3⟩:=X42 h2
  obtain ⟨c,rfl,h4⟩:=X42 h3
  obtain ⟨m0,I,most,s,G,H,e,hr,h5⟩:=X46 h4
  obtain ⟨⟨r',s'⟩,k1,h6⟩:=X1f h5
  rw [Xbn] at h6
  cases h6
  have hR:=Xho k1
  obtain ⟨m1,q1,q2,q3⟩:=Xmb tbN (hr.ar.of_meq e) hr.ty hR (d:=1) (Nat.le_refl _)
  obtain ⟨_,n1,n2⟩:=hR.mono
  refine ⟨1,m1,by rw [hr.px]; exact q1,X9x e hr.ar (q2.of_meq e) q3 (Xoz hr.ar (fun x=>by rw [n1 x]; exact ⟨rfl,rfl,rfl⟩) (fun _=>n2) (fun _=>rfl) (fun _=>rfl) hr.ar.gk hr.ar.hk) hr.vi (Xsy _ _)⟩
 ·cases h
theorem Xmy {N n most f:Nat} {G H G' H':SB} (h:GiveR N n most G H f G' H'):G'.k=G.k∧H'.k=H.k:=by
 cases h with
 | mk Z =>
  refine ⟨SB.k_add _ _,?_⟩
  generalize Z.l.take (Z.l.length - 2)=l
  induction l with
  | nil=>rfl
  | cons x l ih=>rw [List.foldr_cons,SB.k_add]; exact ih
theorem Xow (hm:Go.Proofs.Tryz.prog.follows .mixedOrders=true) (W0:World):Xe Go.Proofs.Tryz.prog W0 Xlj:=by
 refine X30 (Xde hm W0) fun f args m v m' h=>?_
 unfold Xlj at h
 split at h
 ·rename_i x p
  obtain ⟨hb,h1⟩:=Xk h
  have hf:=Nat.eq_of_beq_eq_true hb
  subst hf
  unfold X11t at h1
  obtain ⟨a,rfl,h2⟩:=X42 h1
  obtain ⟨m0,I,most,s,G,H,e,hr,h5⟩:=X46 h2
  cases hs:s with
  | mk N n ver B Im =>
  rw [hs] at h5
  obtain ⟨⟨G',H'⟩,k1,h6⟩:=X1f h5
  rw [Xbn] at h6
  cases h6
  have hR:=X78 k1
  have hR':GiveR s.N s.n most G H a G' H':=by rw [hs]; exact hR
  obtain ⟨D,hl⟩:=Xhk tbN (by decide) hr.pm hR'
  obtain ⟨m1,q1,q2,q3⟩:=hl D (Nat.le_refl _) m (hr.ar.of_meq e)
  obtain ⟨n1,n2⟩:=hR.mono
  obtain ⟨n3,n4⟩:=Xmy hR
  refine ⟨D,m1,by rw [hr.px]; exact q1,?_⟩
  rw [← hs]
  exact X9x e hr.ar (q2.of_meq e) q3 (Xoz hr.ar (fun _=>⟨rfl,rfl,rfl⟩) (fun _=>rfl) n1 n2 (n3.trans hr.ar.gk) (n4.trans hr.ar.hk)) hr.vi (Xc3 _ _)
 ·cases h
theorem Xur (hm:Go.Proofs.Tryz.prog.follows .mixedOrders=true) (W0:World):Xe Go.Proofs.Tryz.prog W0 Xv4:=by
 refine X30 (Xde hm W0) fun f args m v m' h=>?_
 unfold Xv4 at h
 split at h
 ·rename_i x p q r
  obtain ⟨hb,h1⟩:=Xk h
  have hf:=Nat.eq_of_beq_eq_true hb
  subst hf
  unfold X8e at h1
  obtain ⟨a,rfl,h2⟩:=X1y h1
  obtain ⟨b,rfl,h3⟩:=X1y h2
  obtain ⟨c,rfl,h4⟩:=X1y h3
  obtain ⟨l1,h5⟩:=Xk h4
  obtain ⟨l2,h6⟩:=Xk h5
  obtain ⟨l3,h7⟩:=Xk h6
  obtain ⟨m0,I,most,s,G,H,e,hr,h8⟩:=X46 h7
  obtain ⟨g1,h9⟩:=Xk h8
  obtain ⟨g2,h10⟩:=Xk h9
  obtain ⟨g3,h11⟩:=Xk h10
  obtain ⟨⟨r',s'⟩,k1,h12⟩:=X1f h11
  rw [Xbn,Xf] at h12
  simp only at h12
  cases hs:s' with
  | mk N n ver B Im =>
  rw [hs] at h12
  obtain ⟨⟨G',H'⟩,k2,h13⟩:=X1f h12
  rw [Xbn] at h13
  cases h13
  have hR:=X6h _ _ _ _ _ _ _ k1
  have hG:=X78 k2
  have hG':GiveR s'.N s'.n most G H r' G' H':=by rw [hs]; exact hG
  obtain ⟨D,hl⟩:=Xrq tbN (by decide) hr.ty hr.pm (yblt l1) (yblt l2) (yblt l3) g1 g2 g3 hR hG'
  obtain ⟨m1,q1,q2,q3⟩:=hl D (Nat.le_refl _) m (hr.ar.of_meq e)
  obtain ⟨_,_,n1,n2⟩:=hR.mono
  obtain ⟨n3,n4⟩:=hG.mono
  obtain ⟨n5,n6⟩:=Xmy hG
  refine ⟨D,m1,by rw [hr.px]; exact q1,?_⟩
  rw [← hs]
  exact X9x e hr.ar (q2.of_meq e) q3 (Xoz hr.ar n1 n2 n3 n4 (n5.trans hr.ar.gk) (n6.trans hr.ar.hk)) hr.vi (Xc3 _ _)
 ·cases h

noncomputable def Xh6:Over:=fun f args m=>match args with | [x,p]=>bI (Nat.beq f Q15) (Xxf Qd x p m) none | _=>none
noncomputable def Xuw:Over:=fun f args m=>match args with | [x,p]=>bI (Nat.beq f Q1y) (aVar Qd x p m) none | _=>none
theorem Xkq (hm:Go.Proofs.Tryz.prog.follows .mixedOrders=true) (W0:World):Xe Go.Proofs.Tryz.prog W0 Xh6:=by
 refine X30 (Xde hm W0) fun f args m v m' h=>?_
 unfold Xh6 at h
 split at h
 ·rename_i x p
  obtain ⟨hb,h1⟩:=Xk h
  have hf:=Nat.eq_of_beq_eq_true hb
  subst hf
  unfold Xxf at h1
  obtain ⟨b,n,r,rfl,h2⟩:=Xtk h1
  obtain ⟨c,ver,fro,ro,ty,hc,h3⟩:=Xwt h2
  obtain ⟨e1,h4⟩:=Xk h3
  obtain ⟨e2,h5⟩:=Xk h4
  obtain ⟨m0,I,most,s,G,H,e,hr,h6⟩:=X46 h5
  obtain ⟨e3,h7⟩:=Xk h6
  cases h7
  have hcg:m.get b=some (.cells c ver fro ro ty):=by rw [Mem.get_def,show m.tr.get (b + 1)=_ from hc]; rfl
  obtain ⟨m1,q1,q2⟩:=Xle tbN (by decide) (hr.ar.of_meq e) hcg (Nat.eq_of_beq_eq_true e1) (yblt e2) (Xtz c n e3)
  exact ⟨1,m1,by rw [hr.px]; exact q1,Xds e q2 rfl⟩
 ·cases h
theorem Xrb (hm:Go.Proofs.Tryz.prog.follows .mixedOrders=true) (W0:World):Xe Go.Proofs.Tryz.prog W0 Xuw:=by
 refine X30 (Xde hm W0) fun f args m v m' h=>?_
 unfold Xuw at h
 split at h
 ·rename_i x p
  obtain ⟨hb,h1⟩:=Xk h
  have hf:=Nat.eq_of_beq_eq_true hb
  subst hf
  unfold aVar at h1
  obtain ⟨a,rfl,h2⟩:=X1y h1
  obtain ⟨l1,h5⟩:=Xk h2
  obtain ⟨m0,I,most,s,G,H,e,hr,h8⟩:=X46 h5
  obtain ⟨nv,hv,h9⟩:=X1y h8
  obtain ⟨l2,h10⟩:=Xk h9
  obtain ⟨⟨r',s'⟩,k1,h12⟩:=X1f h10
  rw [Xbn,Xf] at h12
  simp only at h12
  cases hs:s' with
  | mk N n ver B Im =>
  rw [hs] at h12
  obtain ⟨⟨G',H'⟩,k2,h13⟩:=X1f h12
  rw [Xbn] at h13
  cases h13
  have hR:=Xho k1
  have hG:=X78 k2
  have hG':GiveR s'.N s'.n most G H r' G' H':=by rw [hs]; exact hG
  obtain ⟨D,hl⟩:=Xzk tbN (by decide) hr.ty hr.pm hv (yblt l2) (yblt l1) hR hG'
  obtain ⟨m1,q1,q2,q3⟩:=hl D (Nat.le_refl _) m (hr.ar.of_meq e)
  obtain ⟨_,n1,n2⟩:=hR.mono
  obtain ⟨n3,n4⟩:=hG.mono
  obtain ⟨n5,n6⟩:=Xmy hG
  refine ⟨D,m1,by rw [hr.px]; exact q1,?_⟩
  rw [← hs]
  exact X9x e hr.ar (q2.of_meq e) q3 (Xoz hr.ar (fun x=>by rw [n1 x]; exact ⟨rfl,rfl,rfl⟩) (fun _=>n2) n3 n4 (n5.trans hr.ar.gk) (n6.trans hr.ar.hk)) hr.vi (Xc3 _ _)
 ·cases h
end Go.Ab.Sh
