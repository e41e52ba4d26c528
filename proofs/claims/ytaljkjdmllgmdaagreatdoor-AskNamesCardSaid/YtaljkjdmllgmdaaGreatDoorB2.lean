/-
  Those functions as answers of the table. No conditions.
-/
import Derived.Test.YtaljkjdmllgmdaaGreatDoorB
import Derived.Test.YtaljkjdmllgmdaaGreatDoorAb5
import Derived.KernelRfl
set_option linter.unusedSimpArgs false
set_option linter.unusedVariables false
namespace Go.Ab
open Go
theorem Fr.of_meq {W:List Nat} {m m0 m1:Mem} (e:MEq m m0) (h:Fr W m m1):Fr W m0 m1 where
 next:=by rw [e.next]; exact h.next
 low:=by rw [e.low]; exact h.low
 low2:=fun x h1 h2 h3=>h.low2 x (by rw [← e.low]; exact h1) (by rw [← e.next]; exact h2) h3
 get:=fun b h1 h2=>by rw [e.get]; exact h.get b (by rw [← e.next]; exact h1) h2
 lo:=fun b h1=>by rw [e.get]; exact h.lo b (by rw [← e.next]; exact h1)
theorem Ar.of_meq {I:Ids} {s:ASt} {G H:SB} {m m0:Mem} (e:MEq m m0) (h:Ar I s G H m0):Ar I s G H m:=h.keep (by rw [e.next]; exact Nat.le_refl _) fun w _=>(e.get w).symm
end Go.Ab
namespace Go.Ab.Sh
open Go Go.Ab

noncomputable def ovN:Over:=fun _ _ _=>none
noncomputable def TN:Nat→Tab:=shT fns ovN 18446744073709551616
theorem X5f {f:Nat} {e:Entry Go.Proofs.Tryz.prog} (h1:fns.get (f + 1)=some e) (h2:e.f=f) (d:Nat) (args:List Value) (m:Mem):TN (d + 1) f args m=outOf m (e.h ⟨TN d,18446744073709551616⟩ args (Xd m m.next)):=by
 unfold TN
 rw [Xeu]
 have h3:Nat.beq e.f f=true:=by rw [h2]; exact Nat.beq_refl _
 simp only [ovN,h1,h3]
 rfl
theorem X61 (s:Gt→Value→Value→Mem→Option Rs) (G:Gt) (a0 a1:Value) (m:Mem):arg2 s G [a0,a1] m=s G a0 a1 m:=rfl
theorem X7b (s:Gt→Value→Value→Value→Value→Mem→Option Rs) (G:Gt) (a0 a1 a2 a3:Value) (m:Mem):arg4 s G [a0,a1,a2,a3] m=s G a0 a1 a2 a3 m:=rfl
theorem Xkl (s:Gt→Value→Value→Value→Value→Value→Mem→Option Rs) (G:Gt) (a0 a1 a2 a3 a4:Value) (m:Mem):arg5 s G [a0,a1,a2,a3,a4] m=s G a0 a1 a2 a3 a4 m:=rfl
theorem Xku (s:Gt→Value→Value→Value→Value→Value→Value→Mem→Option Rs) (G:Gt) (a0 a1 a2 a3 a4 a5:Value) (m:Mem):arg6 s G [a0,a1,a2,a3,a4,a5] m=s G a0 a1 a2 a3 a4 a5 m:=rfl
theorem Xoq:Qxd.h=arg4 (fun G a0 a1 a2 a3 m=>Q22 G a0 a1 a2 a3 m):=by kernel_rfl
theorem Xow (d:Nat) (a0 a1 a2 a3:Value) (m:Mem):TN (d + 1) Q20 [a0,a1,a2,a3] m=outOf m (Q22 ⟨TN d,18446744073709551616⟩ a0 a1 a2 a3 (Xd m m.next)):=by
 rw [X5f (e:=Qxd) (by kernel_rfl) (by kernel_rfl),Xoq,X7b]
theorem Xnd:Qri.h=arg6 (fun G a0 a1 a2 a3 a4 a5 m=>Q44 G a1 a2 a3 a0 a4 a5 m):=by kernel_rfl
theorem Xmn (d:Nat) (a0 a1 a2 a3 a4 a5:Value) (m:Mem):TN (d + 1) Q5j [a0,a1,a2,a3,a4,a5] m=outOf m (Q44 ⟨TN d,18446744073709551616⟩ a1 a2 a3 a0 a4 a5 (Xd m m.next)):=by
 rw [X5f (e:=Qri) (by kernel_rfl) (by kernel_rfl),Xnd,Xku]
theorem Xox:Qxe.h=arg4 (fun G a0 a1 a2 a3 m=>Q5k G a0 a1 a2 a3 m):=by kernel_rfl
theorem Xon (d:Nat) (a0 a1 a2 a3:Value) (m:Mem):TN (d + 1) Q5l [a0,a1,a2,a3] m=outOf m (Q5k ⟨TN d,18446744073709551616⟩ a0 a1 a2 a3 (Xd m m.next)):=by
 rw [X5f (e:=Qxe) (by kernel_rfl) (by kernel_rfl),Xox,X7b]
theorem Xk4:Qo3.h=arg5 (fun G a0 a1 a2 a3 a4 m=>Q1o G a1 a0 a2 a3 a4 m):=by kernel_rfl
theorem Xk2 (d:Nat) (a0 a1 a2 a3 a4:Value) (m:Mem):TN (d + 1) Q1x [a0,a1,a2,a3,a4] m=outOf m (Q1o ⟨TN d,18446744073709551616⟩ a1 a0 a2 a3 a4 (Xd m m.next)):=by
 rw [X5f (e:=Qo3) (by kernel_rfl) (by kernel_rfl),Xk4,Xkl]
theorem Xnr:Qu8.h=arg2 (fun G a0 a1 m=>Q3i G a0 a1 m):=by kernel_rfl
theorem Xo4 (d:Nat) (a0 a1:Value) (m:Mem):TN (d + 1) Q4n [a0,a1] m=outOf m (Q3i ⟨TN d,18446744073709551616⟩ a0 a1 (Xd m m.next)):=by
 rw [X5f (e:=Qu8) (by kernel_rfl) (by kernel_rfl),Xnr,X61]
theorem Xnf:Qrj.h=arg2 (fun G a0 a1 m=>Q2d G a0 a1 m):=by kernel_rfl
theorem Xm7 (d:Nat) (a0 a1:Value) (m:Mem):TN (d + 1) Q25 [a0,a1] m=outOf m (Q2d ⟨TN d,18446744073709551616⟩ a0 a1 (Xd m m.next)):=by
 rw [X5f (e:=Qrj) (by kernel_rfl) (by kernel_rfl),Xnf,X61]
theorem Xok:Qx2.h=arg4 (fun G a0 a1 a2 a3 m=>Q5c G a0 a1 a2 a3 m):=by kernel_rfl
theorem Xou (d:Nat) (a0 a1 a2 a3:Value) (m:Mem):TN (d + 1) Q28 [a0,a1,a2,a3] m=outOf m (Q5c ⟨TN d,18446744073709551616⟩ a0 a1 a2 a3 (Xd m m.next)):=by
 rw [X5f (e:=Qx2) (by kernel_rfl) (by kernel_rfl),Xok,X7b]
theorem h_mk:Q10h.h=arg4 (fun G a0 a1 a2 a3 m=>Q3r G a2 a3 a1 a0 m):=by kernel_rfl
theorem t_mk (d:Nat) (a0 a1 a2 a3:Value) (m:Mem):TN (d + 1) Q6d [a0,a1,a2,a3] m=outOf m (Q3r ⟨TN d,18446744073709551616⟩ a2 a3 a1 a0 (Xd m m.next)):=by
 rw [X5f (e:=Q10h) (by kernel_rfl) (by kernel_rfl),h_mk,X7b]
theorem Xp9:Qx6.h=arg2 (fun G a0 a1 m=>Q5h G a0 a1 m):=by kernel_rfl
theorem Xpa (d:Nat) (a0 a1:Value) (m:Mem):TN (d + 1) Q47 [a0,a1] m=outOf m (Q5h ⟨TN d,18446744073709551616⟩ a0 a1 (Xd m m.next)):=by
 rw [X5f (e:=Qx6) (by kernel_rfl) (by kernel_rfl),Xp9,X61]
theorem tbN:Tb TN 18446744073709551616 where
 ite:=fun d a0 a1 a2 a3 m=>Xow d a0 a1 a2 a3 m
 iteS1:=fun d a0 a1 a2 a3 a4 a5 m=>Xmn d a0 a1 a2 a3 a4 a5 m
 cut:=fun d a0 a1 a2 a3 m=>Xon d a0 a1 a2 a3 m
 giveS1:=fun d a0 a1 a2 a3 a4 m=>Xk2 d a0 a1 a2 a3 a4 m
 give:=fun d a0 a1 m=>Xo4 d a0 a1 m
 check:=fun d a0 a1 m=>Xm7 d a0 a1 m
 Ite:=fun d a0 a1 a2 a3 m=>Xou d a0 a1 a2 a3 m
 Var:=fun d a0 a1 m=>Xpa d a0 a1 m
 mkn:=fun d a0 a1 a2 a3 m=>t_mk d a0 a1 a2 a3 m

noncomputable def Xgy:Over:=fun f args m=>match args with | [x,p,q,r]=>bI (Nat.beq f Q20) (aIte Qs x p q r m) none | _=>none
noncomputable def Xly:Over:=fun f args m=>match args with | [x,p,q,r]=>bI (Nat.beq f Q6d) (aMk Qs x p q r m) none | _=>none
noncomputable def Xcv:Over:=fun f args m=>match args with | [x,p]=>bI (Nat.beq f Q4n) (Xnk Qs x p m) none | _=>none
noncomputable def Xh2:Over:=fun f args m=>match args with | [x,p,q,r]=>bI (Nat.beq f Q28) (X5k Qs x p q r m) none | _=>none

variable {W0:World}
theorem X87 (hm:Go.Proofs.Tryz.prog.follows .mixedOrders=true) (W0:World):∀ n,Xq Go.Proofs.Tryz.prog W0 (TN n):=X2k hm (fns:=fns) Xjg
theorem Xjb (n r:Nat):refs n 8 (i32 r)=true:=rfl
theorem X7e (n r:Nat):refs n 8 (.tuple ⟨[.int .i64 (Int.ofNat r),.int .i64 0]⟩)=true:=rfl

theorem Xhx (hm:Go.Proofs.Tryz.prog.follows .mixedOrders=true) (W0:World):X9 Go.Proofs.Tryz.prog W0 Xgy:=by
 refine X26 (X87 hm W0) fun f args m v m' h=>?_
 unfold Xgy at h
 split at h
 ·rename_i x p q r
  obtain ⟨hb,h1⟩:=Xl h
  have hf:=Nat.eq_of_beq_eq_true hb
  subst hf
  unfold aIte at h1
  obtain ⟨a,rfl,h2⟩:=X2t h1
  obtain ⟨b,rfl,h3⟩:=X2t h2
  obtain ⟨c,rfl,h4⟩:=X2t h3
  obtain ⟨m0,I,most,s,G,H,e,hr,h5⟩:=X2o h4
  obtain ⟨⟨r',s'⟩,k1,h6⟩:=X14 h5
  rw [X78] at h6
  cases h6
  have hR:=X4u _ _ _ _ _ _ _ k1
  obtain ⟨D,hl⟩:=Xh0 tbN hr.ty hR (Gs:=G) (H:=H)
  obtain ⟨m1,q1,q2,q3⟩:=hl D (Nat.le_refl _) m (hr.ar.of_meq e)
  obtain ⟨_,_,n1,n2⟩:=hR.mono
  refine ⟨D,m1,by rw [hr.px]; exact q1,X6e e hr.ar (q2.of_meq e) q3 (Xfq hr.ar n1 n2 (fun _=>rfl) (fun _=>rfl) hr.ar.gk hr.ar.hk) hr.vi (Xjb _ _)⟩
 ·cases h
theorem Xjt (hm:Go.Proofs.Tryz.prog.follows .mixedOrders=true) (W0:World):X9 Go.Proofs.Tryz.prog W0 Xly:=by
 refine X26 (X87 hm W0) fun f args m v m' h=>?_
 unfold Xly at h
 split at h
 ·rename_i x p q r
  obtain ⟨hb,h1⟩:=Xl h
  have hf:=Nat.eq_of_beq_eq_true hb
  subst hf
  unfold aMk at h1
  obtain ⟨a,rfl,h2⟩:=X2t h1
  obtain ⟨b,rfl,h3⟩:=X2t h2
  obtain ⟨c,rfl,h4⟩:=X2t h3
  obtain ⟨m0,I,most,s,G,H,e,hr,h5⟩:=X2o h4
  obtain ⟨⟨r',s'⟩,k1,h6⟩:=X14 h5
  rw [X78] at h6
  cases h6
  have hR:=X9s k1
  obtain ⟨m1,q1,q2,q3⟩:=Xd6 tbN (hr.ar.of_meq e) hr.ty hR (d:=1) (Nat.le_refl _)
  obtain ⟨_,n1,n2⟩:=hR.mono
  refine ⟨1,m1,by rw [hr.px]; exact q1,X6e e hr.ar (q2.of_meq e) q3 (Xfq hr.ar (fun x=>by rw [n1 x]; exact ⟨rfl,rfl,rfl⟩) (fun _=>n2) (fun _=>rfl) (fun _=>rfl) hr.ar.gk hr.ar.hk) hr.vi (Xjb _ _)⟩
 ·cases h
theorem Xea {N n most f:Nat} {G H G' H':SB} (h:GiveR N n most G H f G' H'):G'.k=G.k∧H'.k=H.k:=by
 cases h with
 | mk Z =>
  refine ⟨SB.k_add _ _,?_⟩
  generalize Z.l.take (Z.l.length - 2)=l
  induction l with
  | nil=>rfl
  | cons x l ih=>rw [List.foldr_cons,SB.k_add]; exact ih
theorem Xfd (hm:Go.Proofs.Tryz.prog.follows .mixedOrders=true) (W0:World):X9 Go.Proofs.Tryz.prog W0 Xcv:=by
 refine X26 (X87 hm W0) fun f args m v m' h=>?_
 unfold Xcv at h
 split at h
 ·rename_i x p
  obtain ⟨hb,h1⟩:=Xl h
  have hf:=Nat.eq_of_beq_eq_true hb
  subst hf
  unfold Xnk at h1
  obtain ⟨a,rfl,h2⟩:=X2t h1
  obtain ⟨m0,I,most,s,G,H,e,hr,h5⟩:=X2o h2
  cases hs:s with
  | mk N n ver B Im =>
  rw [hs] at h5
  obtain ⟨⟨G',H'⟩,k1,h6⟩:=X14 h5
  rw [X78] at h6
  cases h6
  have hR:=X4y k1
  have hR':GiveR s.N s.n most G H a G' H':=by rw [hs]; exact hR
  obtain ⟨D,hl⟩:=Xam tbN (by decide) hr.pm hR'
  obtain ⟨m1,q1,q2,q3⟩:=hl D (Nat.le_refl _) m (hr.ar.of_meq e)
  obtain ⟨n1,n2⟩:=hR.mono
  obtain ⟨n3,n4⟩:=Xea hR
  refine ⟨D,m1,by rw [hr.px]; exact q1,?_⟩
  rw [← hs]
  exact X6e e hr.ar (q2.of_meq e) q3 (Xfq hr.ar (fun _=>⟨rfl,rfl,rfl⟩) (fun _=>rfl) n1 n2 (n3.trans hr.ar.gk) (n4.trans hr.ar.hk)) hr.vi (X7e _ _)
 ·cases h
theorem Xgf (hm:Go.Proofs.Tryz.prog.follows .mixedOrders=true) (W0:World):X9 Go.Proofs.Tryz.prog W0 Xh2:=by
 refine X26 (X87 hm W0) fun f args m v m' h=>?_
 unfold Xh2 at h
 split at h
 ·rename_i x p q r
  obtain ⟨hb,h1⟩:=Xl h
  have hf:=Nat.eq_of_beq_eq_true hb
  subst hf
  unfold X5k at h1
  obtain ⟨a,rfl,h2⟩:=X1g h1
  obtain ⟨b,rfl,h3⟩:=X1g h2
  obtain ⟨c,rfl,h4⟩:=X1g h3
  obtain ⟨l1,h5⟩:=Xl h4
  obtain ⟨l2,h6⟩:=Xl h5
  obtain ⟨l3,h7⟩:=Xl h6
  obtain ⟨m0,I,most,s,G,H,e,hr,h8⟩:=X2o h7
  obtain ⟨g1,h9⟩:=Xl h8
  obtain ⟨g2,h10⟩:=Xl h9
  obtain ⟨g3,h11⟩:=Xl h10
  obtain ⟨⟨r',s'⟩,k1,h12⟩:=X14 h11
  rw [X78,Xi] at h12
  simp only at h12
  cases hs:s' with
  | mk N n ver B Im =>
  rw [hs] at h12
  obtain ⟨⟨G',H'⟩,k2,h13⟩:=X14 h12
  rw [X78] at h13
  cases h13
  have hR:=X4u _ _ _ _ _ _ _ k1
  have hG:=X4y k2
  have hG':GiveR s'.N s'.n most G H r' G' H':=by rw [hs]; exact hG
  obtain ⟨D,hl⟩:=Xj4 tbN (by decide) hr.ty hr.pm (yblt l1) (yblt l2) (yblt l3) g1 g2 g3 hR hG'
  obtain ⟨m1,q1,q2,q3⟩:=hl D (Nat.le_refl _) m (hr.ar.of_meq e)
  obtain ⟨_,_,n1,n2⟩:=hR.mono
  obtain ⟨n3,n4⟩:=hG.mono
  obtain ⟨n5,n6⟩:=Xea hG
  refine ⟨D,m1,by rw [hr.px]; exact q1,?_⟩
  rw [← hs]
  exact X6e e hr.ar (q2.of_meq e) q3 (Xfq hr.ar n1 n2 n3 n4 (n5.trans hr.ar.gk) (n6.trans hr.ar.hk)) hr.vi (X7e _ _)
 ·cases h

noncomputable def Xal:Over:=fun f args m=>match args with | [x,p]=>bI (Nat.beq f Q25) (Xl4 Qs x p m) none | _=>none
noncomputable def Xgo:Over:=fun f args m=>match args with | [x,p]=>bI (Nat.beq f Q47) (aVar Qs x p m) none | _=>none
theorem Xcr (hm:Go.Proofs.Tryz.prog.follows .mixedOrders=true) (W0:World):X9 Go.Proofs.Tryz.prog W0 Xal:=by
 refine X26 (X87 hm W0) fun f args m v m' h=>?_
 unfold Xal at h
 split at h
 ·rename_i x p
  obtain ⟨hb,h1⟩:=Xl h
  have hf:=Nat.eq_of_beq_eq_true hb
  subst hf
  unfold Xl4 at h1
  obtain ⟨b,n,r,rfl,h2⟩:=Xjc h1
  obtain ⟨c,ver,fro,ro,ty,hc,h3⟩:=Xkg h2
  obtain ⟨e1,h4⟩:=Xl h3
  obtain ⟨e2,h5⟩:=Xl h4
  obtain ⟨m0,I,most,s,G,H,e,hr,h6⟩:=X2o h5
  obtain ⟨e3,h7⟩:=Xl h6
  cases h7
  have hcg:m.get b=some (.cells c ver fro ro ty):=by rw [Mem.get_def,show m.tr.get (b + 1)=_ from hc]; rfl
  obtain ⟨m1,q1,q2⟩:=Xd4 tbN (by decide) (hr.ar.of_meq e) hcg (Nat.eq_of_beq_eq_true e1) (yblt e2) (Xg9 c n e3)
  exact ⟨1,m1,by rw [hr.px]; exact q1,X8o e q2 rfl⟩
 ·cases h
theorem Xha (hm:Go.Proofs.Tryz.prog.follows .mixedOrders=true) (W0:World):X9 Go.Proofs.Tryz.prog W0 Xgo:=by
 refine X26 (X87 hm W0) fun f args m v m' h=>?_
 unfold Xgo at h
 split at h
 ·rename_i x p
  obtain ⟨hb,h1⟩:=Xl h
  have hf:=Nat.eq_of_beq_eq_true hb
  subst hf
  unfold aVar at h1
  obtain ⟨a,rfl,h2⟩:=X1g h1
  obtain ⟨l1,h5⟩:=Xl h2
  obtain ⟨m0,I,most,s,G,H,e,hr,h8⟩:=X2o h5
  obtain ⟨nv,hv,h9⟩:=X1g h8
  obtain ⟨l2,h10⟩:=Xl h9
  obtain ⟨⟨r',s'⟩,k1,h12⟩:=X14 h10
  rw [X78,Xi] at h12
  simp only at h12
  cases hs:s' with
  | mk N n ver B Im =>
  rw [hs] at h12
  obtain ⟨⟨G',H'⟩,k2,h13⟩:=X14 h12
  rw [X78] at h13
  cases h13
  have hR:=X9s k1
  have hG:=X4y k2
  have hG':GiveR s'.N s'.n most G H r' G' H':=by rw [hs]; exact hG
  obtain ⟨D,hl⟩:=Xmp tbN (by decide) hr.ty hr.pm hv (yblt l2) (yblt l1) hR hG'
  obtain ⟨m1,q1,q2,q3⟩:=hl D (Nat.le_refl _) m (hr.ar.of_meq e)
  obtain ⟨_,n1,n2⟩:=hR.mono
  obtain ⟨n3,n4⟩:=hG.mono
  obtain ⟨n5,n6⟩:=Xea hG
  refine ⟨D,m1,by rw [hr.px]; exact q1,?_⟩
  rw [← hs]
  exact X6e e hr.ar (q2.of_meq e) q3 (Xfq hr.ar (fun x=>by rw [n1 x]; exact ⟨rfl,rfl,rfl⟩) (fun _=>n2) n3 n4 (n5.trans hr.ar.gk) (n6.trans hr.ar.hk)) hr.vi (X7e _ _)
 ·cases h
end Go.Ab.Sh
