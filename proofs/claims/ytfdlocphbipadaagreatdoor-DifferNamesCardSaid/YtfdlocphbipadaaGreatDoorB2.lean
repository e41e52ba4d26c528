/-
  Those functions as answers of the table. No conditions.
-/
import Derived.Test.YtfdlocphbipadaaGreatDoorB
import Derived.Test.YtfdlocphbipadaaGreatDoorAb5
import Derived.KernelRfl
namespace Go.Ab
open Go
theorem Fr.of_meq {W:List Nat} {m m0 m1:Mem} (e:MEq m m0) (h:Fr W m m1):Fr W m0 m1 where
  next:=by rw [e.next]; exact h.next
  low:=by rw [e.low]; exact h.low
  low2:=fun x h1 h2 h3=>h.low2 x (by rw [← e.low]; exact h1) (by rw [← e.next]; exact h2) h3
  get:=fun b h1 h2=>by rw [e.get]; exact h.get b (by rw [← e.next]; exact h1) h2
  lo:=fun b h1=>by rw [e.get]; exact h.lo b (by rw [← e.next]; exact h1)
theorem Ar.of_meq {I:Ids} {s:ASt} {G H:SB} {m m0:Mem} (e:MEq m m0) (h:Ar I s G H m0):Ar I s G H m:=h.keep (by rw [e.next]; exact Nat.le_refl _) fun w _=>(e.get w).symm
end Go.Ab
namespace Go.Ab.Sh
open Go Go.Ab

noncomputable def ovN:Over:=fun _ _ _=>none
noncomputable def TN:Nat→Tab:=shT fns ovN 18446744073709551616
theorem X4s {f:Nat} {e:Entry Go.Proofs.Tryz.prog} (h1:fns.get (f + 1)=some e) (h2:e.f=f) (d:Nat) (args:List Value) (m:Mem):TN (d + 1) f args m=outOf m (e.h ⟨TN d,18446744073709551616⟩ args (Xc m m.next)):=by
  unfold TN
  rw [Xcu]
  have h3:Nat.beq e.f f=true:=by rw [h2]; exact Nat.beq_refl _
  simp only [ovN,h1,h3]
  rfl
theorem X55 (s:Gt→Value→Value→Mem→Option Rs) (G:Gt) (a0 a1:Value) (m:Mem):arg2 s G [a0,a1] m=s G a0 a1 m:=rfl
theorem X6j (s:Gt→Value→Value→Value→Value→Mem→Option Rs) (G:Gt) (a0 a1 a2 a3:Value) (m:Mem):arg4 s G [a0,a1,a2,a3] m=s G a0 a1 a2 a3 m:=rfl
theorem Xi9 (s:Gt→Value→Value→Value→Value→Value→Mem→Option Rs) (G:Gt) (a0 a1 a2 a3 a4:Value) (m:Mem):arg5 s G [a0,a1,a2,a3,a4] m=s G a0 a1 a2 a3 a4 m:=rfl
theorem Xja (s:Gt→Value→Value→Value→Value→Value→Value→Mem→Option Rs) (G:Gt) (a0 a1 a2 a3 a4 a5:Value) (m:Mem):arg6 s G [a0,a1,a2,a3,a4,a5] m=s G a0 a1 a2 a3 a4 a5 m:=rfl
theorem Xm9:Q19q.h=arg4 (fun G a0 a1 a2 a3 m=>Q2q G a0 a1 a2 a3 m):=by kernel_rfl
theorem Xmn (d:Nat) (a0 a1 a2 a3:Value) (m:Mem):TN (d + 1) Q2r [a0,a1,a2,a3] m=outOf m (Q2q ⟨TN d,18446744073709551616⟩ a0 a1 a2 a3 (Xc m m.next)):=by
  rw [X4s (e:=Q19q) (by kernel_rfl) (by kernel_rfl),Xm9,X6j]
theorem Xkz:Q106.h=arg6 (fun G a0 a1 a2 a3 a4 a5 m=>Q5w G a1 a2 a3 a0 a4 a5 m):=by kernel_rfl
theorem Xkp (d:Nat) (a0 a1 a2 a3 a4 a5:Value) (m:Mem):TN (d + 1) Q7z [a0,a1,a2,a3,a4,a5] m=outOf m (Q5w ⟨TN d,18446744073709551616⟩ a1 a2 a3 a0 a4 a5 (Xc m m.next)):=by
  rw [X4s (e:=Q106) (by kernel_rfl) (by kernel_rfl),Xkz,Xja]
theorem Xmj:Q19r.h=arg4 (fun G a0 a1 a2 a3 m=>Q81 G a0 a1 a2 a3 m):=by kernel_rfl
theorem Xml (d:Nat) (a0 a1 a2 a3:Value) (m:Mem):TN (d + 1) Q82 [a0,a1,a2,a3] m=outOf m (Q81 ⟨TN d,18446744073709551616⟩ a0 a1 a2 a3 (Xc m m.next)):=by
  rw [X4s (e:=Q19r) (by kernel_rfl) (by kernel_rfl),Xmj,X6j]
theorem Xjc:Qwg.h=arg5 (fun G a0 a1 a2 a3 a4 m=>Q28 G a1 a0 a2 a3 a4 m):=by kernel_rfl
theorem Xj5 (d:Nat) (a0 a1 a2 a3 a4:Value) (m:Mem):TN (d + 1) Q2k [a0,a1,a2,a3,a4] m=outOf m (Q28 ⟨TN d,18446744073709551616⟩ a1 a0 a2 a3 a4 (Xc m m.next)):=by
  rw [X4s (e:=Qwg) (by kernel_rfl) (by kernel_rfl),Xjc,Xi9]
theorem Xlt:Q152.h=arg2 (fun G a0 a1 m=>Q4x G a0 a1 m):=by kernel_rfl
theorem Xm1 (d:Nat) (a0 a1:Value) (m:Mem):TN (d + 1) Q6p [a0,a1] m=outOf m (Q4x ⟨TN d,18446744073709551616⟩ a0 a1 (Xc m m.next)):=by
  rw [X4s (e:=Q152) (by kernel_rfl) (by kernel_rfl),Xlt,X55]
theorem Xl9:Qzt.h=arg2 (fun G a0 a1 m=>Q3c G a0 a1 m):=by kernel_rfl
theorem Xkj (d:Nat) (a0 a1:Value) (m:Mem):TN (d + 1) Q32 [a0,a1] m=outOf m (Q3c ⟨TN d,18446744073709551616⟩ a0 a1 (Xc m m.next)):=by
  rw [X4s (e:=Qzt) (by kernel_rfl) (by kernel_rfl),Xl9,X55]
theorem Xmc:Q1a3.h=arg4 (fun G a0 a1 a2 a3 m=>Q85 G a0 a1 a2 a3 m):=by kernel_rfl
theorem Xmf (d:Nat) (a0 a1 a2 a3:Value) (m:Mem):TN (d + 1) Q3k [a0,a1,a2,a3] m=outOf m (Q85 ⟨TN d,18446744073709551616⟩ a0 a1 a2 a3 (Xc m m.next)):=by
  rw [X4s (e:=Q1a3) (by kernel_rfl) (by kernel_rfl),Xmc,X6j]
theorem h_mk:Q1f7.h=arg4 (fun G a0 a1 a2 a3 m=>Q5e G a2 a3 a1 a0 m):=by kernel_rfl
theorem t_mk (d:Nat) (a0 a1 a2 a3:Value) (m:Mem):TN (d + 1) Q9m [a0,a1,a2,a3] m=outOf m (Q5e ⟨TN d,18446744073709551616⟩ a2 a3 a1 a0 (Xc m m.next)):=by
  rw [X4s (e:=Q1f7) (by kernel_rfl) (by kernel_rfl),h_mk,X6j]
theorem Xmp:Q1a6.h=arg2 (fun G a0 a1 m=>Q86 G a0 a1 m):=by kernel_rfl
theorem Xme (d:Nat) (a0 a1:Value) (m:Mem):TN (d + 1) Q7o [a0,a1] m=outOf m (Q86 ⟨TN d,18446744073709551616⟩ a0 a1 (Xc m m.next)):=by
  rw [X4s (e:=Q1a6) (by kernel_rfl) (by kernel_rfl),Xmp,X55]
theorem tbN:Tb TN 18446744073709551616 where
  ite:=fun d a0 a1 a2 a3 m=>Xmn d a0 a1 a2 a3 m
  iteS1:=fun d a0 a1 a2 a3 a4 a5 m=>Xkp d a0 a1 a2 a3 a4 a5 m
  cut:=fun d a0 a1 a2 a3 m=>Xml d a0 a1 a2 a3 m
  giveS1:=fun d a0 a1 a2 a3 a4 m=>Xj5 d a0 a1 a2 a3 a4 m
  give:=fun d a0 a1 m=>Xm1 d a0 a1 m
  check:=fun d a0 a1 m=>Xkj d a0 a1 m
  Ite:=fun d a0 a1 a2 a3 m=>Xmf d a0 a1 a2 a3 m
  Var:=fun d a0 a1 m=>Xme d a0 a1 m
  mkn:=fun d a0 a1 a2 a3 m=>t_mk d a0 a1 a2 a3 m

noncomputable def Xhi:Over:=fun f args m=>match args with | [x,p,q,r]=>bI (Nat.beq f Q2r) (aIte Q14 x p q r m) none | _=>none
noncomputable def Xl1:Over:=fun f args m=>match args with | [x,p,q,r]=>bI (Nat.beq f Q9m) (aMk Q14 x p q r m) none | _=>none
noncomputable def Xc6:Over:=fun f args m=>match args with | [x,p]=>bI (Nat.beq f Q6p) (Xlo Q14 x p m) none | _=>none
noncomputable def Xi0:Over:=fun f args m=>match args with | [x,p,q,r]=>bI (Nat.beq f Q3k) (X4o Q14 x p q r m) none | _=>none

variable {W0:World}
theorem X6m (hm:Go.Proofs.Tryz.prog.follows .mixedOrders=true) (W0:World):∀ n,Xv Go.Proofs.Tryz.prog W0 (TN n):=X61 hm (fns:=fns) Xgq
theorem Xht (n r:Nat):refs n 8 (i32 r)=true:=rfl
theorem X6i (n r:Nat):refs n 8 (.tuple ⟨[.int .i64 (Int.ofNat r),.int .i64 0]⟩)=true:=rfl

theorem Xhz (hm:Go.Proofs.Tryz.prog.follows .mixedOrders=true) (W0:World):Xf Go.Proofs.Tryz.prog W0 Xhi:=by
  refine X1v (X6m hm W0) fun f args m v m' h=>?_
  unfold Xhi at h
  split at h
  . rename_i x p q r
    obtain ⟨hb,h1⟩:=Xi h
    have hf:=Nat.eq_of_beq_eq_true hb
    subst hf
    unfold aIte at h1
    obtain ⟨a,rfl,h2⟩:=X2d h1
    obtain ⟨b,rfl,h3⟩:=X2d h2
    obtain ⟨c,rfl,h4⟩:=X2d h3
    obtain ⟨m0,I,most,s,G,H,e,hr,h5⟩:=X2k h4
    obtain ⟨⟨r',s'⟩,k1,h6⟩:=X11 h5
    rw [X6b] at h6
    cases h6
    have hR:=X3w _ _ _ _ _ _ _ k1
    obtain ⟨D,hl⟩:=Xf9 tbN hr.ty hR (Gs:=G) (H:=H)
    obtain ⟨m1,q1,q2,q3⟩:=hl D (Nat.le_refl _) m (hr.ar.of_meq e)
    obtain ⟨_,_,n1,n2⟩:=hR.mono
    refine ⟨D,m1,by rw [hr.px]; exact q1,X5v e hr.ar (q2.of_meq e) q3 (Xem hr.ar n1 n2 (fun _=>rfl) (fun _=>rfl) hr.ar.gk hr.ar.hk) hr.vi (Xht _ _)⟩
  . cases h
theorem Xiw (hm:Go.Proofs.Tryz.prog.follows .mixedOrders=true) (W0:World):Xf Go.Proofs.Tryz.prog W0 Xl1:=by
  refine X1v (X6m hm W0) fun f args m v m' h=>?_
  unfold Xl1 at h
  split at h
  . rename_i x p q r
    obtain ⟨hb,h1⟩:=Xi h
    have hf:=Nat.eq_of_beq_eq_true hb
    subst hf
    unfold aMk at h1
    obtain ⟨a,rfl,h2⟩:=X2d h1
    obtain ⟨b,rfl,h3⟩:=X2d h2
    obtain ⟨c,rfl,h4⟩:=X2d h3
    obtain ⟨m0,I,most,s,G,H,e,hr,h5⟩:=X2k h4
    obtain ⟨⟨r',s'⟩,k1,h6⟩:=X11 h5
    rw [X6b] at h6
    cases h6
    have hR:=X9d k1
    obtain ⟨m1,q1,q2,q3⟩:=Xcc tbN (hr.ar.of_meq e) hr.ty hR (d:=1) (Nat.le_refl _)
    obtain ⟨_,n1,n2⟩:=hR.mono
    refine ⟨1,m1,by rw [hr.px]; exact q1,X5v e hr.ar (q2.of_meq e) q3 (Xem hr.ar (fun x=>by rw [n1 x]; exact ⟨rfl,rfl,rfl⟩) (fun _=>n2) (fun _=>rfl) (fun _=>rfl) hr.ar.gk hr.ar.hk) hr.vi (Xht _ _)⟩
  . cases h
theorem Xdu {N n most f:Nat} {G H G' H':SB} (h:GiveR N n most G H f G' H'):G'.k=G.k∧H'.k=H.k:=by
  cases h with
  | mk Z =>
    refine ⟨SB.k_add _ _,?_⟩
    generalize Z.l.take (Z.l.length - 2)=l
    induction l with
    | nil=>rfl
    | cons x l ih=>rw [List.foldr_cons,SB.k_add]; exact ih
theorem Xeo (hm:Go.Proofs.Tryz.prog.follows .mixedOrders=true) (W0:World):Xf Go.Proofs.Tryz.prog W0 Xc6:=by
  refine X1v (X6m hm W0) fun f args m v m' h=>?_
  unfold Xc6 at h
  split at h
  . rename_i x p
    obtain ⟨hb,h1⟩:=Xi h
    have hf:=Nat.eq_of_beq_eq_true hb
    subst hf
    unfold Xlo at h1
    obtain ⟨a,rfl,h2⟩:=X2d h1
    obtain ⟨m0,I,most,s,G,H,e,hr,h5⟩:=X2k h2
    cases hs:s with
    | mk N n ver B Im =>
    rw [hs] at h5
    obtain ⟨⟨G',H'⟩,k1,h6⟩:=X11 h5
    rw [X6b] at h6
    cases h6
    have hR:=X47 k1
    have hR':GiveR s.N s.n most G H a G' H':=by rw [hs]; exact hR
    obtain ⟨D,hl⟩:=X92 tbN (by decide) hr.pm hR'
    obtain ⟨m1,q1,q2,q3⟩:=hl D (Nat.le_refl _) m (hr.ar.of_meq e)
    obtain ⟨n1,n2⟩:=hR.mono
    obtain ⟨n3,n4⟩:=Xdu hR
    refine ⟨D,m1,by rw [hr.px]; exact q1,?_⟩
    rw [← hs]
    exact X5v e hr.ar (q2.of_meq e) q3 (Xem hr.ar (fun _=>⟨rfl,rfl,rfl⟩) (fun _=>rfl) n1 n2 (n3.trans hr.ar.gk) (n4.trans hr.ar.hk)) hr.vi (X6i _ _)
  . cases h
theorem Xfl (hm:Go.Proofs.Tryz.prog.follows .mixedOrders=true) (W0:World):Xf Go.Proofs.Tryz.prog W0 Xi0:=by
  refine X1v (X6m hm W0) fun f args m v m' h=>?_
  unfold Xi0 at h
  split at h
  . rename_i x p q r
    obtain ⟨hb,h1⟩:=Xi h
    have hf:=Nat.eq_of_beq_eq_true hb
    subst hf
    unfold X4o at h1
    obtain ⟨a,rfl,h2⟩:=X1f h1
    obtain ⟨b,rfl,h3⟩:=X1f h2
    obtain ⟨c,rfl,h4⟩:=X1f h3
    obtain ⟨l1,h5⟩:=Xi h4
    obtain ⟨l2,h6⟩:=Xi h5
    obtain ⟨l3,h7⟩:=Xi h6
    obtain ⟨m0,I,most,s,G,H,e,hr,h8⟩:=X2k h7
    obtain ⟨g1,h9⟩:=Xi h8
    obtain ⟨g2,h10⟩:=Xi h9
    obtain ⟨g3,h11⟩:=Xi h10
    obtain ⟨⟨r',s'⟩,k1,h12⟩:=X11 h11
    rw [X6b,Xk] at h12
    simp only at h12
    cases hs:s' with
    | mk N n ver B Im =>
    rw [hs] at h12
    obtain ⟨⟨G',H'⟩,k2,h13⟩:=X11 h12
    rw [X6b] at h13
    cases h13
    have hR:=X3w _ _ _ _ _ _ _ k1
    have hG:=X47 k2
    have hG':GiveR s'.N s'.n most G H r' G' H':=by rw [hs]; exact hG
    obtain ⟨D,hl⟩:=Xfj tbN (by decide) hr.ty hr.pm (yblt l1) (yblt l2) (yblt l3) g1 g2 g3 hR hG'
    obtain ⟨m1,q1,q2,q3⟩:=hl D (Nat.le_refl _) m (hr.ar.of_meq e)
    obtain ⟨_,_,n1,n2⟩:=hR.mono
    obtain ⟨n3,n4⟩:=hG.mono
    obtain ⟨n5,n6⟩:=Xdu hG
    refine ⟨D,m1,by rw [hr.px]; exact q1,?_⟩
    rw [← hs]
    exact X5v e hr.ar (q2.of_meq e) q3 (Xem hr.ar n1 n2 n3 n4 (n5.trans hr.ar.gk) (n6.trans hr.ar.hk)) hr.vi (X6i _ _)
  . cases h

noncomputable def X9h:Over:=fun f args m=>match args with | [x,p]=>bI (Nat.beq f Q32) (Xjf Q14 x p m) none | _=>none
noncomputable def Xh2:Over:=fun f args m=>match args with | [x,p]=>bI (Nat.beq f Q7o) (aVar Q14 x p m) none | _=>none
theorem Xc4 (hm:Go.Proofs.Tryz.prog.follows .mixedOrders=true) (W0:World):Xf Go.Proofs.Tryz.prog W0 X9h:=by
  refine X1v (X6m hm W0) fun f args m v m' h=>?_
  unfold X9h at h
  split at h
  . rename_i x p
    obtain ⟨hb,h1⟩:=Xi h
    have hf:=Nat.eq_of_beq_eq_true hb
    subst hf
    unfold Xjf at h1
    obtain ⟨b,n,r,rfl,h2⟩:=Xge h1
    obtain ⟨c,ver,fro,ro,ty,hc,h3⟩:=Xin h2
    obtain ⟨e1,h4⟩:=Xi h3
    obtain ⟨e2,h5⟩:=Xi h4
    obtain ⟨m0,I,most,s,G,H,e,hr,h6⟩:=X2k h5
    obtain ⟨e3,h7⟩:=Xi h6
    cases h7
    have hcg:m.get b=some (.cells c ver fro ro ty):=by rw [Mem.get_def,show m.tr.get (b + 1)=_ from hc]; rfl
    obtain ⟨m1,q1,q2⟩:=Xbp tbN (by decide) (hr.ar.of_meq e) hcg (Nat.eq_of_beq_eq_true e1) (yblt e2) (Xgb c n e3)
    exact ⟨1,m1,by rw [hr.px]; exact q1,X6u e q2 rfl⟩
  . cases h
theorem Xfr (hm:Go.Proofs.Tryz.prog.follows .mixedOrders=true) (W0:World):Xf Go.Proofs.Tryz.prog W0 Xh2:=by
  refine X1v (X6m hm W0) fun f args m v m' h=>?_
  unfold Xh2 at h
  split at h
  . rename_i x p
    obtain ⟨hb,h1⟩:=Xi h
    have hf:=Nat.eq_of_beq_eq_true hb
    subst hf
    unfold aVar at h1
    obtain ⟨a,rfl,h2⟩:=X1f h1
    obtain ⟨l1,h5⟩:=Xi h2
    obtain ⟨m0,I,most,s,G,H,e,hr,h8⟩:=X2k h5
    obtain ⟨nv,hv,h9⟩:=X1f h8
    obtain ⟨l2,h10⟩:=Xi h9
    obtain ⟨⟨r',s'⟩,k1,h12⟩:=X11 h10
    rw [X6b,Xk] at h12
    simp only at h12
    cases hs:s' with
    | mk N n ver B Im =>
    rw [hs] at h12
    obtain ⟨⟨G',H'⟩,k2,h13⟩:=X11 h12
    rw [X6b] at h13
    cases h13
    have hR:=X9d k1
    have hG:=X47 k2
    have hG':GiveR s'.N s'.n most G H r' G' H':=by rw [hs]; exact hG
    obtain ⟨D,hl⟩:=Xlj tbN (by decide) hr.ty hr.pm hv (yblt l2) (yblt l1) hR hG'
    obtain ⟨m1,q1,q2,q3⟩:=hl D (Nat.le_refl _) m (hr.ar.of_meq e)
    obtain ⟨_,n1,n2⟩:=hR.mono
    obtain ⟨n3,n4⟩:=hG.mono
    obtain ⟨n5,n6⟩:=Xdu hG
    refine ⟨D,m1,by rw [hr.px]; exact q1,?_⟩
    rw [← hs]
    exact X5v e hr.ar (q2.of_meq e) q3 (Xem hr.ar (fun x=>by rw [n1 x]; exact ⟨rfl,rfl,rfl⟩) (fun _=>n2) n3 n4 (n5.trans hr.ar.gk) (n6.trans hr.ar.hk)) hr.vi (X6i _ _)
  . cases h
end Go.Ab.Sh
