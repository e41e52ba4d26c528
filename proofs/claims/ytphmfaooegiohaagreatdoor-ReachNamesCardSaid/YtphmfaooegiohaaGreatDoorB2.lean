/-
  Those functions as answers of the table. No conditions.
-/
import Derived.Test.YtphmfaooegiohaaGreatDoorB
import Derived.Test.YtphmfaooegiohaaGreatDoorAb5
import Derived.KernelRfl
namespace Go.Ab
open Go
theorem Fr.of_meq {W : List Nat} {m m0 m1 : Mem} (e : MEq m m0) (h : Fr W m m1) : Fr W m0 m1 where
  next := by rw [e.next]; exact h.next
  low := by rw [e.low]; exact h.low
  low2 := fun x h1 h2 h3 => h.low2 x (by rw [← e.low]; exact h1) (by rw [← e.next]; exact h2) h3
  get := fun b h1 h2 => by rw [e.get]; exact h.get b (by rw [← e.next]; exact h1) h2
  lo := fun b h1 => by rw [e.get]; exact h.lo b (by rw [← e.next]; exact h1)
theorem Ar.of_meq {I : Ids} {s : ASt} {G H : SB} {m m0 : Mem} (e : MEq m m0) (h : Ar I s G H m0) : Ar I s G H m := h.keep (by rw [e.next]; exact Nat.le_refl _) fun w _ => (e.get w).symm
end Go.Ab
namespace Go.Ab.Sh
open Go Go.Ab

noncomputable def ovN : Over := fun _ _ _ => none
noncomputable def TN : Nat → Tab := shT fns ovN 18446744073709551616
theorem X4e {f : Nat} {e : Entry Go.Proofs.Tryz.prog} (h1 : fns.get (f + 1) = some e) (h2 : e.f = f) (d : Nat) (args : List Value) (m : Mem) : TN (d + 1) f args m = outOf m (e.h ⟨TN d, 18446744073709551616⟩ args (Xb m m.next)) := by
  unfold TN
  rw [Xcx]
  have h3 : Nat.beq e.f f = true := by rw [h2]; exact Nat.beq_refl _
  simp only [ovN, h1, h3]
  rfl
theorem X4q (s : Gt → Value → Value → Mem → Option Rs) (G : Gt) (a0 a1 : Value) (m : Mem) : arg2 s G [a0, a1] m = s G a0 a1 m := rfl
theorem X6a (s : Gt → Value → Value → Value → Value → Mem → Option Rs) (G : Gt) (a0 a1 a2 a3 : Value) (m : Mem) : arg4 s G [a0, a1, a2, a3] m = s G a0 a1 a2 a3 m := rfl
theorem Xhz (s : Gt → Value → Value → Value → Value → Value → Mem → Option Rs) (G : Gt) (a0 a1 a2 a3 a4 : Value) (m : Mem) : arg5 s G [a0, a1, a2, a3, a4] m = s G a0 a1 a2 a3 a4 m := rfl
theorem Xi1 (s : Gt → Value → Value → Value → Value → Value → Value → Mem → Option Rs) (G : Gt) (a0 a1 a2 a3 a4 a5 : Value) (m : Mem) : arg6 s G [a0, a1, a2, a3, a4, a5] m = s G a0 a1 a2 a3 a4 a5 m := rfl
theorem Xm6 : Q181.h = arg4 (fun G a0 a1 a2 a3 m => Q2l G a0 a1 a2 a3 m) := by kernel_rfl
theorem Xmf (d : Nat) (a0 a1 a2 a3 : Value) (m : Mem) : TN (d + 1) Q2m [a0, a1, a2, a3] m = outOf m (Q2l ⟨TN d, 18446744073709551616⟩ a0 a1 a2 a3 (Xb m m.next)) := by
  rw [X4e (e := Q181) (by kernel_rfl) (by kernel_rfl), Xm6, X6a]
theorem Xk7 : Qyj.h = arg6 (fun G a0 a1 a2 a3 a4 a5 m => Q5r G a1 a2 a3 a0 a4 a5 m) := by kernel_rfl
theorem Xka (d : Nat) (a0 a1 a2 a3 a4 a5 : Value) (m : Mem) : TN (d + 1) Q7f [a0, a1, a2, a3, a4, a5] m = outOf m (Q5r ⟨TN d, 18446744073709551616⟩ a1 a2 a3 a0 a4 a5 (Xb m m.next)) := by
  rw [X4e (e := Qyj) (by kernel_rfl) (by kernel_rfl), Xk7, Xi1]
theorem Xmd : Q18f.h = arg4 (fun G a0 a1 a2 a3 m => Q7l G a0 a1 a2 a3 m) := by kernel_rfl
theorem Xmk (d : Nat) (a0 a1 a2 a3 : Value) (m : Mem) : TN (d + 1) Qbw [a0, a1, a2, a3] m = outOf m (Q7l ⟨TN d, 18446744073709551616⟩ a0 a1 a2 a3 (Xb m m.next)) := by
  rw [X4e (e := Q18f) (by kernel_rfl) (by kernel_rfl), Xmd, X6a]
theorem Xj0 : Qv1.h = arg5 (fun G a0 a1 a2 a3 a4 m => Q23 G a1 a0 a2 a3 a4 m) := by kernel_rfl
theorem Xil (d : Nat) (a0 a1 a2 a3 a4 : Value) (m : Mem) : TN (d + 1) Q2g [a0, a1, a2, a3, a4] m = outOf m (Q23 ⟨TN d, 18446744073709551616⟩ a1 a0 a2 a3 a4 (Xb m m.next)) := by
  rw [X4e (e := Qv1) (by kernel_rfl) (by kernel_rfl), Xj0, Xhz]
theorem Xm4 : Q138.h = arg2 (fun G a0 a1 m => Q4q G a0 a1 m) := by kernel_rfl
theorem Xlx (d : Nat) (a0 a1 : Value) (m : Mem) : TN (d + 1) Q6i [a0, a1] m = outOf m (Q4q ⟨TN d, 18446744073709551616⟩ a0 a1 (Xb m m.next)) := by
  rw [X4e (e := Q138) (by kernel_rfl) (by kernel_rfl), Xm4, X4q]
theorem Xkg : Qzw.h = arg2 (fun G a0 a1 m => Q36 G a0 a1 m) := by kernel_rfl
theorem Xke (d : Nat) (a0 a1 : Value) (m : Mem) : TN (d + 1) Q35 [a0, a1] m = outOf m (Q36 ⟨TN d, 18446744073709551616⟩ a0 a1 (Xb m m.next)) := by
  rw [X4e (e := Qzw) (by kernel_rfl) (by kernel_rfl), Xkg, X4q]
theorem Xml : Q187.h = arg4 (fun G a0 a1 a2 a3 m => Q7m G a0 a1 a2 a3 m) := by kernel_rfl
theorem Xm7 (d : Nat) (a0 a1 a2 a3 : Value) (m : Mem) : TN (d + 1) Q3f [a0, a1, a2, a3] m = outOf m (Q7m ⟨TN d, 18446744073709551616⟩ a0 a1 a2 a3 (Xb m m.next)) := by
  rw [X4e (e := Q187) (by kernel_rfl) (by kernel_rfl), Xml, X6a]
theorem h_mk : Q1de.h = arg4 (fun G a0 a1 a2 a3 m => Q57 G a2 a3 a1 a0 m) := by kernel_rfl
theorem t_mk (d : Nat) (a0 a1 a2 a3 : Value) (m : Mem) : TN (d + 1) Q99 [a0, a1, a2, a3] m = outOf m (Q57 ⟨TN d, 18446744073709551616⟩ a2 a3 a1 a0 (Xb m m.next)) := by
  rw [X4e (e := Q1de) (by kernel_rfl) (by kernel_rfl), h_mk, X6a]
theorem Xmm : Q18g.h = arg2 (fun G a0 a1 m => Q7o G a0 a1 m) := by kernel_rfl
theorem Xme (d : Nat) (a0 a1 : Value) (m : Mem) : TN (d + 1) Q7n [a0, a1] m = outOf m (Q7o ⟨TN d, 18446744073709551616⟩ a0 a1 (Xb m m.next)) := by
  rw [X4e (e := Q18g) (by kernel_rfl) (by kernel_rfl), Xmm, X4q]
theorem tbN : Tb TN 18446744073709551616 where
  ite := fun d a0 a1 a2 a3 m => Xmf d a0 a1 a2 a3 m
  iteS1 := fun d a0 a1 a2 a3 a4 a5 m => Xka d a0 a1 a2 a3 a4 a5 m
  cut := fun d a0 a1 a2 a3 m => Xmk d a0 a1 a2 a3 m
  giveS1 := fun d a0 a1 a2 a3 a4 m => Xil d a0 a1 a2 a3 a4 m
  give := fun d a0 a1 m => Xlx d a0 a1 m
  check := fun d a0 a1 m => Xke d a0 a1 m
  Ite := fun d a0 a1 a2 a3 m => Xm7 d a0 a1 a2 a3 m
  Var := fun d a0 a1 m => Xme d a0 a1 m
  mkn := fun d a0 a1 a2 a3 m => t_mk d a0 a1 a2 a3 m

noncomputable def Xgm : Over := fun f args m => match args with | [x, p, q, r] => bI (Nat.beq f Q2m) (aIte Q13 x p q r m) none | _ => none
noncomputable def Xll : Over := fun f args m => match args with | [x, p, q, r] => bI (Nat.beq f Q99) (aMk Q13 x p q r m) none | _ => none
noncomputable def Xc7 : Over := fun f args m => match args with | [x, p] => bI (Nat.beq f Q6i) (Xln Q13 x p m) none | _ => none
noncomputable def Xg9 : Over := fun f args m => match args with | [x, p, q, r] => bI (Nat.beq f Q3f) (X4i Q13 x p q r m) none | _ => none

variable {W0 : World}
theorem X7c (hm : Go.Proofs.Tryz.prog.follows .mixedOrders = true) (W0 : World) : ∀ n, Xv Go.Proofs.Tryz.prog W0 (TN n) := Xai hm (fns := fns) Xfg
theorem Xhr (n r : Nat) : refs n 8 (i32 r) = true := rfl
theorem X67 (n r : Nat) : refs n 8 (.tuple ⟨[.int .i64 (Int.ofNat r), .int .i64 0]⟩) = true := rfl

theorem Xfi (hm : Go.Proofs.Tryz.prog.follows .mixedOrders = true) (W0 : World) : Xm Go.Proofs.Tryz.prog W0 Xgm := by
  refine X1s (X7c hm W0) fun f args m v m' h => ?_
  unfold Xgm at h
  split at h
  . rename_i x p q r
    obtain ⟨hb, h1⟩ := Xh h
    have hf := Nat.eq_of_beq_eq_true hb
    subst hf
    unfold aIte at h1
    obtain ⟨a, rfl, h2⟩ := X27 h1
    obtain ⟨b, rfl, h3⟩ := X27 h2
    obtain ⟨c, rfl, h4⟩ := X27 h3
    obtain ⟨m0, I, most, s, G, H, e, hr, h5⟩ := X29 h4
    obtain ⟨⟨r', s'⟩, k1, h6⟩ := Xy h5
    rw [X64] at h6
    cases h6
    have hR := X3r _ _ _ _ _ _ _ k1
    obtain ⟨D, hl⟩ := Xhq tbN hr.ty hR (Gs := G) (H := H)
    obtain ⟨m1, q1, q2, q3⟩ := hl D (Nat.le_refl _) m (hr.ar.of_meq e)
    obtain ⟨_, _, n1, n2⟩ := hR.mono
    refine ⟨D, m1, by rw [hr.px]; exact q1, X57 e hr.ar (q2.of_meq e) q3 (Xev hr.ar n1 n2 (fun _ => rfl) (fun _ => rfl) hr.ar.gk hr.ar.hk) hr.vi (Xhr _ _)⟩
  . cases h
theorem Xih (hm : Go.Proofs.Tryz.prog.follows .mixedOrders = true) (W0 : World) : Xm Go.Proofs.Tryz.prog W0 Xll := by
  refine X1s (X7c hm W0) fun f args m v m' h => ?_
  unfold Xll at h
  split at h
  . rename_i x p q r
    obtain ⟨hb, h1⟩ := Xh h
    have hf := Nat.eq_of_beq_eq_true hb
    subst hf
    unfold aMk at h1
    obtain ⟨a, rfl, h2⟩ := X27 h1
    obtain ⟨b, rfl, h3⟩ := X27 h2
    obtain ⟨c, rfl, h4⟩ := X27 h3
    obtain ⟨m0, I, most, s, G, H, e, hr, h5⟩ := X29 h4
    obtain ⟨⟨r', s'⟩, k1, h6⟩ := Xy h5
    rw [X64] at h6
    cases h6
    have hR := X8i k1
    obtain ⟨m1, q1, q2, q3⟩ := Xbd tbN (hr.ar.of_meq e) hr.ty hR (d := 1) (Nat.le_refl _)
    obtain ⟨_, n1, n2⟩ := hR.mono
    refine ⟨1, m1, by rw [hr.px]; exact q1, X57 e hr.ar (q2.of_meq e) q3 (Xev hr.ar (fun x => by rw [n1 x]; exact ⟨rfl, rfl, rfl⟩) (fun _ => n2) (fun _ => rfl) (fun _ => rfl) hr.ar.gk hr.ar.hk) hr.vi (Xhr _ _)⟩
  . cases h
theorem Xdk {N n most f : Nat} {G H G' H' : SB} (h : GiveR N n most G H f G' H') : G'.k = G.k ∧ H'.k = H.k := by
  cases h with
  | mk Z =>
    refine ⟨SB.k_add _ _, ?_⟩
    generalize Z.l.take (Z.l.length - 2) = l
    induction l with
    | nil => rfl
    | cons x l ih => rw [List.foldr_cons, SB.k_add]; exact ih
theorem Xdx (hm : Go.Proofs.Tryz.prog.follows .mixedOrders = true) (W0 : World) : Xm Go.Proofs.Tryz.prog W0 Xc7 := by
  refine X1s (X7c hm W0) fun f args m v m' h => ?_
  unfold Xc7 at h
  split at h
  . rename_i x p
    obtain ⟨hb, h1⟩ := Xh h
    have hf := Nat.eq_of_beq_eq_true hb
    subst hf
    unfold Xln at h1
    obtain ⟨a, rfl, h2⟩ := X27 h1
    obtain ⟨m0, I, most, s, G, H, e, hr, h5⟩ := X29 h2
    cases hs : s with
    | mk N n ver B Im =>
    rw [hs] at h5
    obtain ⟨⟨G', H'⟩, k1, h6⟩ := Xy h5
    rw [X64] at h6
    cases h6
    have hR := X44 k1
    have hR' : GiveR s.N s.n most G H a G' H' := by rw [hs]; exact hR
    obtain ⟨D, hl⟩ := X8v tbN (by decide) hr.pm hR'
    obtain ⟨m1, q1, q2, q3⟩ := hl D (Nat.le_refl _) m (hr.ar.of_meq e)
    obtain ⟨n1, n2⟩ := hR.mono
    obtain ⟨n3, n4⟩ := Xdk hR
    refine ⟨D, m1, by rw [hr.px]; exact q1, ?_⟩
    rw [← hs]
    exact X57 e hr.ar (q2.of_meq e) q3 (Xev hr.ar (fun _ => ⟨rfl, rfl, rfl⟩) (fun _ => rfl) n1 n2 (n3.trans hr.ar.gk) (n4.trans hr.ar.hk)) hr.vi (X67 _ _)
  . cases h
theorem Xf2 (hm : Go.Proofs.Tryz.prog.follows .mixedOrders = true) (W0 : World) : Xm Go.Proofs.Tryz.prog W0 Xg9 := by
  refine X1s (X7c hm W0) fun f args m v m' h => ?_
  unfold Xg9 at h
  split at h
  . rename_i x p q r
    obtain ⟨hb, h1⟩ := Xh h
    have hf := Nat.eq_of_beq_eq_true hb
    subst hf
    unfold X4i at h1
    obtain ⟨a, rfl, h2⟩ := X1b h1
    obtain ⟨b, rfl, h3⟩ := X1b h2
    obtain ⟨c, rfl, h4⟩ := X1b h3
    obtain ⟨l1, h5⟩ := Xh h4
    obtain ⟨l2, h6⟩ := Xh h5
    obtain ⟨l3, h7⟩ := Xh h6
    obtain ⟨m0, I, most, s, G, H, e, hr, h8⟩ := X29 h7
    obtain ⟨g1, h9⟩ := Xh h8
    obtain ⟨g2, h10⟩ := Xh h9
    obtain ⟨g3, h11⟩ := Xh h10
    obtain ⟨⟨r', s'⟩, k1, h12⟩ := Xy h11
    rw [X64, Xi] at h12
    simp only at h12
    cases hs : s' with
    | mk N n ver B Im =>
    rw [hs] at h12
    obtain ⟨⟨G', H'⟩, k2, h13⟩ := Xy h12
    rw [X64] at h13
    cases h13
    have hR := X3r _ _ _ _ _ _ _ k1
    have hG := X44 k2
    have hG' : GiveR s'.N s'.n most G H r' G' H' := by rw [hs]; exact hG
    obtain ⟨D, hl⟩ := Xg0 tbN (by decide) hr.ty hr.pm (yblt l1) (yblt l2) (yblt l3) g1 g2 g3 hR hG'
    obtain ⟨m1, q1, q2, q3⟩ := hl D (Nat.le_refl _) m (hr.ar.of_meq e)
    obtain ⟨_, _, n1, n2⟩ := hR.mono
    obtain ⟨n3, n4⟩ := hG.mono
    obtain ⟨n5, n6⟩ := Xdk hG
    refine ⟨D, m1, by rw [hr.px]; exact q1, ?_⟩
    rw [← hs]
    exact X57 e hr.ar (q2.of_meq e) q3 (Xev hr.ar n1 n2 n3 n4 (n5.trans hr.ar.gk) (n6.trans hr.ar.hk)) hr.vi (X67 _ _)
  . cases h

noncomputable def X8y : Over := fun f args m => match args with | [x, p] => bI (Nat.beq f Q35) (Xjh Q13 x p m) none | _ => none
noncomputable def Xhs : Over := fun f args m => match args with | [x, p] => bI (Nat.beq f Q7n) (aVar Q13 x p m) none | _ => none
theorem Xbl (hm : Go.Proofs.Tryz.prog.follows .mixedOrders = true) (W0 : World) : Xm Go.Proofs.Tryz.prog W0 X8y := by
  refine X1s (X7c hm W0) fun f args m v m' h => ?_
  unfold X8y at h
  split at h
  . rename_i x p
    obtain ⟨hb, h1⟩ := Xh h
    have hf := Nat.eq_of_beq_eq_true hb
    subst hf
    unfold Xjh at h1
    obtain ⟨b, n, r, rfl, h2⟩ := Xfh h1
    obtain ⟨c, ver, fro, ro, ty, hc, h3⟩ := Xij h2
    obtain ⟨e1, h4⟩ := Xh h3
    obtain ⟨e2, h5⟩ := Xh h4
    obtain ⟨m0, I, most, s, G, H, e, hr, h6⟩ := X29 h5
    obtain ⟨e3, h7⟩ := Xh h6
    cases h7
    have hcg : m.get b = some (.cells c ver fro ro ty) := by rw [Mem.get_def, show m.tr.get (b + 1) = _ from hc]; rfl
    obtain ⟨m1, q1, q2⟩ := Xbm tbN (by decide) (hr.ar.of_meq e) hcg (Nat.eq_of_beq_eq_true e1) (yblt e2) (Xfj c n e3)
    exact ⟨1, m1, by rw [hr.px]; exact q1, X73 e q2 rfl⟩
  . cases h
theorem Xfw (hm : Go.Proofs.Tryz.prog.follows .mixedOrders = true) (W0 : World) : Xm Go.Proofs.Tryz.prog W0 Xhs := by
  refine X1s (X7c hm W0) fun f args m v m' h => ?_
  unfold Xhs at h
  split at h
  . rename_i x p
    obtain ⟨hb, h1⟩ := Xh h
    have hf := Nat.eq_of_beq_eq_true hb
    subst hf
    unfold aVar at h1
    obtain ⟨a, rfl, h2⟩ := X1b h1
    obtain ⟨l1, h5⟩ := Xh h2
    obtain ⟨m0, I, most, s, G, H, e, hr, h8⟩ := X29 h5
    obtain ⟨nv, hv, h9⟩ := X1b h8
    obtain ⟨l2, h10⟩ := Xh h9
    obtain ⟨⟨r', s'⟩, k1, h12⟩ := Xy h10
    rw [X64, Xi] at h12
    simp only at h12
    cases hs : s' with
    | mk N n ver B Im =>
    rw [hs] at h12
    obtain ⟨⟨G', H'⟩, k2, h13⟩ := Xy h12
    rw [X64] at h13
    cases h13
    have hR := X8i k1
    have hG := X44 k2
    have hG' : GiveR s'.N s'.n most G H r' G' H' := by rw [hs]; exact hG
    obtain ⟨D, hl⟩ := Xkt tbN (by decide) hr.ty hr.pm hv (yblt l2) (yblt l1) hR hG'
    obtain ⟨m1, q1, q2, q3⟩ := hl D (Nat.le_refl _) m (hr.ar.of_meq e)
    obtain ⟨_, n1, n2⟩ := hR.mono
    obtain ⟨n3, n4⟩ := hG.mono
    obtain ⟨n5, n6⟩ := Xdk hG
    refine ⟨D, m1, by rw [hr.px]; exact q1, ?_⟩
    rw [← hs]
    exact X57 e hr.ar (q2.of_meq e) q3 (Xev hr.ar (fun x => by rw [n1 x]; exact ⟨rfl, rfl, rfl⟩) (fun _ => n2) n3 n4 (n5.trans hr.ar.gk) (n6.trans hr.ar.hk)) hr.vi (X67 _ _)
  . cases h
end Go.Ab.Sh
