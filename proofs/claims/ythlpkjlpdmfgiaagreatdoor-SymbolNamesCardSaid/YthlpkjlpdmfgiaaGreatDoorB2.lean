/-
  Those functions as answers of the table. No conditions.
-/
import Derived.Test.YthlpkjlpdmfgiaaGreatDoorB
import Derived.Test.YthlpkjlpdmfgiaaGreatDoorAb5
import Derived.KernelRfl
namespace Go.Ab
open Go
theorem Fr.of_meq {W : List Nat} {m m0 m1 : Mem} (e : MEq m m0) (h : Fr W m m1) : Fr W m0 m1 where
  next := by rw [e.next]; exact h.next
  low := by rw [e.low]; exact h.low
  low2 := fun x h1 h2 h3 => h.low2 x (by rw [← e.low]; exact h1) (by rw [← e.next]; exact h2) h3
  get := fun b h1 h2 => by rw [e.get]; exact h.get b (by rw [← e.next]; exact h1) h2
  lo := fun b h1 => by rw [e.get]; exact h.lo b (by rw [← e.next]; exact h1)
theorem Ar.of_meq {I : Ids} {s : ASt} {G H : SB} {m m0 : Mem} (e : MEq m m0) (h : Ar I s G H m0) : Ar I s G H m := h.keep (by rw [e.next]; exact Nat.le_refl _) fun w _ => (e.get w).symm
end Go.Ab
namespace Go.Ab.Sh
open Go Go.Ab

noncomputable def ovN : Over := fun _ _ _ => none
noncomputable def TN : Nat → Tab := shT fns ovN 18446744073709551616
theorem tb_of {f : Nat} {e : Entry Go.Proofs.Tryz.prog} (h1 : fns.get (f + 1) = some e) (h2 : e.f = f) (d : Nat) (args : List Value) (m : Mem) : TN (d + 1) f args m = outOf m (e.h ⟨TN d, 18446744073709551616⟩ args (withLow m m.next)) := by
  unfold TN
  rw [shT_succ]
  have h3 : Nat.beq e.f f = true := by rw [h2]; exact Nat.beq_refl _
  simp only [ovN, h1, h3]
  rfl
theorem arg2_app (s : Gt → Value → Value → Mem → Option Rs) (G : Gt) (a0 a1 : Value) (m : Mem) : arg2 s G [a0, a1] m = s G a0 a1 m := rfl
theorem arg4_app (s : Gt → Value → Value → Value → Value → Mem → Option Rs) (G : Gt) (a0 a1 a2 a3 : Value) (m : Mem) : arg4 s G [a0, a1, a2, a3] m = s G a0 a1 a2 a3 m := rfl
theorem arg5_app (s : Gt → Value → Value → Value → Value → Value → Mem → Option Rs) (G : Gt) (a0 a1 a2 a3 a4 : Value) (m : Mem) : arg5 s G [a0, a1, a2, a3, a4] m = s G a0 a1 a2 a3 a4 m := rfl
theorem arg6_app (s : Gt → Value → Value → Value → Value → Value → Value → Mem → Option Rs) (G : Gt) (a0 a1 a2 a3 a4 a5 : Value) (m : Mem) : arg6 s G [a0, a1, a2, a3, a4, a5] m = s G a0 a1 a2 a3 a4 a5 m := rfl
theorem h_ite : Qzy.h = arg4 (fun G a0 a1 a2 a3 m => Q24 G a0 a1 a2 a3 m) := by kernel_rfl
theorem t_ite (d : Nat) (a0 a1 a2 a3 : Value) (m : Mem) : TN (d + 1) Q25 [a0, a1, a2, a3] m = outOf m (Q24 ⟨TN d, 18446744073709551616⟩ a0 a1 a2 a3 (withLow m m.next)) := by
  rw [tb_of (e := Qzy) (by kernel_rfl) (by kernel_rfl), h_ite, arg4_app]
theorem h_iteS1 : Qtm.h = arg6 (fun G a0 a1 a2 a3 a4 a5 m => Q4q G a1 a2 a3 a0 a4 a5 m) := by kernel_rfl
theorem t_iteS1 (d : Nat) (a0 a1 a2 a3 a4 a5 : Value) (m : Mem) : TN (d + 1) Q6h [a0, a1, a2, a3, a4, a5] m = outOf m (Q4q ⟨TN d, 18446744073709551616⟩ a1 a2 a3 a0 a4 a5 (withLow m m.next)) := by
  rw [tb_of (e := Qtm) (by kernel_rfl) (by kernel_rfl), h_iteS1, arg6_app]
theorem h_cut : Qzv.h = arg4 (fun G a0 a1 a2 a3 m => Q6i G a0 a1 a2 a3 m) := by kernel_rfl
theorem t_cut (d : Nat) (a0 a1 a2 a3 : Value) (m : Mem) : TN (d + 1) Q64 [a0, a1, a2, a3] m = outOf m (Q6i ⟨TN d, 18446744073709551616⟩ a0 a1 a2 a3 (withLow m m.next)) := by
  rw [tb_of (e := Qzv) (by kernel_rfl) (by kernel_rfl), h_cut, arg4_app]
theorem h_giveS1 : Qqo.h = arg5 (fun G a0 a1 a2 a3 a4 m => Q1p G a1 a0 a2 a3 a4 m) := by kernel_rfl
theorem t_giveS1 (d : Nat) (a0 a1 a2 a3 a4 : Value) (m : Mem) : TN (d + 1) Q1z [a0, a1, a2, a3, a4] m = outOf m (Q1p ⟨TN d, 18446744073709551616⟩ a1 a0 a2 a3 a4 (withLow m m.next)) := by
  rw [tb_of (e := Qqo) (by kernel_rfl) (by kernel_rfl), h_giveS1, arg5_app]
theorem h_give : Qwh.h = arg2 (fun G a0 a1 m => Q41 G a0 a1 m) := by kernel_rfl
theorem t_give (d : Nat) (a0 a1 : Value) (m : Mem) : TN (d + 1) Q5c [a0, a1] m = outOf m (Q41 ⟨TN d, 18446744073709551616⟩ a0 a1 (withLow m m.next)) := by
  rw [tb_of (e := Qwh) (by kernel_rfl) (by kernel_rfl), h_give, arg2_app]
theorem h_check : Qto.h = arg2 (fun G a0 a1 m => Q2i G a0 a1 m) := by kernel_rfl
theorem t_check (d : Nat) (a0 a1 : Value) (m : Mem) : TN (d + 1) Q29 [a0, a1] m = outOf m (Q2i ⟨TN d, 18446744073709551616⟩ a0 a1 (withLow m m.next)) := by
  rw [tb_of (e := Qto) (by kernel_rfl) (by kernel_rfl), h_check, arg2_app]
theorem h_Ite : Qzx.h = arg4 (fun G a0 a1 a2 a3 m => Q6j G a0 a1 a2 a3 m) := by kernel_rfl
theorem t_Ite (d : Nat) (a0 a1 a2 a3 : Value) (m : Mem) : TN (d + 1) Q2q [a0, a1, a2, a3] m = outOf m (Q6j ⟨TN d, 18446744073709551616⟩ a0 a1 a2 a3 (withLow m m.next)) := by
  rw [tb_of (e := Qzx) (by kernel_rfl) (by kernel_rfl), h_Ite, arg4_app]
theorem h_mk : Q12f.h = arg4 (fun G a0 a1 a2 a3 m => Q49 G a2 a3 a1 a0 m) := by kernel_rfl
theorem t_mk (d : Nat) (a0 a1 a2 a3 : Value) (m : Mem) : TN (d + 1) Q7s [a0, a1, a2, a3] m = outOf m (Q49 ⟨TN d, 18446744073709551616⟩ a2 a3 a1 a0 (withLow m m.next)) := by
  rw [tb_of (e := Q12f) (by kernel_rfl) (by kernel_rfl), h_mk, arg4_app]
theorem h_Var : Qzo.h = arg2 (fun G a0 a1 m => Q6k G a0 a1 m) := by kernel_rfl
theorem t_Var (d : Nat) (a0 a1 : Value) (m : Mem) : TN (d + 1) Q67 [a0, a1] m = outOf m (Q6k ⟨TN d, 18446744073709551616⟩ a0 a1 (withLow m m.next)) := by
  rw [tb_of (e := Qzo) (by kernel_rfl) (by kernel_rfl), h_Var, arg2_app]
theorem tbN : Tb TN 18446744073709551616 where
  ite := fun d a0 a1 a2 a3 m => t_ite d a0 a1 a2 a3 m
  iteS1 := fun d a0 a1 a2 a3 a4 a5 m => t_iteS1 d a0 a1 a2 a3 a4 a5 m
  cut := fun d a0 a1 a2 a3 m => t_cut d a0 a1 a2 a3 m
  giveS1 := fun d a0 a1 a2 a3 a4 m => t_giveS1 d a0 a1 a2 a3 a4 m
  give := fun d a0 a1 m => t_give d a0 a1 m
  check := fun d a0 a1 m => t_check d a0 a1 m
  Ite := fun d a0 a1 a2 a3 m => t_Ite d a0 a1 a2 a3 m
  Var := fun d a0 a1 m => t_Var d a0 a1 m
  mkn := fun d a0 a1 a2 a3 m => t_mk d a0 a1 a2 a3 m

noncomputable def ovBIte : Over := fun f args m => match args with | [x, p, q, r] => bI (Nat.beq f Q25) (aIte Qu x p q r m) none | _ => none
noncomputable def ovBMk : Over := fun f args m => match args with | [x, p, q, r] => bI (Nat.beq f Q7s) (aMk Qu x p q r m) none | _ => none
noncomputable def ovBGive : Over := fun f args m => match args with | [x, p] => bI (Nat.beq f Q5c) (aGive Qu x p m) none | _ => none
noncomputable def ovBTop : Over := fun f args m => match args with | [x, p, q, r] => bI (Nat.beq f Q2q) (aIteTop Qu x p q r m) none | _ => none

variable {W0 : World}
theorem tn_ok (hm : Go.Proofs.Tryz.prog.follows .mixedOrders = true) (W0 : World) : ∀ n, TabSound Go.Proofs.Tryz.prog W0 (TN n) := shT_ok hm (fns := fns) none_ok
theorem ref_i32 (n r : Nat) : refs n 8 (i32 r) = true := rfl
theorem ref_pair (n r : Nat) : refs n 8 (.tuple ⟨[.int .i64 (Int.ofNat r), .int .i64 0]⟩) = true := rfl

theorem ovBIte_ok (hm : Go.Proofs.Tryz.prog.follows .mixedOrders = true) (W0 : World) : OvSound Go.Proofs.Tryz.prog W0 ovBIte := by
  refine ov_drops (tn_ok hm W0) fun f args m v m' h => ?_
  unfold ovBIte at h
  split at h
  · rename_i x p q r
    obtain ⟨hb, h1⟩ := bI_some h
    have hf := Nat.eq_of_beq_eq_true hb
    subst hf
    unfold aIte at h1
    obtain ⟨a, rfl, h2⟩ := vN32_some h1
    obtain ⟨b, rfl, h3⟩ := vN32_some h2
    obtain ⟨c, rfl, h4⟩ := vN32_some h3
    obtain ⟨m0, I, most, s, G, H, e, hr, h5⟩ := ansA_some h4
    obtain ⟨⟨r', s'⟩, k1, h6⟩ := oI_some h5
    rw [pI_eq] at h6
    cases h6
    have hR := iteP_some _ _ _ _ _ _ _ k1
    obtain ⟨D, hl⟩ := ite_law tbN hr.ty hR (Gs := G) (H := H)
    obtain ⟨m1, q1, q2, q3⟩ := hl D (Nat.le_refl _) m (hr.ar.of_meq e)
    obtain ⟨_, _, n1, n2⟩ := hR.mono
    refine ⟨D, m1, by rw [hr.px]; exact q1, drop_of e hr.ar (q2.of_meq e) q3 (wr_ok hr.ar n1 n2 (fun _ => rfl) (fun _ => rfl) hr.ar.gk hr.ar.hk) hr.vi (ref_i32 _ _)⟩
  · cases h
theorem ovBMk_ok (hm : Go.Proofs.Tryz.prog.follows .mixedOrders = true) (W0 : World) : OvSound Go.Proofs.Tryz.prog W0 ovBMk := by
  refine ov_drops (tn_ok hm W0) fun f args m v m' h => ?_
  unfold ovBMk at h
  split at h
  · rename_i x p q r
    obtain ⟨hb, h1⟩ := bI_some h
    have hf := Nat.eq_of_beq_eq_true hb
    subst hf
    unfold aMk at h1
    obtain ⟨a, rfl, h2⟩ := vN32_some h1
    obtain ⟨b, rfl, h3⟩ := vN32_some h2
    obtain ⟨c, rfl, h4⟩ := vN32_some h3
    obtain ⟨m0, I, most, s, G, H, e, hr, h5⟩ := ansA_some h4
    obtain ⟨⟨r', s'⟩, k1, h6⟩ := oI_some h5
    rw [pI_eq] at h6
    cases h6
    have hR := mkP_some k1
    obtain ⟨m1, q1, q2, q3⟩ := mk_call tbN (hr.ar.of_meq e) hr.ty hR (d := 1) (Nat.le_refl _)
    obtain ⟨_, n1, n2⟩ := hR.mono
    refine ⟨1, m1, by rw [hr.px]; exact q1, drop_of e hr.ar (q2.of_meq e) q3 (wr_ok hr.ar (fun x => by rw [n1 x]; exact ⟨rfl, rfl, rfl⟩) (fun _ => n2) (fun _ => rfl) (fun _ => rfl) hr.ar.gk hr.ar.hk) hr.vi (ref_i32 _ _)⟩
  · cases h
theorem give_k {N n most f : Nat} {G H G' H' : SB} (h : GiveR N n most G H f G' H') : G'.k = G.k ∧ H'.k = H.k := by
  cases h with
  | mk Z =>
    refine ⟨SB.k_add _ _, ?_⟩
    generalize Z.l.take (Z.l.length - 2) = l
    induction l with
    | nil => rfl
    | cons x l ih => rw [List.foldr_cons, SB.k_add]; exact ih
theorem ovBGive_ok (hm : Go.Proofs.Tryz.prog.follows .mixedOrders = true) (W0 : World) : OvSound Go.Proofs.Tryz.prog W0 ovBGive := by
  refine ov_drops (tn_ok hm W0) fun f args m v m' h => ?_
  unfold ovBGive at h
  split at h
  · rename_i x p
    obtain ⟨hb, h1⟩ := bI_some h
    have hf := Nat.eq_of_beq_eq_true hb
    subst hf
    unfold aGive at h1
    obtain ⟨a, rfl, h2⟩ := vN32_some h1
    obtain ⟨m0, I, most, s, G, H, e, hr, h5⟩ := ansA_some h2
    cases hs : s with
    | mk N n ver B Im =>
    rw [hs] at h5
    obtain ⟨⟨G', H'⟩, k1, h6⟩ := oI_some h5
    rw [pI_eq] at h6
    cases h6
    have hR := giveP_some k1
    have hR' : GiveR s.N s.n most G H a G' H' := by rw [hs]; exact hR
    obtain ⟨D, hl⟩ := give_law tbN (by decide) hr.pm hR'
    obtain ⟨m1, q1, q2, q3⟩ := hl D (Nat.le_refl _) m (hr.ar.of_meq e)
    obtain ⟨n1, n2⟩ := hR.mono
    obtain ⟨n3, n4⟩ := give_k hR
    refine ⟨D, m1, by rw [hr.px]; exact q1, ?_⟩
    rw [← hs]
    exact drop_of e hr.ar (q2.of_meq e) q3 (wr_ok hr.ar (fun _ => ⟨rfl, rfl, rfl⟩) (fun _ => rfl) n1 n2 (n3.trans hr.ar.gk) (n4.trans hr.ar.hk)) hr.vi (ref_pair _ _)
  · cases h
theorem ovBTop_ok (hm : Go.Proofs.Tryz.prog.follows .mixedOrders = true) (W0 : World) : OvSound Go.Proofs.Tryz.prog W0 ovBTop := by
  refine ov_drops (tn_ok hm W0) fun f args m v m' h => ?_
  unfold ovBTop at h
  split at h
  · rename_i x p q r
    obtain ⟨hb, h1⟩ := bI_some h
    have hf := Nat.eq_of_beq_eq_true hb
    subst hf
    unfold aIteTop at h1
    obtain ⟨a, rfl, h2⟩ := vNat_some h1
    obtain ⟨b, rfl, h3⟩ := vNat_some h2
    obtain ⟨c, rfl, h4⟩ := vNat_some h3
    obtain ⟨l1, h5⟩ := bI_some h4
    obtain ⟨l2, h6⟩ := bI_some h5
    obtain ⟨l3, h7⟩ := bI_some h6
    obtain ⟨m0, I, most, s, G, H, e, hr, h8⟩ := ansA_some h7
    obtain ⟨g1, h9⟩ := bI_some h8
    obtain ⟨g2, h10⟩ := bI_some h9
    obtain ⟨g3, h11⟩ := bI_some h10
    obtain ⟨⟨r', s'⟩, k1, h12⟩ := oI_some h11
    rw [pI_eq, forceR_eq] at h12
    simp only at h12
    cases hs : s' with
    | mk N n ver B Im =>
    rw [hs] at h12
    obtain ⟨⟨G', H'⟩, k2, h13⟩ := oI_some h12
    rw [pI_eq] at h13
    cases h13
    have hR := iteP_some _ _ _ _ _ _ _ k1
    have hG := giveP_some k2
    have hG' : GiveR s'.N s'.n most G H r' G' H' := by rw [hs]; exact hG
    obtain ⟨D, hl⟩ := Ite_law tbN (by decide) hr.ty hr.pm (yblt l1) (yblt l2) (yblt l3) g1 g2 g3 hR hG'
    obtain ⟨m1, q1, q2, q3⟩ := hl D (Nat.le_refl _) m (hr.ar.of_meq e)
    obtain ⟨_, _, n1, n2⟩ := hR.mono
    obtain ⟨n3, n4⟩ := hG.mono
    obtain ⟨n5, n6⟩ := give_k hG
    refine ⟨D, m1, by rw [hr.px]; exact q1, ?_⟩
    rw [← hs]
    exact drop_of e hr.ar (q2.of_meq e) q3 (wr_ok hr.ar n1 n2 n3 n4 (n5.trans hr.ar.gk) (n6.trans hr.ar.hk)) hr.vi (ref_pair _ _)
  · cases h

noncomputable def ovBCheck : Over := fun f args m => match args with | [x, p] => bI (Nat.beq f Q29) (aCheck Qu x p m) none | _ => none
noncomputable def ovBVar : Over := fun f args m => match args with | [x, p] => bI (Nat.beq f Q67) (aVar Qu x p m) none | _ => none
theorem ovBCheck_ok (hm : Go.Proofs.Tryz.prog.follows .mixedOrders = true) (W0 : World) : OvSound Go.Proofs.Tryz.prog W0 ovBCheck := by
  refine ov_drops (tn_ok hm W0) fun f args m v m' h => ?_
  unfold ovBCheck at h
  split at h
  · rename_i x p
    obtain ⟨hb, h1⟩ := bI_some h
    have hf := Nat.eq_of_beq_eq_true hb
    subst hf
    unfold aCheck at h1
    obtain ⟨b, n, r, rfl, h2⟩ := vSl1_some h1
    obtain ⟨c, ver, fro, ro, ty, hc, h3⟩ := rPv_some h2
    obtain ⟨e1, h4⟩ := bI_some h3
    obtain ⟨e2, h5⟩ := bI_some h4
    obtain ⟨m0, I, most, s, G, H, e, hr, h6⟩ := ansA_some h5
    obtain ⟨e3, h7⟩ := bI_some h6
    cases h7
    have hcg : m.get b = some (.cells c ver fro ro ty) := by rw [Mem.get_def, show m.tr.get (b + 1) = _ from hc]; rfl
    obtain ⟨m1, q1, q2⟩ := check_callG tbN (by decide) (hr.ar.of_meq e) hcg (Nat.eq_of_beq_eq_true e1) (yblt e2) (chkG_ok c n e3)
    exact ⟨1, m1, by rw [hr.px]; exact q1, drop_same e q2 rfl⟩
  · cases h
theorem ovBVar_ok (hm : Go.Proofs.Tryz.prog.follows .mixedOrders = true) (W0 : World) : OvSound Go.Proofs.Tryz.prog W0 ovBVar := by
  refine ov_drops (tn_ok hm W0) fun f args m v m' h => ?_
  unfold ovBVar at h
  split at h
  · rename_i x p
    obtain ⟨hb, h1⟩ := bI_some h
    have hf := Nat.eq_of_beq_eq_true hb
    subst hf
    unfold aVar at h1
    obtain ⟨a, rfl, h2⟩ := vNat_some h1
    obtain ⟨l1, h5⟩ := bI_some h2
    obtain ⟨m0, I, most, s, G, H, e, hr, h8⟩ := ansA_some h5
    obtain ⟨nv, hv, h9⟩ := vNat_some h8
    obtain ⟨l2, h10⟩ := bI_some h9
    obtain ⟨⟨r', s'⟩, k1, h12⟩ := oI_some h10
    rw [pI_eq, forceR_eq] at h12
    simp only at h12
    cases hs : s' with
    | mk N n ver B Im =>
    rw [hs] at h12
    obtain ⟨⟨G', H'⟩, k2, h13⟩ := oI_some h12
    rw [pI_eq] at h13
    cases h13
    have hR := mkP_some k1
    have hG := giveP_some k2
    have hG' : GiveR s'.N s'.n most G H r' G' H' := by rw [hs]; exact hG
    obtain ⟨D, hl⟩ := Var_law tbN (by decide) hr.ty hr.pm hv (yblt l2) (yblt l1) hR hG'
    obtain ⟨m1, q1, q2, q3⟩ := hl D (Nat.le_refl _) m (hr.ar.of_meq e)
    obtain ⟨_, n1, n2⟩ := hR.mono
    obtain ⟨n3, n4⟩ := hG.mono
    obtain ⟨n5, n6⟩ := give_k hG
    refine ⟨D, m1, by rw [hr.px]; exact q1, ?_⟩
    rw [← hs]
    exact drop_of e hr.ar (q2.of_meq e) q3 (wr_ok hr.ar (fun x => by rw [n1 x]; exact ⟨rfl, rfl, rfl⟩) (fun _ => n2) n3 n4 (n5.trans hr.ar.gk) (n6.trans hr.ar.hk)) hr.vi (ref_pair _ _)
  · cases h
end Go.Ab.Sh
