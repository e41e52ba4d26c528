/-
  And, Or and Not as answers of the table. No conditions.
-/
import Derived.Test.YthlpkjlpdmfgiaaGreatDoorB3
namespace Go.Ab.Sh
open Go Go.Ab
theorem arg3_app (s : Gt → Value → Value → Value → Mem → Option Rs) (G : Gt) (a0 a1 a2 : Value) (m : Mem) : arg3 s G [a0, a1, a2] m = s G a0 a1 a2 m := rfl
/-- what stands around a call of Ite -/
noncomputable def aroundIte (d : Nat) (x p q r : Value) (m : Mem) : Option Rs :=
  bp (TN d Q2q [x, p, q, r] m) fun x0 m => bp (pur (aExtract x0 0) m) fun x1 m => bp (pur (aExtract x0 1) m) fun x2 m => some (.tuple ⟨[x1, x2]⟩, m)
theorem top_wrap {F : FuncId} {args : List Value} {x p q r : Value} (hw : ∀ d m, TN (d + 1) F args m = outOf m (aroundIte d x p q r (withLow m m.next))) {m m' : Mem} {v : Value} (h1 : aIteTop Qu x p q r m = some (v, m')) :
    ∃ n m1, TN n F args m = some (v, m1) ∧ Drop m v m1 m' := by
  unfold aIteTop at h1
  obtain ⟨a, rfl, h2⟩ := vNat_some h1
  obtain ⟨b, rfl, h3⟩ := vNat_some h2
  obtain ⟨c, rfl, h4⟩ := vNat_some h3
  obtain ⟨l1, h5⟩ := bI_some h4
  obtain ⟨l2, h6⟩ := bI_some h5
  obtain ⟨l3, h7⟩ := bI_some h6
  obtain ⟨m0, I, most, s, G, H, e, hr, h8⟩ := ansA_some h7
  obtain ⟨g1, h9⟩ := bI_some h8
  obtain ⟨g2, h10⟩ := bI_some h9
  obtain ⟨g3, h11⟩ := bI_some h10
  obtain ⟨⟨r', s'⟩, k1, h12⟩ := oI_some h11
  rw [pI_eq, forceR_eq] at h12
  simp only at h12
  cases hs : s' with
  | mk N n ver B Im =>
  rw [hs] at h12
  obtain ⟨⟨G', H'⟩, k2, h13⟩ := oI_some h12
  rw [pI_eq] at h13
  cases h13
  have hR := iteP_some _ _ _ _ _ _ _ k1
  have hG := giveP_some k2
  have hG' : GiveR s'.N s'.n most G H r' G' H' := by rw [hs]; exact hG
  obtain ⟨D, hl⟩ := Ite_law tbN (by decide) hr.ty hr.pm (yblt l1) (yblt l2) (yblt l3) g1 g2 g3 hR hG'
  have hA := hr.ar.of_meq e
  obtain ⟨m1, q1, q2, q3⟩ := hl D (Nat.le_refl _) (withLow m m.next) (hA.wl _)
  obtain ⟨_, _, n1, n2⟩ := hR.mono
  obtain ⟨n3, n4⟩ := hG.mono
  obtain ⟨n5, n6⟩ := give_k hG
  have hx : aroundIte D x (i64 a) (i64 b) (i64 c) (withLow m m.next) = some (.tuple ⟨[i64 r', .int .i64 0]⟩, m1) := by
    unfold aroundIte
    rw [hr.px]
    simp only [q1, bp_some'']
    rfl
  obtain ⟨m2, q4, q5, q6, q7⟩ := call_of (m := m) hx q2
  refine ⟨D + 1, m2, by rw [hw]; exact q4, ?_⟩
  rw [← hs]
  exact drop_of e hr.ar (q5.of_meq e) (hA.back q3 q5.next q7) (wr_ok hr.ar n1 n2 n3 n4 (n5.trans hr.ar.gk) (n6.trans hr.ar.hk)) hr.vi (ref_pair _ _)
theorem h_And : Qzs.h = arg3 (fun G a0 a1 a2 m => Qhw G a0 a1 a2 m) := by kernel_rfl
theorem t_And (d : Nat) (a0 a1 a2 : Value) (m : Mem) : TN (d + 1) Qhj [a0, a1, a2] m = outOf m (aroundIte d a0 a1 a2 (.int .i64 0) (withLow m m.next)) := by
  rw [tb_of (e := Qzs) (by kernel_rfl) (by kernel_rfl), h_And, arg3_app]
  unfold Qhw aroundIte
  rfl
theorem h_Or : Q12g.h = arg3 (fun G a0 a1 a2 m => Qk6 G a0 a1 a2 m) := by kernel_rfl
theorem t_Or (d : Nat) (a0 a1 a2 : Value) (m : Mem) : TN (d + 1) Qso [a0, a1, a2] m = outOf m (aroundIte d a0 a1 (.int .i64 1) a2 (withLow m m.next)) := by
  rw [tb_of (e := Q12g) (by kernel_rfl) (by kernel_rfl), h_Or, arg3_app]
  unfold Qk6 aroundIte
  rfl
theorem h_Not : Qzp.h = arg2 (fun G a0 a1 m => Qhx G a0 a1 m) := by kernel_rfl
theorem t_Not (d : Nat) (a0 a1 : Value) (m : Mem) : TN (d + 1) Qhk [a0, a1] m = outOf m (aroundIte d a0 a1 (.int .i64 0) (.int .i64 1) (withLow m m.next)) := by
  rw [tb_of (e := Qzp) (by kernel_rfl) (by kernel_rfl), h_Not, arg2_app]
  unfold Qhx aroundIte
  rfl
noncomputable def ovBAnd : Over := fun f args m => match args with | [x, p, q] => bI (Nat.beq f Qhj) (aIteTop Qu x p q (.int .i64 (Int.ofNat 0)) m) none | _ => none
noncomputable def ovBOr : Over := fun f args m => match args with | [x, p, q] => bI (Nat.beq f Qso) (aIteTop Qu x p (.int .i64 (Int.ofNat 1)) q m) none | _ => none
noncomputable def ovBNot : Over := fun f args m => match args with | [x, p] => bI (Nat.beq f Qhk) (aIteTop Qu x p (.int .i64 (Int.ofNat 0)) (.int .i64 (Int.ofNat 1)) m) none | _ => none
theorem ovBAnd_ok (hm : Go.Proofs.Tryz.prog.follows .mixedOrders = true) (W0 : World) : OvSound Go.Proofs.Tryz.prog W0 ovBAnd := by
  refine ov_drops (tn_ok hm W0) fun f args m v m' h => ?_
  unfold ovBAnd at h
  split at h
  · rename_i x p q
    obtain ⟨hb, h1⟩ := bI_some h
    have hf := Nat.eq_of_beq_eq_true hb
    subst hf
    exact top_wrap (fun d m => t_And d x p q m) h1
  · cases h
theorem ovBOr_ok (hm : Go.Proofs.Tryz.prog.follows .mixedOrders = true) (W0 : World) : OvSound Go.Proofs.Tryz.prog W0 ovBOr := by
  refine ov_drops (tn_ok hm W0) fun f args m v m' h => ?_
  unfold ovBOr at h
  split at h
  · rename_i x p q
    obtain ⟨hb, h1⟩ := bI_some h
    have hf := Nat.eq_of_beq_eq_true hb
    subst hf
    exact top_wrap (fun d m => t_Or d x p q m) h1
  · cases h
theorem ovBNot_ok (hm : Go.Proofs.Tryz.prog.follows .mixedOrders = true) (W0 : World) : OvSound Go.Proofs.Tryz.prog W0 ovBNot := by
  refine ov_drops (tn_ok hm W0) fun f args m v m' h => ?_
  unfold ovBNot at h
  split at h
  · rename_i x p
    obtain ⟨hb, h1⟩ := bI_some h
    have hf := Nat.eq_of_beq_eq_true hb
    subst hf
    exact top_wrap (fun d m => t_Not d x p m) h1
  · cases h
end Go.Ab.Sh
