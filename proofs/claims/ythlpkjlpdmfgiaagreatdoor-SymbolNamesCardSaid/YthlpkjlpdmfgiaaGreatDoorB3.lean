/-
  Small functions as answers of the table. No conditions.
-/
import Derived.Test.YthlpkjlpdmfgiaaGreatDoorB2
namespace Go.Ab.Sh
open Go Go.Ab
/-! The order of two numbers, and a variable's place: small functions that are called often. -/
theorem arg1_app (s : Gt → Value → Mem → Option Rs) (G : Gt) (a0 : Value) (m : Mem) : arg1 s G [a0] m = s G a0 m := rfl
theorem h_isNaN : Qzu.h = arg1 (fun G a0 m => Qa5 G a0 m) := by kernel_rfl
theorem h_Less : Q12d.h = arg2 (fun G a0 a1 m => Qbf G a0 a1 m) := by kernel_rfl
theorem h_now : Q1jd.h = arg1 (fun G a0 m => Qtr G a0 m) := by kernel_rfl
theorem t_isNaN (d : Nat) (a0 : Value) (m : Mem) : TN (d + 1) Qa0 [a0] m = outOf m (Qa5 ⟨TN d, 18446744073709551616⟩ a0 (withLow m m.next)) := by
  rw [tb_of (e := Qzu) (by kernel_rfl) (by kernel_rfl), h_isNaN, arg1_app]
theorem t_Less (d : Nat) (a0 a1 : Value) (m : Mem) : TN (d + 1) Q22 [a0, a1] m = outOf m (Qbf ⟨TN d, 18446744073709551616⟩ a0 a1 (withLow m m.next)) := by
  rw [tb_of (e := Q12d) (by kernel_rfl) (by kernel_rfl), h_Less, arg2_app]
theorem t_now (d : Nat) (a0 : Value) (m : Mem) : TN (d + 1) Qnz [a0] m = outOf m (Qtr ⟨TN d, 18446744073709551616⟩ a0 (withLow m m.next)) := by
  rw [tb_of (e := Q1jd) (by kernel_rfl) (by kernel_rfl), h_now, arg1_app]
theorem isNaN_call (a : Nat) (m : Mem) : ∃ m1, TN 1 Qa0 [i64 a] m = some (.bool false, m1) ∧ Fr [] m m1 := by
  have hx : Qa5 ⟨TN 0, 18446744073709551616⟩ (i64 a) (withLow m m.next) = some (.bool false, withLow m m.next) := by
    have h : bin .neq false true .int (i64 a) (i64 a) = some (.bool false) := by
      rw [bin_eq]
      simp [binO]
    unfold Qa5
    simp only [h, bp_pur']
  obtain ⟨m2, q1, q2, _, _⟩ := call_of (W := []) (m := m) hx (.refl _ _)
  exact ⟨m2, by rw [t_isNaN]; exact q1, q2⟩
theorem Less_call (a b : Nat) (m : Mem) : ∃ m1, TN 2 Q22 [i64 a, i64 b] m = some (.bool (decide (a < b)), m1) ∧ Fr [] m m1 := by
  obtain ⟨m1, k1, k2⟩ := isNaN_call a (withLow m m.next)
  have hx : Qbf ⟨TN 1, 18446744073709551616⟩ (i64 a) (i64 b) (withLow m m.next) = some (.bool (decide (a < b)), m1) := by
    unfold Qbf Qwu Qg1
    simp only [k1, bp_some'', brb_false', lss_i64, bp_pur']
  obtain ⟨m2, q1, q2, _, _⟩ := call_of (W := []) (m := m) hx k2
  exact ⟨m2, by rw [t_Less]; exact q1, q2⟩
theorem now_call (a : Nat) (ha : a < 100000) (m : Mem) : ∃ m1, TN 1 Qnz [i64 a] m = some (i64 (2 * a), m1) ∧ Fr [] m m1 := by
  have hx : Qtr ⟨TN 0, 18446744073709551616⟩ (i64 a) (withLow m m.next) = some (i64 (2 * a), withLow m m.next) := by
    have h : bin .mul true true .int (.int .i64 2) (i64 a) = some (i64 (2 * a)) := by
      rw [bin_eq]
      simp only [binO, ne_eq, not_true_eq_false, if_false]
      have e : (2 : Int) * Int.ofNat a = ((2 * a : Nat) : Int) := by simp
      rw [e, IntWalk.i64_in _ (by omega)]; rfl
    unfold Qtr
    simp only [h, bp_pur']
  obtain ⟨m2, q1, q2, _, _⟩ := call_of (W := []) (m := m) hx (.refl _ _)
  exact ⟨m2, by rw [t_now]; exact q1, q2⟩
noncomputable def ovLess : Over := fun f args m => match args with
  | [x, y] => bI (Nat.beq f Q22) (vNat x fun a => vNat y fun b => some (.bool (Nat.blt a b), capM m)) none
  | _ => none
noncomputable def ovNow : Over := fun f args m => match args with
  | [x] => bI (Nat.beq f Qnz) (vNat x fun a => bI (Nat.blt a 100000) (forceR (Nat.mul 2 a) fun b => some (.int .i64 (Int.ofNat b), capM m)) none) none
  | _ => none
theorem ovLess_ok (hm : Go.Proofs.Tryz.prog.follows .mixedOrders = true) (W0 : World) : OvSound Go.Proofs.Tryz.prog W0 ovLess := by
  refine ov_drops (tn_ok hm W0) fun f args m v m' h => ?_
  unfold ovLess at h
  split at h
  · rename_i x y
    obtain ⟨hb, h1⟩ := bI_some h
    have hf := Nat.eq_of_beq_eq_true hb
    subst hf
    obtain ⟨a, rfl, h2⟩ := vNat_some h1
    obtain ⟨b, rfl, h3⟩ := vNat_some h2
    cases h3
    obtain ⟨m1, q1, q2⟩ := Less_call a b m
    have e : Nat.blt a b = decide (a < b) := nblt a b
    exact ⟨2, m1, by rw [e]; exact q1, drop_same (.refl m) q2 rfl⟩
  · cases h
theorem ovNow_ok (hm : Go.Proofs.Tryz.prog.follows .mixedOrders = true) (W0 : World) : OvSound Go.Proofs.Tryz.prog W0 ovNow := by
  refine ov_drops (tn_ok hm W0) fun f args m v m' h => ?_
  unfold ovNow at h
  split at h
  · rename_i x
    obtain ⟨hb, h1⟩ := bI_some h
    have hf := Nat.eq_of_beq_eq_true hb
    subst hf
    obtain ⟨a, rfl, h2⟩ := vNat_some h1
    obtain ⟨l, h3⟩ := bI_some h2
    rw [forceR_eq] at h3
    cases h3
    obtain ⟨m1, q1, q2⟩ := now_call a (yblt l) m
    exact ⟨1, m1, q1, drop_same (.refl m) q2 rfl⟩
  · cases h
end Go.Ab.Sh
