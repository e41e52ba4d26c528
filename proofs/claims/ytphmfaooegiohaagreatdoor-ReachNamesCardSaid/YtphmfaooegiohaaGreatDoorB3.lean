/-
  Small functions as answers of the table. No conditions.
-/
import Derived.Test.YtphmfaooegiohaaGreatDoorB2
namespace Go.Ab.Sh
open Go Go.Ab
/-! The order of two numbers, and a variable's place: small functions that are called often. -/
theorem Xcz (s : Gt → Value → Mem → Option Rs) (G : Gt) (a0 : Value) (m : Mem) : arg1 s G [a0] m = s G a0 m := rfl
theorem Xk1 : Q17y.h = arg1 (fun G a0 m => Qbs G a0 m) := by kernel_rfl
theorem Xlp : Q1cz.h = arg2 (fun G a0 a1 m => Qdf G a0 a1 m) := by kernel_rfl
theorem Xmp : Q1wx.h = arg1 (fun G a0 m => Qyc G a0 m) := by kernel_rfl
theorem Xkw (d : Nat) (a0 : Value) (m : Mem) : TN (d + 1) Qbt [a0] m = outOf m (Qbs ⟨TN d, 18446744073709551616⟩ a0 (Xb m m.next)) := by
  rw [X4e (e := Q17y) (by kernel_rfl) (by kernel_rfl), Xk1, Xcz]
theorem Xls (d : Nat) (a0 a1 : Value) (m : Mem) : TN (d + 1) Q2j [a0, a1] m = outOf m (Qdf ⟨TN d, 18446744073709551616⟩ a0 a1 (Xb m m.next)) := by
  rw [X4e (e := Q1cz) (by kernel_rfl) (by kernel_rfl), Xlp, X4q]
theorem Xm8 (d : Nat) (a0 : Value) (m : Mem) : TN (d + 1) Qyd [a0] m = outOf m (Qyc ⟨TN d, 18446744073709551616⟩ a0 (Xb m m.next)) := by
  rw [X4e (e := Q1wx) (by kernel_rfl) (by kernel_rfl), Xmp, Xcz]
theorem Xe4 (a : Nat) (m : Mem) : ∃ m1, TN 1 Qbt [i64 a] m = some (.bool false, m1) ∧ Fr [] m m1 := by
  have hx : Qbs ⟨TN 0, 18446744073709551616⟩ (i64 a) (Xb m m.next) = some (.bool false, Xb m m.next) := by
    have h : bin .neq false true .int (i64 a) (i64 a) = some (.bool false) := by
      rw [X3q]
      simp [binO]
    unfold Qbs
    simp only [h, Xu]
  obtain ⟨m2, q1, q2, _, _⟩ := X1l (W := []) (m := m) hx (.refl _ _)
  exact ⟨m2, by rw [Xkw]; exact q1, q2⟩
theorem Xgz (a b : Nat) (m : Mem) : ∃ m1, TN 2 Q2j [i64 a, i64 b] m = some (.bool (decide (a < b)), m1) ∧ Fr [] m m1 := by
  obtain ⟨m1, k1, k2⟩ := Xe4 a (Xb m m.next)
  have hx : Qdf ⟨TN 1, 18446744073709551616⟩ (i64 a) (i64 b) (Xb m m.next) = some (.bool (decide (a < b)), m1) := by
    unfold Qdf Q137 Qi8
    simp only [k1, X12, Xo, X3k, Xu]
  obtain ⟨m2, q1, q2, _, _⟩ := X1l (W := []) (m := m) hx k2
  exact ⟨m2, by rw [Xls]; exact q1, q2⟩
theorem Xi9 (a : Nat) (ha : a < 100000) (m : Mem) : ∃ m1, TN 1 Qyd [i64 a] m = some (i64 (2 * a), m1) ∧ Fr [] m m1 := by
  have hx : Qyc ⟨TN 0, 18446744073709551616⟩ (i64 a) (Xb m m.next) = some (i64 (2 * a), Xb m m.next) := by
    have h : bin .mul true true .int (.int .i64 2) (i64 a) = some (i64 (2 * a)) := by
      rw [X3q]
      simp only [binO, ne_eq, not_true_eq_false, if_false]
      have e : (2 : Int) * Int.ofNat a = ((2 * a : Nat) : Int) := by simp
      rw [e, IntWalk.i64_in _ (by omega)]; rfl
    unfold Qyc
    simp only [h, Xu]
  obtain ⟨m2, q1, q2, _, _⟩ := X1l (W := []) (m := m) hx (.refl _ _)
  exact ⟨m2, by rw [Xm8]; exact q1, q2⟩
noncomputable def Xht : Over := fun f args m => match args with
  | [x, y] => bI (Nat.beq f Q2j) (vNat x fun a => vNat y fun b => some (.bool (Nat.blt a b), capM m)) none
  | _ => none
noncomputable def Xkq : Over := fun f args m => match args with
  | [x] => bI (Nat.beq f Qyd) (vNat x fun a => bI (Nat.blt a 100000) (Xn (Nat.mul 2 a) fun b => some (.int .i64 (Int.ofNat b), capM m)) none) none
  | _ => none
theorem Xhp (hm : Go.Proofs.Tryz.prog.follows .mixedOrders = true) (W0 : World) : Xm Go.Proofs.Tryz.prog W0 Xht := by
  refine X1s (X7c hm W0) fun f args m v m' h => ?_
  unfold Xht at h
  split at h
  . rename_i x y
    obtain ⟨hb, h1⟩ := Xh h
    have hf := Nat.eq_of_beq_eq_true hb
    subst hf
    obtain ⟨a, rfl, h2⟩ := X1b h1
    obtain ⟨b, rfl, h3⟩ := X1b h2
    cases h3
    obtain ⟨m1, q1, q2⟩ := Xgz a b m
    have e : Nat.blt a b = decide (a < b) := nblt a b
    exact ⟨2, m1, by rw [e]; exact q1, X73 (.refl m) q2 rfl⟩
  . cases h
theorem Xia (hm : Go.Proofs.Tryz.prog.follows .mixedOrders = true) (W0 : World) : Xm Go.Proofs.Tryz.prog W0 Xkq := by
  refine X1s (X7c hm W0) fun f args m v m' h => ?_
  unfold Xkq at h
  split at h
  . rename_i x
    obtain ⟨hb, h1⟩ := Xh h
    have hf := Nat.eq_of_beq_eq_true hb
    subst hf
    obtain ⟨a, rfl, h2⟩ := X1b h1
    obtain ⟨l, h3⟩ := Xh h2
    rw [Xi] at h3
    cases h3
    obtain ⟨m1, q1, q2⟩ := Xi9 a (yblt l) m
    exact ⟨1, m1, q1, X73 (.refl m) q2 rfl⟩
  . cases h
end Go.Ab.Sh
