/-
  And, Or and Not as answers of the table. No conditions.
-/
import Derived.Test.YtphmfaooegiohaaGreatDoorB3
namespace Go.Ab.Sh
open Go Go.Ab
theorem Xcp (s : Gt → Value → Value → Value → Mem → Option Rs) (G : Gt) (a0 a1 a2 : Value) (m : Mem) : arg3 s G [a0, a1, a2] m = s G a0 a1 a2 m := rfl
/-- what stands around a call of Ite -/
noncomputable def X1r (d : Nat) (x p q r : Value) (m : Mem) : Option Rs :=
  bp (TN d Q3f [x, p, q, r] m) fun x0 m => bp (pur (X5 x0 0) m) fun x1 m => bp (pur (X5 x0 1) m) fun x2 m => some (.tuple ⟨[x1, x2]⟩, m)
theorem X9c {F : FuncId} {args : List Value} {x p q r : Value} (hw : ∀ d m, TN (d + 1) F args m = outOf m (X1r d x p q r (Xb m m.next))) {m m' : Mem} {v : Value} (h1 : X4i Q13 x p q r m = some (v, m')) :
    ∃ n m1, TN n F args m = some (v, m1) ∧ Drop m v m1 m' := by
  unfold X4i at h1
  obtain ⟨a, rfl, h2⟩ := X1b h1
  obtain ⟨b, rfl, h3⟩ := X1b h2
  obtain ⟨c, rfl, h4⟩ := X1b h3
  obtain ⟨l1, h5⟩ := Xh h4
  obtain ⟨l2, h6⟩ := Xh h5
  obtain ⟨l3, h7⟩ := Xh h6
  obtain ⟨m0, I, most, s, G, H, e, hr, h8⟩ := X29 h7
  obtain ⟨g1, h9⟩ := Xh h8
  obtain ⟨g2, h10⟩ := Xh h9
  obtain ⟨g3, h11⟩ := Xh h10
  obtain ⟨⟨r', s'⟩, k1, h12⟩ := Xy h11
  rw [X64, Xi] at h12
  simp only at h12
  cases hs : s' with
  | mk N n ver B Im =>
  rw [hs] at h12
  obtain ⟨⟨G', H'⟩, k2, h13⟩ := Xy h12
  rw [X64] at h13
  cases h13
  have hR := X3r _ _ _ _ _ _ _ k1
  have hG := X44 k2
  have hG' : GiveR s'.N s'.n most G H r' G' H' := by rw [hs]; exact hG
  obtain ⟨D, hl⟩ := Xg0 tbN (by decide) hr.ty hr.pm (yblt l1) (yblt l2) (yblt l3) g1 g2 g3 hR hG'
  have hA := hr.ar.of_meq e
  obtain ⟨m1, q1, q2, q3⟩ := hl D (Nat.le_refl _) (Xb m m.next) (hA.wl _)
  obtain ⟨_, _, n1, n2⟩ := hR.mono
  obtain ⟨n3, n4⟩ := hG.mono
  obtain ⟨n5, n6⟩ := Xdk hG
  have hx : X1r D x (i64 a) (i64 b) (i64 c) (Xb m m.next) = some (.tuple ⟨[i64 r', .int .i64 0]⟩, m1) := by
    unfold X1r
    rw [hr.px]
    simp only [q1, X12]
    rfl
  obtain ⟨m2, q4, q5, q6, q7⟩ := X1l (m := m) hx q2
  refine ⟨D + 1, m2, by rw [hw]; exact q4, ?_⟩
  rw [← hs]
  exact X57 e hr.ar (q5.of_meq e) (hA.back q3 q5.next q7) (Xev hr.ar n1 n2 n3 n4 (n5.trans hr.ar.gk) (n6.trans hr.ar.hk)) hr.vi (X67 _ _)
theorem Xmc : Q17w.h = arg3 (fun G a0 a1 a2 m => Qkb G a0 a1 a2 m) := by kernel_rfl
theorem Xmj (d : Nat) (a0 a1 a2 : Value) (m : Mem) : TN (d + 1) Qkc [a0, a1, a2] m = outOf m (X1r d a0 a1 a2 (.int .i64 0) (Xb m m.next)) := by
  rw [X4e (e := Q17w) (by kernel_rfl) (by kernel_rfl), Xmc, Xcp]
  unfold Qkb X1r
  rfl
theorem h_Or : Q1cy.h = arg3 (fun G a0 a1 a2 m => Qmx G a0 a1 a2 m) := by kernel_rfl
theorem t_Or (d : Nat) (a0 a1 a2 : Value) (m : Mem) : TN (d + 1) Qwj [a0, a1, a2] m = outOf m (X1r d a0 a1 (.int .i64 1) a2 (Xb m m.next)) := by
  rw [X4e (e := Q1cy) (by kernel_rfl) (by kernel_rfl), h_Or, Xcp]
  unfold Qmx X1r
  rfl
theorem Xmq : Q17x.h = arg2 (fun G a0 a1 m => Qkd G a0 a1 m) := by kernel_rfl
theorem Xmi (d : Nat) (a0 a1 : Value) (m : Mem) : TN (d + 1) Qke [a0, a1] m = outOf m (X1r d a0 a1 (.int .i64 0) (.int .i64 1) (Xb m m.next)) := by
  rw [X4e (e := Q17x) (by kernel_rfl) (by kernel_rfl), Xmq, X4q]
  unfold Qkd X1r
  rfl
noncomputable def Xfy : Over := fun f args m => match args with | [x, p, q] => bI (Nat.beq f Qkc) (X4i Q13 x p q (.int .i64 (Int.ofNat 0)) m) none | _ => none
noncomputable def Xk5 : Over := fun f args m => match args with | [x, p, q] => bI (Nat.beq f Qwj) (X4i Q13 x p (.int .i64 (Int.ofNat 1)) q m) none | _ => none
noncomputable def Xhb : Over := fun f args m => match args with | [x, p] => bI (Nat.beq f Qke) (X4i Q13 x p (.int .i64 (Int.ofNat 0)) (.int .i64 (Int.ofNat 1)) m) none | _ => none
theorem Xhw (hm : Go.Proofs.Tryz.prog.follows .mixedOrders = true) (W0 : World) : Xm Go.Proofs.Tryz.prog W0 Xfy := by
  refine X1s (X7c hm W0) fun f args m v m' h => ?_
  unfold Xfy at h
  split at h
  . rename_i x p q
    obtain ⟨hb, h1⟩ := Xh h
    have hf := Nat.eq_of_beq_eq_true hb
    subst hf
    exact X9c (fun d m => Xmj d x p q m) h1
  . cases h
theorem Xiu (hm : Go.Proofs.Tryz.prog.follows .mixedOrders = true) (W0 : World) : Xm Go.Proofs.Tryz.prog W0 Xk5 := by
  refine X1s (X7c hm W0) fun f args m v m' h => ?_
  unfold Xk5 at h
  split at h
  . rename_i x p q
    obtain ⟨hb, h1⟩ := Xh h
    have hf := Nat.eq_of_beq_eq_true hb
    subst hf
    exact X9c (fun d m => t_Or d x p q m) h1
  . cases h
theorem Xfb (hm : Go.Proofs.Tryz.prog.follows .mixedOrders = true) (W0 : World) : Xm Go.Proofs.Tryz.prog W0 Xhb := by
  refine X1s (X7c hm W0) fun f args m v m' h => ?_
  unfold Xhb at h
  split at h
  . rename_i x p
    obtain ⟨hb, h1⟩ := Xh h
    have hf := Nat.eq_of_beq_eq_true hb
    subst hf
    exact X9c (fun d m => Xmi d x p m) h1
  . cases h
end Go.Ab.Sh
