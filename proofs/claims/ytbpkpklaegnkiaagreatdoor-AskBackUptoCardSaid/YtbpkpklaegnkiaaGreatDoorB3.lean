/-
  Small functions as answers of the table. No conditions.
-/
import Derived.Test.YtbpkpklaegnkiaaGreatDoorB2
set_option linter.unusedSimpArgs false
set_option linter.unusedVariables false
namespace Go.Ab.Sh
open Go Go.Ab
/-! The order of two numbers, and a variable's place: small functions that are called often. -/
theorem Xnl (s:Gt→Value→Mem→Option Rs) (G:Gt) (a0:Value) (m:Mem):arg1 s G [a0] m=s G a0 m:=rfl
theorem Xzo:Q8w.h=arg1 (fun G a0 m=>Q2m G a0 m):=by kernel_rfl
theorem X121:Qau.h=arg2 (fun G a0 a1 m=>Q2v G a0 a1 m):=by kernel_rfl
theorem X13g:Qr0.h=arg1 (fun G a0 m=>Qav G a0 m):=by kernel_rfl
theorem Xyz (d:Nat) (a0:Value) (m:Mem):TN (d + 1) Q6b [a0] m=outOf m (Q2m ⟨TN d,18446744073709551616⟩ a0 (X3 m m.next)):=by
 rw [X82 (e:=Q8w) (by kernel_rfl) (by kernel_rfl),Xzo,Xnl]
theorem X11x (d:Nat) (a0 a1:Value) (m:Mem):TN (d + 1) Qq [a0,a1] m=outOf m (Q2v ⟨TN d,18446744073709551616⟩ a0 a1 (X3 m m.next)):=by
 rw [X82 (e:=Qau) (by kernel_rfl) (by kernel_rfl),X121,X9h]
theorem X12y (d:Nat) (a0:Value) (m:Mem):TN (d + 1) Qaw [a0] m=outOf m (Qav ⟨TN d,18446744073709551616⟩ a0 (X3 m m.next)):=by
 rw [X82 (e:=Qr0) (by kernel_rfl) (by kernel_rfl),X13g,Xnl]
theorem Xqg (a:Nat) (m:Mem):∃ m1,TN 1 Q6b [i64 a] m=some (.bool false,m1)∧Fr [] m m1:=by
 have hx:Q2m ⟨TN 0,18446744073709551616⟩ (i64 a) (X3 m m.next)=some (.bool false,X3 m m.next):=by
  have h:bin .neq false true .int (i64 a) (i64 a)=some (.bool false):=by
   rw [X1c]
   simp [binO]
  unfold Q2m
  simp only [h,X7]
 obtain ⟨m2,q1,q2,_,_⟩:=X2e (W:=[]) (m:=m) hx (.refl _ _)
 exact ⟨m2,by rw [Xyz]; exact q1,q2⟩
theorem Xr5 (a b:Nat) (m:Mem):∃ m1,TN 2 Qq [i64 a,i64 b] m=some (.bool (decide (a < b)),m1)∧Fr [] m m1:=by
 obtain ⟨m1,k1,k2⟩:=Xqg a (X3 m m.next)
 have hx:Q2v ⟨TN 1,18446744073709551616⟩ (i64 a) (i64 b) (X3 m m.next)=some (.bool (decide (a < b)),m1):=by
  unfold Q2v Qj2 Q7z
  simp only [k1,X9,Xd,X6q,X7]
 obtain ⟨m2,q1,q2,_,_⟩:=X2e (W:=[]) (m:=m) hx k2
 exact ⟨m2,by rw [X11x]; exact q1,q2⟩
theorem Xw8 (a:Nat) (ha:a < 100000) (m:Mem):∃ m1,TN 1 Qaw [i64 a] m=some (i64 (2 * a),m1)∧Fr [] m m1:=by
 have hx:Qav ⟨TN 0,18446744073709551616⟩ (i64 a) (X3 m m.next)=some (i64 (2 * a),X3 m m.next):=by
  have h:bin .mul true true .int (.int .i64 2) (i64 a)=some (i64 (2 * a)):=by
   rw [X1c]
   simp only [binO,ne_eq,not_true_eq_false,if_false]
   have e:(2:Int) * Int.ofNat a=((2 * a:Nat):Int):=by simp
   rw [e,IntWalk.i64_in _ (by omega)]; rfl
  unfold Qav
  simp only [h,X7]
 obtain ⟨m2,q1,q2,_,_⟩:=X2e (W:=[]) (m:=m) hx (.refl _ _)
 exact ⟨m2,by rw [X12y]; exact q1,q2⟩
noncomputable def Xrl:Over:=fun f args m=>match args with
 | [x,y]=>bI (Nat.beq f Qq) (vNat x fun a=>vNat y fun b=>some (.bool (Nat.blt a b),capM m)) none
 | _=>none
noncomputable def Xz7:Over:=fun f args m=>match args with
 | [x]=>bI (Nat.beq f Qaw) (vNat x fun a=>bI (Nat.blt a 100000) (Xp (Nat.mul 2 a) fun b=>some (.int .i64 (Int.ofNat b),capM m)) none) none
 | _=>none
theorem Xt0 (hm:Go.Proofs.Tryz.prog.follows .mixedOrders=true) (W0:World):Xe Go.Proofs.Tryz.prog W0 Xrl:=by
 refine X30 (Xde hm W0) fun f args m v m' h=>?_
 unfold Xrl at h
 split at h
 ·rename_i x y
  obtain ⟨hb,h1⟩:=Xk h
  have hf:=Nat.eq_of_beq_eq_true hb
  subst hf
  obtain ⟨a,rfl,h2⟩:=X1y h1
  obtain ⟨b,rfl,h3⟩:=X1y h2
  cases h3
  obtain ⟨m1,q1,q2⟩:=Xr5 a b m
  have e:Nat.blt a b=decide (a < b):=nblt a b
  exact ⟨2,m1,by rw [e]; exact q1,Xds (.refl m) q2 rfl⟩
 ·cases h
theorem Xw9 (hm:Go.Proofs.Tryz.prog.follows .mixedOrders=true) (W0:World):Xe Go.Proofs.Tryz.prog W0 Xz7:=by
 refine X30 (Xde hm W0) fun f args m v m' h=>?_
 unfold Xz7 at h
 split at h
 ·rename_i x
  obtain ⟨hb,h1⟩:=Xk h
  have hf:=Nat.eq_of_beq_eq_true hb
  subst hf
  obtain ⟨a,rfl,h2⟩:=X1y h1
  obtain ⟨l,h3⟩:=Xk h2
  rw [Xf] at h3
  cases h3
  obtain ⟨m1,q1,q2⟩:=Xw8 a (yblt l) m
  exact ⟨1,m1,q1,Xds (.refl m) q2 rfl⟩
 ·cases h
end Go.Ab.Sh
