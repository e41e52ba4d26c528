/-
  Small functions as answers of the table. No conditions.
-/
import Derived.Test.YtaljkjdmllgmdaaGreatDoorB2
set_option linter.unusedSimpArgs false
set_option linter.unusedVariables false
namespace Go.Ab.Sh
open Go Go.Ab
/-! The order of two numbers, and a variable's place: small functions that are called often. -/
theorem Xe8 (s:Gt→Value→Mem→Option Rs) (G:Gt) (a0:Value) (m:Mem):arg1 s G [a0] m=s G a0 m:=rfl
theorem Xlv:Qx9.h=arg1 (fun G a0 m=>Q87 G a0 m):=by kernel_rfl
theorem Xnx:Q10j.h=arg2 (fun G a0 a1 m=>Q97 G a0 a1 m):=by kernel_rfl
theorem Xot:Q1pc.h=arg1 (fun G a0 m=>Qrk G a0 m):=by kernel_rfl
theorem Xmk (d:Nat) (a0:Value) (m:Mem):TN (d + 1) Q88 [a0] m=outOf m (Q87 ⟨TN d,18446744073709551616⟩ a0 (Xd m m.next)):=by
 rw [X5f (e:=Qx9) (by kernel_rfl) (by kernel_rfl),Xlv,Xe8]
theorem Xnz (d:Nat) (a0 a1:Value) (m:Mem):TN (d + 1) Q1z [a0,a1] m=outOf m (Q97 ⟨TN d,18446744073709551616⟩ a0 a1 (Xd m m.next)):=by
 rw [X5f (e:=Q10j) (by kernel_rfl) (by kernel_rfl),Xnx,X61]
theorem Xov (d:Nat) (a0:Value) (m:Mem):TN (d + 1) Qgx [a0] m=outOf m (Qrk ⟨TN d,18446744073709551616⟩ a0 (Xd m m.next)):=by
 rw [X5f (e:=Q1pc) (by kernel_rfl) (by kernel_rfl),Xot,Xe8]
theorem Xg1 (a:Nat) (m:Mem):∃ m1,TN 1 Q88 [i64 a] m=some (.bool false,m1)∧Fr [] m m1:=by
 have hx:Q87 ⟨TN 0,18446744073709551616⟩ (i64 a) (Xd m m.next)=some (.bool false,Xd m m.next):=by
  have h:bin .neq false true .int (i64 a) (i64 a)=some (.bool false):=by
   rw [X4r]
   simp [binO]
  unfold Q87
  simp only [h,Xy]
 obtain ⟨m2,q1,q2,_,_⟩:=X1s (W:=[]) (m:=m) hx (.refl _ _)
 exact ⟨m2,by rw [Xmk]; exact q1,q2⟩
theorem Xgx (a b:Nat) (m:Mem):∃ m1,TN 2 Q1z [i64 a,i64 b] m=some (.bool (decide (a < b)),m1)∧Fr [] m m1:=by
 obtain ⟨m1,k1,k2⟩:=Xg1 a (Xd m m.next)
 have hx:Q97 ⟨TN 1,18446744073709551616⟩ (i64 a) (i64 b) (Xd m m.next)=some (.bool (decide (a < b)),m1):=by
  unfold Q97 Qu9 Qcx
  simp only [k1,X18,Xr,X4i,Xy]
 obtain ⟨m2,q1,q2,_,_⟩:=X1s (W:=[]) (m:=m) hx k2
 exact ⟨m2,by rw [Xnz]; exact q1,q2⟩
theorem Xkk (a:Nat) (ha:a < 100000) (m:Mem):∃ m1,TN 1 Qgx [i64 a] m=some (i64 (2 * a),m1)∧Fr [] m m1:=by
 have hx:Qrk ⟨TN 0,18446744073709551616⟩ (i64 a) (Xd m m.next)=some (i64 (2 * a),Xd m m.next):=by
  have h:bin .mul true true .int (.int .i64 2) (i64 a)=some (i64 (2 * a)):=by
   rw [X4r]
   simp only [binO,ne_eq,not_true_eq_false,if_false]
   have e:(2:Int) * Int.ofNat a=((2 * a:Nat):Int):=by simp
   rw [e,IntWalk.i64_in _ (by omega)]; rfl
  unfold Qrk
  simp only [h,Xy]
 obtain ⟨m2,q1,q2,_,_⟩:=X1s (W:=[]) (m:=m) hx (.refl _ _)
 exact ⟨m2,by rw [Xov]; exact q1,q2⟩
noncomputable def Xgt:Over:=fun f args m=>match args with
 | [x,y]=>bI (Nat.beq f Q1z) (vNat x fun a=>vNat y fun b=>some (.bool (Nat.blt a b),capM m)) none
 | _=>none
noncomputable def Xm3:Over:=fun f args m=>match args with
 | [x]=>bI (Nat.beq f Qgx) (vNat x fun a=>bI (Nat.blt a 100000) (Xo (Nat.mul 2 a) fun b=>some (.int .i64 (Int.ofNat b),capM m)) none) none
 | _=>none
theorem Xgz (hm:Go.Proofs.Tryz.prog.follows .mixedOrders=true) (W0:World):X9 Go.Proofs.Tryz.prog W0 Xgt:=by
 refine X26 (X87 hm W0) fun f args m v m' h=>?_
 unfold Xgt at h
 split at h
 ·rename_i x y
  obtain ⟨hb,h1⟩:=Xl h
  have hf:=Nat.eq_of_beq_eq_true hb
  subst hf
  obtain ⟨a,rfl,h2⟩:=X1g h1
  obtain ⟨b,rfl,h3⟩:=X1g h2
  cases h3
  obtain ⟨m1,q1,q2⟩:=Xgx a b m
  have e:Nat.blt a b=decide (a < b):=nblt a b
  exact ⟨2,m1,by rw [e]; exact q1,X8o (.refl m) q2 rfl⟩
 ·cases h
theorem Xkj (hm:Go.Proofs.Tryz.prog.follows .mixedOrders=true) (W0:World):X9 Go.Proofs.Tryz.prog W0 Xm3:=by
 refine X26 (X87 hm W0) fun f args m v m' h=>?_
 unfold Xm3 at h
 split at h
 ·rename_i x
  obtain ⟨hb,h1⟩:=Xl h
  have hf:=Nat.eq_of_beq_eq_true hb
  subst hf
  obtain ⟨a,rfl,h2⟩:=X1g h1
  obtain ⟨l,h3⟩:=Xl h2
  rw [Xi] at h3
  cases h3
  obtain ⟨m1,q1,q2⟩:=Xkk a (yblt l) m
  exact ⟨1,m1,q1,X8o (.refl m) q2 rfl⟩
 ·cases h
end Go.Ab.Sh
