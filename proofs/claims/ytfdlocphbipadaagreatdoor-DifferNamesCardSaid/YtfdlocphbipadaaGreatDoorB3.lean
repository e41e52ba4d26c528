/-
  Small functions as answers of the table. No conditions.
-/
import Derived.Test.YtfdlocphbipadaaGreatDoorB2
namespace Go.Ab.Sh
open Go Go.Ab
/-! The order of two numbers, and a variable's place: small functions that are called often. -/
theorem Xdj (s:Gt→Value→Mem→Option Rs) (G:Gt) (a0:Value) (m:Mem):arg1 s G [a0] m=s G a0 m:=rfl
theorem Xk4:Q19u.h=arg1 (fun G a0 m=>Qce G a0 m):=by kernel_rfl
theorem Xlw:Q1fh.h=arg2 (fun G a0 a1 m=>Qe9 G a0 a1 m):=by kernel_rfl
theorem Xmb:Q21z.h=arg1 (fun G a0 m=>Q10m G a0 m):=by kernel_rfl
theorem Xjr (d:Nat) (a0:Value) (m:Mem):TN (d + 1) Qcf [a0] m=outOf m (Qce ⟨TN d,18446744073709551616⟩ a0 (Xc m m.next)):=by
  rw [X4s (e:=Q19u) (by kernel_rfl) (by kernel_rfl),Xk4,Xdj]
theorem Xlu (d:Nat) (a0 a1:Value) (m:Mem):TN (d + 1) Q2n [a0,a1] m=outOf m (Qe9 ⟨TN d,18446744073709551616⟩ a0 a1 (Xc m m.next)):=by
  rw [X4s (e:=Q1fh) (by kernel_rfl) (by kernel_rfl),Xlw,X55]
theorem Xmo (d:Nat) (a0:Value) (m:Mem):TN (d + 1) Qsv [a0] m=outOf m (Q10m ⟨TN d,18446744073709551616⟩ a0 (Xc m m.next)):=by
  rw [X4s (e:=Q21z) (by kernel_rfl) (by kernel_rfl),Xmb,Xdj]
theorem Xea (a:Nat) (m:Mem):∃ m1,TN 1 Qcf [i64 a] m=some (.bool false,m1)∧Fr [] m m1:=by
  have hx:Qce ⟨TN 0,18446744073709551616⟩ (i64 a) (Xc m m.next)=some (.bool false,Xc m m.next):=by
    have h:bin .neq false true .int (i64 a) (i64 a)=some (.bool false):=by
      rw [X3z]
      simp [binO]
    unfold Qce
    simp only [h,Xw]
  obtain ⟨m2,q1,q2,_,_⟩:=X1o (W:=[]) (m:=m) hx (.refl _ _)
  exact ⟨m2,by rw [Xjr]; exact q1,q2⟩
theorem Xgz (a b:Nat) (m:Mem):∃ m1,TN 2 Q2n [i64 a,i64 b] m=some (.bool (decide (a < b)),m1)∧Fr [] m m1:=by
  obtain ⟨m1,k1,k2⟩:=Xea a (Xc m m.next)
  have hx:Qe9 ⟨TN 1,18446744073709551616⟩ (i64 a) (i64 b) (Xc m m.next)=some (.bool (decide (a < b)),m1):=by
    unfold Qe9 Q156 Qj6
    simp only [k1,X14,Xq,X3r,Xw]
  obtain ⟨m2,q1,q2,_,_⟩:=X1o (W:=[]) (m:=m) hx k2
  exact ⟨m2,by rw [Xlu]; exact q1,q2⟩
theorem Xj7 (a:Nat) (ha:a < 100000) (m:Mem):∃ m1,TN 1 Qsv [i64 a] m=some (i64 (2 * a),m1)∧Fr [] m m1:=by
  have hx:Q10m ⟨TN 0,18446744073709551616⟩ (i64 a) (Xc m m.next)=some (i64 (2 * a),Xc m m.next):=by
    have h:bin .mul true true .int (.int .i64 2) (i64 a)=some (i64 (2 * a)):=by
      rw [X3z]
      simp only [binO,ne_eq,not_true_eq_false,if_false]
      have e:(2:Int) * Int.ofNat a=((2 * a:Nat):Int):=by simp
      rw [e,IntWalk.i64_in _ (by omega)]; rfl
    unfold Q10m
    simp only [h,Xw]
  obtain ⟨m2,q1,q2,_,_⟩:=X1o (W:=[]) (m:=m) hx (.refl _ _)
  exact ⟨m2,by rw [Xmo]; exact q1,q2⟩
noncomputable def Xfc:Over:=fun f args m=>match args with
  | [x,y]=>bI (Nat.beq f Q2n) (vNat x fun a=>vNat y fun b=>some (.bool (Nat.blt a b),capM m)) none
  | _=>none
noncomputable def Xlk:Over:=fun f args m=>match args with
  | [x]=>bI (Nat.beq f Qsv) (vNat x fun a=>bI (Nat.blt a 100000) (Xp (Nat.mul 2 a) fun b=>some (.int .i64 (Int.ofNat b),capM m)) none) none
  | _=>none
theorem Xfh (hm:Go.Proofs.Tryz.prog.follows .mixedOrders=true) (W0:World):Xf Go.Proofs.Tryz.prog W0 Xfc:=by
  refine X1v (X6m hm W0) fun f args m v m' h=>?_
  unfold Xfc at h
  split at h
  . rename_i x y
    obtain ⟨hb,h1⟩:=Xi h
    have hf:=Nat.eq_of_beq_eq_true hb
    subst hf
    obtain ⟨a,rfl,h2⟩:=X1f h1
    obtain ⟨b,rfl,h3⟩:=X1f h2
    cases h3
    obtain ⟨m1,q1,q2⟩:=Xgz a b m
    have e:Nat.blt a b=decide (a < b):=nblt a b
    exact ⟨2,m1,by rw [e]; exact q1,X6u (.refl m) q2 rfl⟩
  . cases h
theorem Xj9 (hm:Go.Proofs.Tryz.prog.follows .mixedOrders=true) (W0:World):Xf Go.Proofs.Tryz.prog W0 Xlk:=by
  refine X1v (X6m hm W0) fun f args m v m' h=>?_
  unfold Xlk at h
  split at h
  . rename_i x
    obtain ⟨hb,h1⟩:=Xi h
    have hf:=Nat.eq_of_beq_eq_true hb
    subst hf
    obtain ⟨a,rfl,h2⟩:=X1f h1
    obtain ⟨l,h3⟩:=Xi h2
    rw [Xk] at h3
    cases h3
    obtain ⟨m1,q1,q2⟩:=Xj7 a (yblt l) m
    exact ⟨1,m1,q1,X6u (.refl m) q2 rfl⟩
  . cases h
end Go.Ab.Sh
