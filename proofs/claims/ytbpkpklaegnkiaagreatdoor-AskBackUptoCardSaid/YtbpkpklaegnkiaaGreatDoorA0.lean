/-
  What the functions of the program answer, at every text and every question. No conditions.
-/
import Derived.Test.YtbpkpklaegnkiaaGreatDoorT
import Derived.Test.YtbpkpklaegnkiaaGreatDoorAb5
import Derived.Test.YtbpkpklaegnkiaaGreatDoorKT
import Derived.Lib.ItoaNum
import Derived.Lib.AtoiAll
import Derived.Lib.ParseIntB
import Derived.Lib.Index
import Derived.Lib.Bytealg
import Derived.Lib.Join
set_option linter.unusedSimpArgs false
set_option linter.unusedVariables false
namespace Go.Ab
open Go

abbrev Str:=List UInt8
def sv (l:Str):Value:=.string ⟨⟨l⟩⟩
theorem X13j (l:Str):Value.string ⟨List.toArray l⟩=sv l:=rfl
theorem X128 (l:Str):(⟨⟨l⟩⟩:ByteArray).data.toList=l:=rfl
theorem X13k (s:ByteArray):Value.string s=sv s.data.toList:=rfl
abbrev I (z:Int):Value:=.int .i64 z
theorem Q34 (c g:Bool) (k:IntKind) (a b:Int):bin .lss c g .int (.int k a) (.int k b)=some (.bool (decide (a < b))):=by rw [X1c]; simp [binO]
theorem Qzz (c g:Bool) (k:IntKind) (a b:Int):bin .leq c g .int (.int k a) (.int k b)=some (.bool (decide (a ≤ b))):=by rw [X1c]; simp [binO]
theorem Qwd (c g:Bool) (k:IntKind) (a b:Int):bin .gtr c g .int (.int k a) (.int k b)=some (.bool (decide (b < a))):=by rw [X1c]; simp [binO]
theorem Q1e9 (c g:Bool) (k:IntKind) (a b:Int):bin .geq c g .int (.int k a) (.int k b)=some (.bool (decide (b ≤ a))):=by rw [X1c]; simp [binO]
theorem Q5z (c g:Bool) (k:IntKind) (a b:Int):bin .eql c g .int (.int k a) (.int k b)=some (.bool (decide (a=b))):=by
 rw [X1c]; by_cases h:a=b <;> simp [binO,h]
theorem Q8k (c g:Bool) (k:IntKind) (a b:Int):bin .neq c g .int (.int k a) (.int k b)=some (.bool (decide (a ≠ b))):=by
 rw [X1c]; by_cases h:a=b <;> simp [binO,h]
theorem Qqz (c g:Bool) (k:IntKind) (a b:Int):bin .add c g .int (.int k a) (.int k b)=some (.int k (k.wrap (a + b))):=by rw [X1c]; simp [binO]
theorem Q14o (c g:Bool) (k:IntKind) (a b:Int):bin .sub c g .int (.int k a) (.int k b)=some (.int k (k.wrap (a - b))):=by rw [X1c]; simp [binO]
theorem Q1qo (c g:Bool) (k:IntKind) (a b:Int):bin .mul c g .int (.int k a) (.int k b)=some (.int k (k.wrap (a * b))):=by rw [X1c]; simp [binO]
theorem Q1rc (c g:Bool) (k:IntKind) (a b:Int) (h:b ≠ 0):bin .quo c g .int (.int k a) (.int k b)=some (.int k (k.wrap (a.tdiv b))):=by rw [X1c]; simp [binO,h]
theorem Q1rd (c g:Bool) (k:IntKind) (a b:Int) (h:b ≠ 0):bin .rem c g .int (.int k a) (.int k b)=some (.int k (a.tmod b)):=by rw [X1c]; simp [binO,h]
theorem Q18x (c g:Bool) (a b:Str):bin .eql c g .str (sv a) (sv b)=some (.bool (decide (a=b))):=by
 rw [X1c]; show some (Value.bool (a == b))=_; congr 2; by_cases h:a=b <;> simp [h]
theorem Q13n (c g:Bool) (a b:Str):bin .neq c g .str (sv a) (sv b)=some (.bool (decide (a ≠ b))):=by
 rw [X1c]; show some (Value.bool (!(a == b)))=_; congr 2; by_cases h:a=b <;> simp [h]
theorem Qka (c g:Bool) (a b:Str) (h:a.length + b.length < 4611686018427387904):bin .add c g .str (sv a) (sv b)=some (sv (a ++ b)):=by
 rw [X1c]
 show (if a.length + b.length < 2 ^ 62 then some (Value.string ⟨(a ++ b).toArray⟩) else none)=_
 rw [if_pos (by simpa using h)]
 rfl
theorem Xou (l:Str) (m:Mem):lenK 0 (sv l) m=some (.int .i64 l.length):=by rw [Xdt]; rfl
theorem Xxs (l:Str) (k:IntKind) (i:Nat) (h:i < l.length):X1g (sv l) (.int k (i:Int))=some (.int .u8 ((l[i]).toNat:Int)):=by
 rw [Xb8]
 show (if (0:Int) ≤ (i:Int) then (match l[(i:Int).toNat]? with | some b=>some (Value.int .u8 b.toNat) | none=>none) else none)=_
 rw [if_pos (by omega),Int.toNat_natCast,List.getElem?_eq_getElem h]
theorem Xj {α:Type} (p:Prop) [Decidable p] (a b:Option α):brb (.bool (decide p)) a b=if p then a else b:=by
 by_cases h:p
 ·rw [if_pos h,decide_eq_true h]; rfl
 ·rw [if_neg h,decide_eq_false h]; rfl
theorem Xq8 {α:Type} (c:Bool) (a b:Option α):brb (.bool c) a b=if c=true then a else b:=by cases c <;> rfl
theorem ex0 (x:Value) (l:List Value):X6 (.tuple ⟨x :: l⟩) 0=some x:=by rw [X5h]; rfl
theorem ex1 (x y:Value) (l:List Value):X6 (.tuple ⟨x :: y :: l⟩) 1=some y:=by rw [X5h]; rfl
theorem ex2 (x y z:Value) (l:List Value):X6 (.tuple ⟨x :: y :: z :: l⟩) 2=some z:=by rw [X5h]; rfl

theorem c_int (k k':IntKind) (a:Int) (m:Mem):conv (.int k') (.int k a) m=some (.int k' (k'.wrap a),m):=rfl
noncomputable def outOf (m:Mem) (x:Option Rs):Option Rs:=match x with | some (v,m1)=>some (gc m v m1) | none=>none
theorem X4p {m m1:Mem} {v:Value} {x:Option Rs} (hx:x=some (v,m1)) (hF:Fr [] (X3 m m.next) m1) (hv:refs m.next 8 v=true):outOf m x=some (v,m):=by
 subst hx
 unfold outOf
 simp only
 rw [Xpz]; unfold gcO
 have h:m.next ≤ m1.low:=hF.low2 m.next (Nat.le_refl _) (Nat.le_refl _) (by simp)
 rw [Nat.ble_eq.mpr h,hv]
 rfl
end Go.Ab

namespace Go.Ab.Sh
open Go Go.Ab
noncomputable def Q1i6:Over:=Xh5 Qw ixF
noncomputable def Q1i7:Over:=Xgm Q7h cntF
noncomputable def Q1kq:Over:=Xnp Qb
noncomputable def Q18y:Over:=Xn6 Q2r Q5
noncomputable def Q1ix:Over:=orElse (ovPu Q2 Q5 16 16) (ovPu Q2 Q5 8 8)
noncomputable def Q1kr:Over:=Xna Q2s
noncomputable def Q1fe:Over:=Xbx Q4k
noncomputable def Q16a:Over:=Xit Qx .u8 fun s c=>some (Xa5 s c)
noncomputable def oL:Tr Over:=(.node none (.node none (.node none .nil (.node none .nil (.node (some Q1kq) .nil .nil))) (.node none (.node none (.node none .nil (.node none (.node none (.node (some Q1i6) .nil .nil) .nil) .nil)) (.node (some Q1fe) (.node (some Q18y) .nil .nil) .nil)) (.node none (.node (some Q1kr) .nil .nil) .nil))) (.node none (.node (some Q1ap) (.node none .nil (.node none (.node none (.node (some Q1i7) .nil .nil) .nil) .nil)) .nil) (.node none (.node none (.node none .nil (.node none (.node none (.node (some Q16a) .nil .nil) .nil) .nil)) (.node none (.node (some Q1ix) .nil .nil) .nil)) .nil)))
noncomputable def TA (n:Nat):Tab:=shT fns (ovTr oL) 18446744073709551616 n
theorem Xl {f:Nat} {e:Entry Go.Proofs.Tryz.prog} (h0:oL.get (f + 1)=none) (h1:fns.get (f + 1)=some e) (h2:Nat.beq e.f f=true) (d:Nat) (args:List Value) (m:Mem):TA (d + 1) f args m=outOf m (e.h ⟨TA d,18446744073709551616⟩ args (X3 m m.next)):=by
 unfold TA
 rw [Xbv,Xlx,h0]
 simp only [h1,h2]
 rfl
theorem Xhd {f:Nat} {o:Over} {r:Rs} (h0:oL.get (f + 1)=some o) {args:List Value} {m:Mem} (h:o f args m=some r) (d:Nat):TA d f args m=some r:=by
 have h1:ovTr oL f args m=some r:=by rw [Xlx,h0]; exact h
 unfold TA
 cases d with
 | zero=>rw [Xw7]; exact h1
 | succ d=>rw [Xbv,h1]
end Go.Ab.Sh

set_option maxRecDepth 100000
namespace Go.Ab.Sh
open Go Go.Ab
theorem Xzs (s:Gt→Mem→Option Rs) (G:Gt) (m:Mem):arg0 s G [] m=s G m:=rfl
theorem X15 (s:Gt→Value→Mem→Option Rs) (G:Gt) (a0:Value) (m:Mem):arg1 s G [a0] m=s G a0 m:=rfl
theorem Xw (s:Gt→Value→Value→Mem→Option Rs) (G:Gt) (a0 a1:Value) (m:Mem):arg2 s G [a0,a1] m=s G a0 a1 m:=rfl
theorem X1t (s:Gt→Value→Value→Value→Mem→Option Rs) (G:Gt) (a0 a1 a2:Value) (m:Mem):arg3 s G [a0,a1,a2] m=s G a0 a1 a2 m:=rfl
theorem X2q (s:Gt→Value→Value→Value→Value→Mem→Option Rs) (G:Gt) (a0 a1 a2 a3:Value) (m:Mem):arg4 s G [a0,a1,a2,a3] m=s G a0 a1 a2 a3 m:=rfl
theorem X8k (s:Gt→Value→Value→Value→Value→Value→Mem→Option Rs) (G:Gt) (a0 a1 a2 a3 a4:Value) (m:Mem):arg5 s G [a0,a1,a2,a3,a4] m=s G a0 a1 a2 a3 a4 m:=rfl
theorem X10i (s:Gt→Value→Value→Value→Value→Value→Value→Mem→Option Rs) (G:Gt) (a0 a1 a2 a3 a4 a5:Value) (m:Mem):arg6 s G [a0,a1,a2,a3,a4,a5] m=s G a0 a1 a2 a3 a4 a5 m:=rfl
theorem Xax:Qjg.h=arg2 (fun G a0 a1 m=>Q82 G a1 a0 m):=by kernel_rfl
theorem Xpq (d:Nat) (a0 a1:Value) (m:Mem):TA (d + 1) Qsx [a0,a1] m=outOf m (Q82 ⟨TA d,18446744073709551616⟩ a1 a0 (X3 m m.next)):=by
 rw [Xl (e:=Qjg) (by kernel_rfl) (by kernel_rfl) (by kernel_rfl),Xax,Xw]
theorem Xbi:Q9j.h=arg3 (fun G a0 a1 a2 m=>Q4m G a0 a1 a2 m):=by kernel_rfl
theorem Xqq (d:Nat) (a0 a1 a2:Value) (m:Mem):TA (d + 1) Q6e [a0,a1,a2] m=outOf m (Q4m ⟨TA d,18446744073709551616⟩ a0 a1 a2 (X3 m m.next)):=by
 rw [Xl (e:=Q9j) (by kernel_rfl) (by kernel_rfl) (by kernel_rfl),Xbi,X1t]
theorem X7b:Qf8.h=arg3 (fun G a0 a1 a2 m=>Q5h G a0 a1 a2 m):=by kernel_rfl
theorem Xk7 (d:Nat) (a0 a1 a2:Value) (m:Mem):TA (d + 1) Qn7 [a0,a1,a2] m=outOf m (Q5h ⟨TA d,18446744073709551616⟩ a0 a1 a2 (X3 m m.next)):=by
 rw [Xl (e:=Qf8) (by kernel_rfl) (by kernel_rfl) (by kernel_rfl),X7b,X1t]
theorem X7g:Qf9.h=arg5 (fun G a0 a1 a2 a3 a4 m=>Q5i G a1 a0 a2 a3 a4 m):=by kernel_rfl
theorem Xk1 (d:Nat) (a0 a1 a2 a3 a4:Value) (m:Mem):TA (d + 1) Qn8 [a0,a1,a2,a3,a4] m=outOf m (Q5i ⟨TA d,18446744073709551616⟩ a1 a0 a2 a3 a4 (X3 m m.next)):=by
 rw [Xl (e:=Qf9) (by kernel_rfl) (by kernel_rfl) (by kernel_rfl),X7g,X8k]
theorem Xbo:Q8z.h=arg4 (fun G a0 a1 a2 a3 m=>Q1w G a0 a1 a2 a3 m):=by kernel_rfl
theorem Xqk (d:Nat) (a0 a1 a2 a3:Value) (m:Mem):TA (d + 1) Q19 [a0,a1,a2,a3] m=outOf m (Q1w ⟨TA d,18446744073709551616⟩ a0 a1 a2 a3 (X3 m m.next)):=by
 rw [Xl (e:=Q8z) (by kernel_rfl) (by kernel_rfl) (by kernel_rfl),Xbo,X2q]
theorem X9b:Qhx.h=arg3 (fun G a0 a1 a2 m=>Q72 G a0 a1 a2 m):=by kernel_rfl
theorem Xnx (d:Nat) (a0 a1 a2:Value) (m:Mem):TA (d + 1) Qhq [a0,a1,a2] m=outOf m (Q72 ⟨TA d,18446744073709551616⟩ a0 a1 a2 (X3 m m.next)):=by
 rw [Xl (e:=Qhx) (by kernel_rfl) (by kernel_rfl) (by kernel_rfl),X9b,X1t]
theorem Xbg:Q9k.h=arg2 (fun G a0 a1 m=>Q4n G a0 a1 m):=by kernel_rfl
theorem Xqj (d:Nat) (a0 a1:Value) (m:Mem):TA (d + 1) Q6f [a0,a1] m=outOf m (Q4n ⟨TA d,18446744073709551616⟩ a0 a1 (X3 m m.next)):=by
 rw [Xl (e:=Q9k) (by kernel_rfl) (by kernel_rfl) (by kernel_rfl),Xbg,Xw]
theorem Xdm:Qb7.h=arg3 (fun G a0 a1 a2 m=>Q5j G a0 a1 a2 m):=by kernel_rfl
theorem Xud (d:Nat) (a0 a1 a2:Value) (m:Mem):TA (d + 1) Qb2 [a0,a1,a2] m=outOf m (Q5j ⟨TA d,18446744073709551616⟩ a0 a1 a2 (X3 m m.next)):=by
 rw [Xl (e:=Qb7) (by kernel_rfl) (by kernel_rfl) (by kernel_rfl),Xdm,X1t]
theorem X7d:Qfa.h=arg2 (fun G a0 a1 m=>Q5k G a0 a1 m):=by kernel_rfl
theorem Xk8 (d:Nat) (a0 a1:Value) (m:Mem):TA (d + 1) Qer [a0,a1] m=outOf m (Q5k ⟨TA d,18446744073709551616⟩ a0 a1 (X3 m m.next)):=by
 rw [Xl (e:=Qfa) (by kernel_rfl) (by kernel_rfl) (by kernel_rfl),X7d,Xw]
theorem X5y:Qbx.h=arg3 (fun G a0 a1 a2 m=>Q3q G a1 a2 a0 m):=by kernel_rfl
theorem Xhu (d:Nat) (a0 a1 a2:Value) (m:Mem):TA (d + 1) Qbm [a0,a1,a2] m=outOf m (Q3q ⟨TA d,18446744073709551616⟩ a1 a2 a0 (X3 m m.next)):=by
 rw [Xl (e:=Qbx) (by kernel_rfl) (by kernel_rfl) (by kernel_rfl),X5y,X1t]
theorem Xbe:Q90.h=arg2 (fun G a0 a1 m=>Q1x G a0 a1 m):=by kernel_rfl
theorem Xqp (d:Nat) (a0 a1:Value) (m:Mem):TA (d + 1) Q1y [a0,a1] m=outOf m (Q1x ⟨TA d,18446744073709551616⟩ a0 a1 (X3 m m.next)):=by
 rw [Xl (e:=Q90) (by kernel_rfl) (by kernel_rfl) (by kernel_rfl),Xbe,Xw]
theorem Xbp:Qll.h=arg3 (fun G a0 a1 a2 m=>Q9l G a0 a1 a2 m):=by kernel_rfl
theorem Xqn (d:Nat) (a0 a1 a2:Value) (m:Mem):TA (d + 1) Qld [a0,a1,a2] m=outOf m (Q9l ⟨TA d,18446744073709551616⟩ a0 a1 a2 (X3 m m.next)):=by
 rw [Xl (e:=Qll) (by kernel_rfl) (by kernel_rfl) (by kernel_rfl),Xbp,X1t]
theorem X8u:Qhy.h=arg3 (fun G a0 a1 a2 m=>Q73 G a0 a2 a1 m):=by kernel_rfl
theorem Xn2 (d:Nat) (a0 a1 a2:Value) (m:Mem):TA (d + 1) Qhu [a0,a1,a2] m=outOf m (Q73 ⟨TA d,18446744073709551616⟩ a0 a2 a1 (X3 m m.next)):=by
 rw [Xl (e:=Qhy) (by kernel_rfl) (by kernel_rfl) (by kernel_rfl),X8u,X1t]
theorem X7e:Qfb.h=arg5 (fun G a0 a1 a2 a3 a4 m=>Q5l G a1 a0 a2 a3 a4 m):=by kernel_rfl
theorem Xk6 (d:Nat) (a0 a1 a2 a3 a4:Value) (m:Mem):TA (d + 1) Qeu [a0,a1,a2,a3,a4] m=outOf m (Q5l ⟨TA d,18446744073709551616⟩ a1 a0 a2 a3 a4 (X3 m m.next)):=by
 rw [Xl (e:=Qfb) (by kernel_rfl) (by kernel_rfl) (by kernel_rfl),X7e,X8k]
theorem X9d:Q6w.h=arg2 (fun G a0 a1 m=>Qs G a0 a1 m):=by kernel_rfl
theorem Xnv (d:Nat) (a0 a1:Value) (m:Mem):TA (d + 1) Q15 [a0,a1] m=outOf m (Qs ⟨TA d,18446744073709551616⟩ a0 a1 (X3 m m.next)):=by
 rw [Xl (e:=Q6w) (by kernel_rfl) (by kernel_rfl) (by kernel_rfl),X9d,Xw]
theorem Xbf:Q8y.h=arg4 (fun G a0 a1 a2 a3 m=>Q1v G a0 a1 a2 a3 m):=by kernel_rfl
theorem Xqr (d:Nat) (a0 a1 a2 a3:Value) (m:Mem):TA (d + 1) Q2n [a0,a1,a2,a3] m=outOf m (Q1v ⟨TA d,18446744073709551616⟩ a0 a1 a2 a3 (X3 m m.next)):=by
 rw [Xl (e:=Q8y) (by kernel_rfl) (by kernel_rfl) (by kernel_rfl),Xbf,X2q]
theorem X9w:Q80.h=arg2 (fun G a0 a1 m=>Q1a G a0 a1 m):=by kernel_rfl
theorem Xqf (d:Nat) (a0 a1:Value) (m:Mem):TA (d + 1) Q26 [a0,a1] m=outOf m (Q1a ⟨TA d,18446744073709551616⟩ a0 a1 (X3 m m.next)):=by
 rw [Xl (e:=Q80) (by kernel_rfl) (by kernel_rfl) (by kernel_rfl),X9w,Xw]
theorem X7u:Q60.h=arg5 (fun G a0 a1 a2 a3 a4 m=>Qj G a1 a0 a2 a3 a4 m):=by kernel_rfl
theorem Xkj (d:Nat) (a0 a1 a2 a3 a4:Value) (m:Mem):TA (d + 1) Qo [a0,a1,a2,a3,a4] m=outOf m (Qj ⟨TA d,18446744073709551616⟩ a1 a0 a2 a3 a4 (X3 m m.next)):=by
 rw [Xl (e:=Q60) (by kernel_rfl) (by kernel_rfl) (by kernel_rfl),X7u,X8k]
theorem Xbh:Q8x.h=arg4 (fun G a0 a1 a2 a3 m=>Qm G a0 a1 a2 a3 m):=by kernel_rfl
theorem Xql (d:Nat) (a0 a1 a2 a3:Value) (m:Mem):TA (d + 1) Qr [a0,a1,a2,a3] m=outOf m (Qm ⟨TA d,18446744073709551616⟩ a0 a1 a2 a3 (X3 m m.next)):=by
 rw [Xl (e:=Q8x) (by kernel_rfl) (by kernel_rfl) (by kernel_rfl),Xbh,X2q]
theorem X9m:Q6v.h=arg6 (fun G a0 a1 a2 a3 a4 a5 m=>Q1c G a1 a2 a3 a0 a4 a5 m):=by kernel_rfl
theorem Xoo (d:Nat) (a0 a1 a2 a3 a4 a5:Value) (m:Mem):TA (d + 1) Q2f [a0,a1,a2,a3,a4,a5] m=outOf m (Q1c ⟨TA d,18446744073709551616⟩ a1 a2 a3 a0 a4 a5 (X3 m m.next)):=by
 rw [Xl (e:=Q6v) (by kernel_rfl) (by kernel_rfl) (by kernel_rfl),X9m,X10i]
theorem X7j:Qfc.h=arg2 (fun G a0 a1 m=>Q5m G a0 a1 m):=by kernel_rfl
theorem Xk4 (d:Nat) (a0 a1:Value) (m:Mem):TA (d + 1) Qna [a0,a1] m=outOf m (Q5m ⟨TA d,18446744073709551616⟩ a0 a1 (X3 m m.next)):=by
 rw [Xl (e:=Qfc) (by kernel_rfl) (by kernel_rfl) (by kernel_rfl),X7j,Xw]
theorem Xcl:Qax.h=arg4 (fun G a0 a1 a2 a3 m=>Q1j G a2 a3 a1 a0 m):=by kernel_rfl
theorem Xse (d:Nat) (a0 a1 a2 a3:Value) (m:Mem):TA (d + 1) Q2w [a0,a1,a2,a3] m=outOf m (Q1j ⟨TA d,18446744073709551616⟩ a2 a3 a1 a0 (X3 m m.next)):=by
 rw [Xl (e:=Qax) (by kernel_rfl) (by kernel_rfl) (by kernel_rfl),Xcl,X2q]
theorem X7f:Qfd.h=arg2 (fun G a0 a1 m=>Q5n G a1 a0 m):=by kernel_rfl
theorem Xk5 (d:Nat) (a0 a1:Value) (m:Mem):TA (d + 1) Qn9 [a0,a1] m=outOf m (Q5n ⟨TA d,18446744073709551616⟩ a1 a0 (X3 m m.next)):=by
 rw [Xl (e:=Qfd) (by kernel_rfl) (by kernel_rfl) (by kernel_rfl),X7f,Xw]
theorem X88:Qgl.h=arg3 (fun G a0 a1 a2 m=>Q63 G a0 a1 a2 m):=by kernel_rfl
theorem Xl4 (d:Nat) (a0 a1 a2:Value) (m:Mem):TA (d + 1) Qe [a0,a1,a2] m=outOf m (Q63 ⟨TA d,18446744073709551616⟩ a0 a1 a2 (X3 m m.next)):=by
 rw [Xl (e:=Qgl) (by kernel_rfl) (by kernel_rfl) (by kernel_rfl),X88,X1t]
theorem X6b:Qdf.h=arg2 (fun G a0 a1 m=>Q4t G a0 a1 m):=by kernel_rfl
theorem Xjn (d:Nat) (a0 a1:Value) (m:Mem):TA (d + 1) Qd1 [a0,a1] m=outOf m (Q4t ⟨TA d,18446744073709551616⟩ a0 a1 (X3 m m.next)):=by
 rw [Xl (e:=Qdf) (by kernel_rfl) (by kernel_rfl) (by kernel_rfl),X6b,Xw]
theorem X8s:Qhz.h=arg4 (fun G a0 a1 a2 a3 m=>Q74 G a1 a0 a3 a2 m):=by kernel_rfl
theorem Xn9 (d:Nat) (a0 a1 a2 a3:Value) (m:Mem):TA (d + 1) Qhp [a0,a1,a2,a3] m=outOf m (Q74 ⟨TA d,18446744073709551616⟩ a1 a0 a3 a2 (X3 m m.next)):=by
 rw [Xl (e:=Qhz) (by kernel_rfl) (by kernel_rfl) (by kernel_rfl),X8s,X2q]
theorem X8m:Qgm.h=arg4 (fun G a0 a1 a2 a3 m=>Q64 G a1 a0 a2 a3 m):=by kernel_rfl
theorem Xl7 (d:Nat) (a0 a1 a2 a3:Value) (m:Mem):TA (d + 1) Qgd [a0,a1,a2,a3] m=outOf m (Q64 ⟨TA d,18446744073709551616⟩ a1 a0 a2 a3 (X3 m m.next)):=by
 rw [Xl (e:=Qgm) (by kernel_rfl) (by kernel_rfl) (by kernel_rfl),X8m,X2q]
theorem Xbj:Qlm.h=arg3 (fun G a0 a1 a2 m=>Q9m G a0 a1 a2 m):=by kernel_rfl
theorem Xqh (d:Nat) (a0 a1 a2:Value) (m:Mem):TA (d + 1) Q6c [a0,a1,a2] m=outOf m (Q9m ⟨TA d,18446744073709551616⟩ a0 a1 a2 (X3 m m.next)):=by
 rw [Xl (e:=Qlm) (by kernel_rfl) (by kernel_rfl) (by kernel_rfl),Xbj,X1t]
theorem X9r:Qi0.h=arg2 (fun G a0 a1 m=>Q75 G a0 a1 m):=by kernel_rfl
theorem Xmw (d:Nat) (a0 a1:Value) (m:Mem):TA (d + 1) Qr4 [a0,a1] m=outOf m (Q75 ⟨TA d,18446744073709551616⟩ a0 a1 (X3 m m.next)):=by
 rw [Xl (e:=Qi0) (by kernel_rfl) (by kernel_rfl) (by kernel_rfl),X9r,Xw]
theorem Xa8:Qjh.h=arg3 (fun G a0 a1 a2 m=>Q83 G a0 a1 a2 m):=by kernel_rfl
theorem Xq7 (d:Nat) (a0 a1 a2:Value) (m:Mem):TA (d + 1) Qsz [a0,a1,a2] m=outOf m (Q83 ⟨TA d,18446744073709551616⟩ a0 a1 a2 (X3 m m.next)):=by
 rw [Xl (e:=Qjh) (by kernel_rfl) (by kernel_rfl) (by kernel_rfl),Xa8,X1t]
theorem Xbq:Qln.h=arg2 (fun G a0 a1 m=>Q9n G a0 a1 m):=by kernel_rfl
theorem Xqm (d:Nat) (a0 a1:Value) (m:Mem):TA (d + 1) Qep [a0,a1] m=outOf m (Q9n ⟨TA d,18446744073709551616⟩ a0 a1 (X3 m m.next)):=by
 rw [Xl (e:=Qln) (by kernel_rfl) (by kernel_rfl) (by kernel_rfl),Xbq,Xw]
theorem Xe5:Qns.h=arg3 (fun G a0 a1 a2 m=>Qb8 G a0 a1 a2 m):=by kernel_rfl
theorem Xuk (d:Nat) (a0 a1 a2:Value) (m:Mem):TA (d + 1) Q56 [a0,a1,a2] m=outOf m (Qb8 ⟨TA d,18446744073709551616⟩ a0 a1 a2 (X3 m m.next)):=by
 rw [Xl (e:=Qns) (by kernel_rfl) (by kernel_rfl) (by kernel_rfl),Xe5,X1t]
theorem X7x:Qgn.h=arg3 (fun G a0 a1 a2 m=>Q65 G a2 a0 a1 m):=by kernel_rfl
theorem Xkr (d:Nat) (a0 a1 a2:Value) (m:Mem):TA (d + 1) Qgh [a0,a1,a2] m=outOf m (Q65 ⟨TA d,18446744073709551616⟩ a2 a0 a1 (X3 m m.next)):=by
 rw [Xl (e:=Qgn) (by kernel_rfl) (by kernel_rfl) (by kernel_rfl),X7x,X1t]
theorem Xai:Qji.h=arg5 (fun G a0 a1 a2 a3 a4 m=>Q84 G a2 a0 a4 a1 a3 m):=by kernel_rfl
theorem Xp9 (d:Nat) (a0 a1 a2 a3 a4:Value) (m:Mem):TA (d + 1) Qj9 [a0,a1,a2,a3,a4] m=outOf m (Q84 ⟨TA d,18446744073709551616⟩ a2 a0 a4 a1 a3 (X3 m m.next)):=by
 rw [Xl (e:=Qji) (by kernel_rfl) (by kernel_rfl) (by kernel_rfl),Xai,X8k]
theorem X7l:Qfe.h=arg3 (fun G a0 a1 a2 m=>Q5o G a0 a2 a1 m):=by kernel_rfl
theorem Xk2 (d:Nat) (a0 a1 a2:Value) (m:Mem):TA (d + 1) Q57 [a0,a1,a2] m=outOf m (Q5o ⟨TA d,18446744073709551616⟩ a0 a2 a1 (X3 m m.next)):=by
 rw [Xl (e:=Qfe) (by kernel_rfl) (by kernel_rfl) (by kernel_rfl),X7l,X1t]
theorem X97:Qi1.h=arg4 (fun G a0 a1 a2 a3 m=>Q76 G a1 a0 a2 a3 m):=by kernel_rfl
theorem Xof (d:Nat) (a0 a1 a2 a3:Value) (m:Mem):TA (d + 1) Qr8 [a0,a1,a2,a3] m=outOf m (Q76 ⟨TA d,18446744073709551616⟩ a1 a0 a2 a3 (X3 m m.next)):=by
 rw [Xl (e:=Qi1) (by kernel_rfl) (by kernel_rfl) (by kernel_rfl),X97,X2q]
theorem Xa9:Qjj.h=arg2 (fun G a0 a1 m=>Q85 G a1 a0 m):=by kernel_rfl
theorem Xpp (d:Nat) (a0 a1:Value) (m:Mem):TA (d + 1) Qsy [a0,a1] m=outOf m (Q85 ⟨TA d,18446744073709551616⟩ a1 a0 (X3 m m.next)):=by
 rw [Xl (e:=Qjj) (by kernel_rfl) (by kernel_rfl) (by kernel_rfl),Xa9,Xw]
theorem Xbm:Qlo.h=arg4 (fun G a0 a1 a2 a3 m=>Q9o G a0 a1 a2 a3 m):=by kernel_rfl
theorem Xqo (d:Nat) (a0 a1 a2 a3:Value) (m:Mem):TA (d + 1) Q97 [a0,a1,a2,a3] m=outOf m (Q9o ⟨TA d,18446744073709551616⟩ a0 a1 a2 a3 (X3 m m.next)):=by
 rw [Xl (e:=Qlo) (by kernel_rfl) (by kernel_rfl) (by kernel_rfl),Xbm,X2q]
theorem X6m:Qdg.h=arg4 (fun G a0 a1 a2 a3 m=>Q4u G a1 a0 a2 a3 m):=by kernel_rfl
theorem Xi2 (d:Nat) (a0 a1 a2 a3:Value) (m:Mem):TA (d + 1) Q7i [a0,a1,a2,a3] m=outOf m (Q4u ⟨TA d,18446744073709551616⟩ a1 a0 a2 a3 (X3 m m.next)):=by
 rw [Xl (e:=Qdg) (by kernel_rfl) (by kernel_rfl) (by kernel_rfl),X6m,X2q]
theorem X7h:Qff.h=arg3 (fun G a0 a1 a2 m=>Q5p G a1 a0 a2 m):=by kernel_rfl
theorem Xk3 (d:Nat) (a0 a1 a2:Value) (m:Mem):TA (d + 1) Q8g [a0,a1,a2] m=outOf m (Q5p ⟨TA d,18446744073709551616⟩ a1 a0 a2 (X3 m m.next)):=by
 rw [Xl (e:=Qff) (by kernel_rfl) (by kernel_rfl) (by kernel_rfl),X7h,X1t]
theorem X65:Qby.h=arg2 (fun G a0 a1 m=>Q3r G a1 a0 m):=by kernel_rfl
theorem Xhs (d:Nat) (a0 a1:Value) (m:Mem):TA (d + 1) Q6s [a0,a1] m=outOf m (Q3r ⟨TA d,18446744073709551616⟩ a1 a0 (X3 m m.next)):=by
 rw [Xl (e:=Qby) (by kernel_rfl) (by kernel_rfl) (by kernel_rfl),X65,Xw]
theorem X61:Qbz.h=arg1 (fun G a0 m=>Q3s G a0 m):=by kernel_rfl
theorem Xht (d:Nat) (a0:Value) (m:Mem):TA (d + 1) Q6q [a0] m=outOf m (Q3s ⟨TA d,18446744073709551616⟩ a0 (X3 m m.next)):=by
 rw [Xl (e:=Qbz) (by kernel_rfl) (by kernel_rfl) (by kernel_rfl),X61,X15]
theorem X83:Qgo.h=arg2 (fun G a0 a1 m=>Q66 G a1 a0 m):=by kernel_rfl
theorem Xlv (d:Nat) (a0 a1:Value) (m:Mem):TA (d + 1) Q62 [a0,a1] m=outOf m (Q66 ⟨TA d,18446744073709551616⟩ a1 a0 (X3 m m.next)):=by
 rw [Xl (e:=Qgo) (by kernel_rfl) (by kernel_rfl) (by kernel_rfl),X83,Xw]
theorem X52:Q9p.h=arg5 (fun G a0 a1 a2 a3 a4 m=>Q37 G a1 a0 a2 a3 a4 m):=by kernel_rfl
theorem Xer (d:Nat) (a0 a1 a2 a3 a4:Value) (m:Mem):TA (d + 1) Q99 [a0,a1,a2,a3,a4] m=outOf m (Q37 ⟨TA d,18446744073709551616⟩ a1 a0 a2 a3 a4 (X3 m m.next)):=by
 rw [Xl (e:=Q9p) (by kernel_rfl) (by kernel_rfl) (by kernel_rfl),X52,X8k]
theorem X66:Qc0.h=arg3 (fun G a0 a1 a2 m=>Q3t G a1 a0 a2 m):=by kernel_rfl
theorem Xhv (d:Nat) (a0 a1 a2:Value) (m:Mem):TA (d + 1) Q6r [a0,a1,a2] m=outOf m (Q3t ⟨TA d,18446744073709551616⟩ a1 a0 a2 (X3 m m.next)):=by
 rw [Xl (e:=Qc0) (by kernel_rfl) (by kernel_rfl) (by kernel_rfl),X66,X1t]
theorem X6e:Qdh.h=arg2 (fun G a0 a1 m=>Q4v G a0 a1 m):=by kernel_rfl
theorem Xii (d:Nat) (a0 a1:Value) (m:Mem):TA (d + 1) Qlw [a0,a1] m=outOf m (Q4v ⟨TA d,18446744073709551616⟩ a0 a1 (X3 m m.next)):=by
 rw [Xl (e:=Qdh) (by kernel_rfl) (by kernel_rfl) (by kernel_rfl),X6e,Xw]
theorem X62:Qc1.h=arg3 (fun G a0 a1 a2 m=>Q3u G a1 a0 a2 m):=by kernel_rfl
theorem Xhq (d:Nat) (a0 a1 a2:Value) (m:Mem):TA (d + 1) Q6t [a0,a1,a2] m=outOf m (Q3u ⟨TA d,18446744073709551616⟩ a1 a0 a2 (X3 m m.next)):=by
 rw [Xl (e:=Qc1) (by kernel_rfl) (by kernel_rfl) (by kernel_rfl),X62,X1t]
theorem X55:Q9q.h=arg4 (fun G a0 a1 a2 a3 m=>Q38 G a1 a0 a2 a3 m):=by kernel_rfl
theorem Xf5 (d:Nat) (a0 a1 a2 a3:Value) (m:Mem):TA (d + 1) Qhs [a0,a1,a2,a3] m=outOf m (Q38 ⟨TA d,18446744073709551616⟩ a1 a0 a2 a3 (X3 m m.next)):=by
 rw [Xl (e:=Q9q) (by kernel_rfl) (by kernel_rfl) (by kernel_rfl),X55,X2q]
theorem X64:Qc2.h=arg3 (fun G a0 a1 a2 m=>Q3v G a0 a2 a1 m):=by kernel_rfl
theorem Xhr (d:Nat) (a0 a1 a2:Value) (m:Mem):TA (d + 1) Q10 [a0,a1,a2] m=outOf m (Q3v ⟨TA d,18446744073709551616⟩ a0 a2 a1 (X3 m m.next)):=by
 rw [Xl (e:=Qc2) (by kernel_rfl) (by kernel_rfl) (by kernel_rfl),X64,X1t]
theorem Xjt:Qv0.h=arg1 (fun G a0 m=>Qde G a0 m):=by kernel_rfl
theorem Xjy (d:Nat) (a0:Value) (m:Mem):TA (d + 1) Qho [a0] m=outOf m (Qde ⟨TA d,18446744073709551616⟩ a0 (X3 m m.next)):=by
 rw [Xl (e:=Qv0) (by kernel_rfl) (by kernel_rfl) (by kernel_rfl),Xjt,X15]
theorem Xim:Quw.h=arg1 (fun G a0 m=>Qd5 G a0 m):=by kernel_rfl
theorem Xil (d:Nat) (a0:Value) (m:Mem):TA (d + 1) Q6x [a0] m=outOf m (Qd5 ⟨TA d,18446744073709551616⟩ a0 (X3 m m.next)):=by
 rw [Xl (e:=Quw) (by kernel_rfl) (by kernel_rfl) (by kernel_rfl),Xim,X15]
theorem X8p:Qhv.h=arg1 (fun G a0 m=>Q4r G a0 m):=by kernel_rfl
theorem X90 (d:Nat) (a0:Value) (m:Mem):TA (d + 1) Q4p [a0] m=outOf m (Q4r ⟨TA d,18446744073709551616⟩ a0 (X3 m m.next)):=by
 rw [Xl (e:=Qhv) (by kernel_rfl) (by kernel_rfl) (by kernel_rfl),X8p,X15]
theorem X9v:Qjf.h=arg1 (fun G a0 m=>Q5v G a0 m):=by kernel_rfl
theorem Xay (d:Nat) (a0:Value) (m:Mem):TA (d + 1) Q3e [a0] m=outOf m (Q5v ⟨TA d,18446744073709551616⟩ a0 (X3 m m.next)):=by
 rw [Xl (e:=Qjf) (by kernel_rfl) (by kernel_rfl) (by kernel_rfl),X9v,X15]
theorem Xlm:Qx1.h=arg1 (fun G a0 m=>Qgc G a0 m):=by kernel_rfl
theorem Xkx (d:Nat) (a0:Value) (m:Mem):TA (d + 1) Q6p [a0] m=outOf m (Qgc ⟨TA d,18446744073709551616⟩ a0 (X3 m m.next)):=by
 rw [Xl (e:=Qx1) (by kernel_rfl) (by kernel_rfl) (by kernel_rfl),Xlm,X15]
theorem Xgn:Qsl.h=arg1 (fun G a0 m=>Qat G a0 m):=by kernel_rfl
theorem Xh2 (d:Nat) (a0:Value) (m:Mem):TA (d + 1) Ql1 [a0] m=outOf m (Qat ⟨TA d,18446744073709551616⟩ a0 (X3 m m.next)):=by
 rw [Xl (e:=Qsl) (by kernel_rfl) (by kernel_rfl) (by kernel_rfl),Xgn,X15]
theorem Xg6:Qsk.h=arg2 (fun G a0 a1 m=>Qas G a0 a1 m):=by kernel_rfl
theorem Xfs (d:Nat) (a0 a1:Value) (m:Mem):TA (d + 1) Q5w [a0,a1] m=outOf m (Qas ⟨TA d,18446744073709551616⟩ a0 a1 (X3 m m.next)):=by
 rw [Xl (e:=Qsk) (by kernel_rfl) (by kernel_rfl) (by kernel_rfl),Xg6,Xw]
theorem Xmf:Qwx.h=arg1 (fun G a0 m=>Qg8 G a0 m):=by kernel_rfl
theorem Xlf (d:Nat) (a0:Value) (m:Mem):TA (d + 1) Q6n [a0] m=outOf m (Qg8 ⟨TA d,18446744073709551616⟩ a0 (X3 m m.next)):=by
 rw [Xl (e:=Qwx) (by kernel_rfl) (by kernel_rfl) (by kernel_rfl),Xmf,X15]
theorem Xgs:Qs7.h=arg2 (fun G a0 a1 m=>Q7r G a0 a1 m):=by kernel_rfl
theorem Xh9 (d:Nat) (a0 a1:Value) (m:Mem):TA (d + 1) Qan [a0,a1] m=outOf m (Q7r ⟨TA d,18446744073709551616⟩ a0 a1 (X3 m m.next)):=by
 rw [Xl (e:=Qs7) (by kernel_rfl) (by kernel_rfl) (by kernel_rfl),Xgs,Xw]
theorem Xfp:Qs8.h=arg2 (fun G a0 a1 m=>Q7s G a0 a1 m):=by kernel_rfl
theorem Xfk (d:Nat) (a0 a1:Value) (m:Mem):TA (d + 1) Qfl [a0,a1] m=outOf m (Q7s ⟨TA d,18446744073709551616⟩ a0 a1 (X3 m m.next)):=by
 rw [Xl (e:=Qs8) (by kernel_rfl) (by kernel_rfl) (by kernel_rfl),Xfp,Xw]
theorem Xhc:Qs9.h=arg2 (fun G a0 a1 m=>Q7t G a1 a0 m):=by kernel_rfl
theorem Xgr (d:Nat) (a0 a1:Value) (m:Mem):TA (d + 1) Qao [a0,a1] m=outOf m (Q7t ⟨TA d,18446744073709551616⟩ a1 a0 (X3 m m.next)):=by
 rw [Xl (e:=Qs9) (by kernel_rfl) (by kernel_rfl) (by kernel_rfl),Xhc,Xw]
theorem Xgi:Qsa.h=arg4 (fun G a0 a1 a2 a3 m=>Q7u G a1 a0 a2 a3 m):=by kernel_rfl
theorem Xfr (d:Nat) (a0 a1 a2 a3:Value) (m:Mem):TA (d + 1) Qfm [a0,a1,a2,a3] m=outOf m (Q7u ⟨TA d,18446744073709551616⟩ a1 a0 a2 a3 (X3 m m.next)):=by
 rw [Xl (e:=Qsa) (by kernel_rfl) (by kernel_rfl) (by kernel_rfl),Xgi,X2q]
theorem Xpl:Qzv.h=arg1 (fun G a0 m=>Qin G a0 m):=by kernel_rfl
theorem Xq1 (d:Nat) (a0:Value) (m:Mem):TA (d + 1) Qeo [a0] m=outOf m (Qin ⟨TA d,18446744073709551616⟩ a0 (X3 m m.next)):=by
 rw [Xl (e:=Qzv) (by kernel_rfl) (by kernel_rfl) (by kernel_rfl),Xpl,X15]
theorem Xjr:Qux.h=arg3 (fun G a0 a1 a2 m=>Q3p G a0 a2 a1 m):=by kernel_rfl
theorem Xb2 (d:Nat) (a0 a1 a2:Value) (m:Mem):TA (d + 1) Q91 [a0,a1,a2] m=outOf m (Q3p ⟨TA d,18446744073709551616⟩ a0 a2 a1 (X3 m m.next)):=by
 rw [Xl (e:=Qux) (by kernel_rfl) (by kernel_rfl) (by kernel_rfl),Xjr,X1t]
theorem Xie:Quy.h=arg2 (fun G a0 a1 m=>Qd6 G a0 a1 m):=by kernel_rfl
theorem Xi8 (d:Nat) (a0 a1:Value) (m:Mem):TA (d + 1) Q92 [a0,a1] m=outOf m (Qd6 ⟨TA d,18446744073709551616⟩ a0 a1 (X3 m m.next)):=by
 rw [Xl (e:=Quy) (by kernel_rfl) (by kernel_rfl) (by kernel_rfl),Xie,Xw]
theorem Xi1:Quz.h=arg1 (fun G a0 m=>Qd7 G a0 m):=by kernel_rfl
theorem Xjq (d:Nat) (a0:Value) (m:Mem):TA (d + 1) Q6y [a0] m=outOf m (Qd7 ⟨TA d,18446744073709551616⟩ a0 (X3 m m.next)):=by
 rw [Xl (e:=Quz) (by kernel_rfl) (by kernel_rfl) (by kernel_rfl),Xi1,X15]
theorem Xm7:Qwz.h=arg0 (fun G m=>Qga G m):=by kernel_rfl
theorem Xl9 (d:Nat) (m:Mem):TA (d + 1) Qjr [] m=outOf m (Qga ⟨TA d,18446744073709551616⟩ (X3 m m.next)):=by
 rw [Xl (e:=Qwz) (by kernel_rfl) (by kernel_rfl) (by kernel_rfl),Xm7,Xzs]
theorem Xme:Qwy.h=arg2 (fun G a0 a1 m=>Qg9 G a0 a1 m):=by kernel_rfl
theorem Xm6 (d:Nat) (a0 a1:Value) (m:Mem):TA (d + 1) Q3o [a0,a1] m=outOf m (Qg9 ⟨TA d,18446744073709551616⟩ a0 a1 (X3 m m.next)):=by
 rw [Xl (e:=Qwy) (by kernel_rfl) (by kernel_rfl) (by kernel_rfl),Xme,Xw]
theorem Xkw:Qx0.h=arg1 (fun G a0 m=>Qgb G a0 m):=by kernel_rfl
theorem Xm1 (d:Nat) (a0:Value) (m:Mem):TA (d + 1) Q6o [a0] m=outOf m (Qgb ⟨TA d,18446744073709551616⟩ a0 (X3 m m.next)):=by
 rw [Xl (e:=Qx0) (by kernel_rfl) (by kernel_rfl) (by kernel_rfl),Xkw,X15]
theorem Xkk:Qx4.h=arg2 (fun G a0 a1 m=>Qkb G a0 a1 m):=by kernel_rfl
theorem Xyg (d:Nat) (a0 a1:Value) (m:Mem):TA (d + 1) Qwk [a0,a1] m=outOf m (Qkb ⟨TA d,18446744073709551616⟩ a0 a1 (X3 m m.next)):=by
 rw [Xl (e:=Qx4) (by kernel_rfl) (by kernel_rfl) (by kernel_rfl),Xkk,Xw]
theorem Xcw:Qau.h=arg2 (fun G a0 a1 m=>Q2v G a0 a1 m):=by kernel_rfl
theorem Xrz (d:Nat) (a0 a1:Value) (m:Mem):TA (d + 1) Qq [a0,a1] m=outOf m (Q2v ⟨TA d,18446744073709551616⟩ a0 a1 (X3 m m.next)):=by
 rw [Xl (e:=Qau) (by kernel_rfl) (by kernel_rfl) (by kernel_rfl),Xcw,Xw]
theorem Xbd:Q8w.h=arg1 (fun G a0 m=>Q2m G a0 m):=by kernel_rfl
theorem Xqi (d:Nat) (a0:Value) (m:Mem):TA (d + 1) Q6b [a0] m=outOf m (Q2m ⟨TA d,18446744073709551616⟩ a0 (X3 m m.next)):=by
 rw [Xl (e:=Q8w) (by kernel_rfl) (by kernel_rfl) (by kernel_rfl),Xbd,X15]
theorem Xis:Qv1.h=arg2 (fun G a0 a1 m=>Qi2 G a0 a1 m):=by kernel_rfl
theorem Xxt (d:Nat) (a0 a1:Value) (m:Mem):TA (d + 1) Qua [a0,a1] m=outOf m (Qi2 ⟨TA d,18446744073709551616⟩ a0 a1 (X3 m m.next)):=by
 rw [Xl (e:=Qv1) (by kernel_rfl) (by kernel_rfl) (by kernel_rfl),Xis,Xw]
theorem Xee:Qqf.h=arg1 (fun G a0 m=>Qdi G a0 m):=by kernel_rfl
theorem Xv6 (d:Nat) (a0:Value) (m:Mem):TA (d + 1) Qii [a0] m=outOf m (Qdi ⟨TA d,18446744073709551616⟩ a0 (X3 m m.next)):=by
 rw [Xl (e:=Qqf) (by kernel_rfl) (by kernel_rfl) (by kernel_rfl),Xee,X15]
theorem Xe9:Qq5.h=arg1 (fun G a0 m=>Q8u G a0 m):=by kernel_rfl
theorem Xef (d:Nat) (a0:Value) (m:Mem):TA (d + 1) Qcy [a0] m=outOf m (Q8u ⟨TA d,18446744073709551616⟩ a0 (X3 m m.next)):=by
 rw [Xl (e:=Qq5) (by kernel_rfl) (by kernel_rfl) (by kernel_rfl),Xe9,X15]
theorem Xfo:Qse.h=arg1 (fun G a0 m=>Qap G a0 m):=by kernel_rfl
theorem Xhf (d:Nat) (a0:Value) (m:Mem):TA (d + 1) Q7n [a0] m=outOf m (Qap ⟨TA d,18446744073709551616⟩ a0 (X3 m m.next)):=by
 rw [Xl (e:=Qse) (by kernel_rfl) (by kernel_rfl) (by kernel_rfl),Xfo,X15]
theorem Xdl:Qnt.h=arg2 (fun G a0 a1 m=>Q7l G a0 a1 m):=by kernel_rfl
theorem Xcp (d:Nat) (a0 a1:Value) (m:Mem):TA (d + 1) Q54 [a0,a1] m=outOf m (Q7l ⟨TA d,18446744073709551616⟩ a0 a1 (X3 m m.next)):=by
 rw [Xl (e:=Qnt) (by kernel_rfl) (by kernel_rfl) (by kernel_rfl),Xdl,Xw]
theorem Xgf:Qsm.h=arg3 (fun G a0 a1 a2 m=>Qfs G a0 a1 a2 m):=by kernel_rfl
theorem Xvz (d:Nat) (a0 a1 a2:Value) (m:Mem):TA (d + 1) Qru [a0,a1,a2] m=outOf m (Qfs ⟨TA d,18446744073709551616⟩ a0 a1 a2 (X3 m m.next)):=by
 rw [Xl (e:=Qsm) (by kernel_rfl) (by kernel_rfl) (by kernel_rfl),Xgf,X1t]
theorem X4h:Q7w.h=arg2 (fun G a0 a1 m=>Q1n G a0 a1 m):=by kernel_rfl
theorem X4i (d:Nat) (a0 a1:Value) (m:Mem):TA (d + 1) Q49 [a0,a1] m=outOf m (Q1n ⟨TA d,18446744073709551616⟩ a0 a1 (X3 m m.next)):=by
 rw [Xl (e:=Q7w) (by kernel_rfl) (by kernel_rfl) (by kernel_rfl),X4h,Xw]
theorem Xp7:Qzx.h=arg1 (fun G a0 m=>Qio G a0 m):=by kernel_rfl
theorem Xq9 (d:Nat) (a0:Value) (m:Mem):TA (d + 1) Qn1 [a0] m=outOf m (Qio ⟨TA d,18446744073709551616⟩ a0 (X3 m m.next)):=by
 rw [Xl (e:=Qzx) (by kernel_rfl) (by kernel_rfl) (by kernel_rfl),Xp7,X15]
theorem Xiy:Quv.h=arg2 (fun G a0 a1 m=>Qd4 G a0 a1 m):=by kernel_rfl
theorem Xk0 (d:Nat) (a0 a1:Value) (m:Mem):TA (d + 1) Q1p [a0,a1] m=outOf m (Qd4 ⟨TA d,18446744073709551616⟩ a0 a1 (X3 m m.next)):=by
 rw [Xl (e:=Quv) (by kernel_rfl) (by kernel_rfl) (by kernel_rfl),Xiy,Xw]
theorem Xcb:Qnu.h=arg1 (fun G a0 m=>Qb9 G a0 m):=by kernel_rfl
theorem Xrg (d:Nat) (a0:Value) (m:Mem):TA (d + 1) Qn6 [a0] m=outOf m (Qb9 ⟨TA d,18446744073709551616⟩ a0 (X3 m m.next)):=by
 rw [Xl (e:=Qnu) (by kernel_rfl) (by kernel_rfl) (by kernel_rfl),Xcb,X15]
theorem Xal:Qjk.h=arg1 (fun G a0 m=>Q86 G a0 m):=by kernel_rfl
theorem Xq2 (d:Nat) (a0:Value) (m:Mem):TA (d + 1) Qj3 [a0] m=outOf m (Q86 ⟨TA d,18446744073709551616⟩ a0 (X3 m m.next)):=by
 rw [Xl (e:=Qjk) (by kernel_rfl) (by kernel_rfl) (by kernel_rfl),Xal,X15]
theorem Xcq:Qnv.h=arg1 (fun G a0 m=>Qba G a0 m):=by kernel_rfl
theorem Xu1 (d:Nat) (a0:Value) (m:Mem):TA (d + 1) Qw6 [a0] m=outOf m (Qba ⟨TA d,18446744073709551616⟩ a0 (X3 m m.next)):=by
 rw [Xl (e:=Qnv) (by kernel_rfl) (by kernel_rfl) (by kernel_rfl),Xcq,X15]
theorem Xhn:Qsn.h=arg5 (fun G a0 a1 a2 a3 a4 m=>Qft G a0 a2 a3 a4 a1 m):=by kernel_rfl
theorem Xvo (d:Nat) (a0 a1 a2 a3 a4:Value) (m:Mem):TA (d + 1) Q10g [a0,a1,a2,a3,a4] m=outOf m (Qft ⟨TA d,18446744073709551616⟩ a0 a2 a3 a4 a1 (X3 m m.next)):=by
 rw [Xl (e:=Qsn) (by kernel_rfl) (by kernel_rfl) (by kernel_rfl),Xhn,X8k]
theorem Xgp:Qso.h=arg4 (fun G a0 a1 a2 a3 m=>Qfu G a0 a2 a3 a1 m):=by kernel_rfl
theorem Xwu (d:Nat) (a0 a1 a2 a3:Value) (m:Mem):TA (d + 1) Q10h [a0,a1,a2,a3] m=outOf m (Qfu ⟨TA d,18446744073709551616⟩ a0 a2 a3 a1 (X3 m m.next)):=by
 rw [Xl (e:=Qso) (by kernel_rfl) (by kernel_rfl) (by kernel_rfl),Xgp,X2q]
theorem Xup:Q13o.h=arg1 (fun G a0 m=>Qrd G a0 m):=by kernel_rfl
theorem X11u (d:Nat) (a0:Value) (m:Mem):TA (d + 1) Q12w [a0] m=outOf m (Qrd ⟨TA d,18446744073709551616⟩ a0 (X3 m m.next)):=by
 rw [Xl (e:=Q13o) (by kernel_rfl) (by kernel_rfl) (by kernel_rfl),Xup,X15]
theorem Xsf:Qr0.h=arg1 (fun G a0 m=>Qav G a0 m):=by kernel_rfl
theorem X10u (d:Nat) (a0:Value) (m:Mem):TA (d + 1) Qaw [a0] m=outOf m (Qav ⟨TA d,18446744073709551616⟩ a0 (X3 m m.next)):=by
 rw [Xl (e:=Qr0) (by kernel_rfl) (by kernel_rfl) (by kernel_rfl),Xsf,X15]
theorem Xpm:Q100.h=arg1 (fun G a0 m=>Qnw G a0 m):=by kernel_rfl
theorem X10p (d:Nat) (a0:Value) (m:Mem):TA (d + 1) Qzg [a0] m=outOf m (Qnw ⟨TA d,18446744073709551616⟩ a0 (X3 m m.next)):=by
 rw [Xl (e:=Q100) (by kernel_rfl) (by kernel_rfl) (by kernel_rfl),Xpm,X15]
theorem X2p:Q2z.h=arg1 (fun G a0 m=>Qz G a0 m):=by kernel_rfl
theorem X7i (d:Nat) (a0:Value) (m:Mem):TA (d + 1) Q6m [a0] m=outOf m (Qz ⟨TA d,18446744073709551616⟩ a0 (X3 m m.next)):=by
 rw [Xl (e:=Q2z) (by kernel_rfl) (by kernel_rfl) (by kernel_rfl),X2p,X15]
theorem X44:Q77.h=arg1 (fun G a0 m=>Q2h G a0 m):=by kernel_rfl
theorem Xdp (d:Nat) (a0:Value) (m:Mem):TA (d + 1) Q6z [a0] m=outOf m (Q2h ⟨TA d,18446744073709551616⟩ a0 (X3 m m.next)):=by
 rw [Xl (e:=Q77) (by kernel_rfl) (by kernel_rfl) (by kernel_rfl),X44,X15]
theorem X40:Q6j.h=arg2 (fun G a0 a1 m=>Q2a G a0 a1 m):=by kernel_rfl
theorem Xby (d:Nat) (a0 a1:Value) (m:Mem):TA (d + 1) Q6g [a0,a1] m=outOf m (Q2a ⟨TA d,18446744073709551616⟩ a0 a1 (X3 m m.next)):=by
 rw [Xl (e:=Q6j) (by kernel_rfl) (by kernel_rfl) (by kernel_rfl),X40,Xw]
theorem X3s:Q5x.h=arg2 (fun G a0 a1 m=>Q23 G a0 a1 m):=by kernel_rfl
theorem Xbl (d:Nat) (a0 a1:Value) (m:Mem):TA (d + 1) Qcb [a0,a1] m=outOf m (Q23 ⟨TA d,18446744073709551616⟩ a0 a1 (X3 m m.next)):=by
 rw [Xl (e:=Q5x) (by kernel_rfl) (by kernel_rfl) (by kernel_rfl),X3s,Xw]
theorem X4t:Q8l.h=arg2 (fun G a0 a1 m=>Q2y G a0 a1 m):=by kernel_rfl
theorem Xec (d:Nat) (a0 a1:Value) (m:Mem):TA (d + 1) Q4x [a0,a1] m=outOf m (Q2y ⟨TA d,18446744073709551616⟩ a0 a1 (X3 m m.next)):=by
 rw [Xl (e:=Q8l) (by kernel_rfl) (by kernel_rfl) (by kernel_rfl),X4t,Xw]
theorem X3b:Q50.h=arg2 (fun G a0 a1 m=>Q14 G a0 a1 m):=by kernel_rfl
theorem X38 (d:Nat) (a0 a1:Value) (m:Mem):TA (d + 1) Q2p [a0,a1] m=outOf m (Q14 ⟨TA d,18446744073709551616⟩ a0 a1 (X3 m m.next)):=by
 rw [Xl (e:=Q50) (by kernel_rfl) (by kernel_rfl) (by kernel_rfl),X3b,Xw]
theorem X54:Q9r.h=arg1 (fun G a0 m=>Q39 G a0 m):=by kernel_rfl
theorem Xf8 (d:Nat) (a0:Value) (m:Mem):TA (d + 1) Q9a [a0] m=outOf m (Q39 ⟨TA d,18446744073709551616⟩ a0 (X3 m m.next)):=by
 rw [Xl (e:=Q9r) (by kernel_rfl) (by kernel_rfl) (by kernel_rfl),X54,X15]
theorem X34:Q4o.h=arg3 (fun G a0 a1 a2 m=>Q1k G a2 a1 a0 m):=by kernel_rfl
theorem X9t (d:Nat) (a0 a1 a2:Value) (m:Mem):TA (d + 1) Q4l [a0,a1,a2] m=outOf m (Q1k ⟨TA d,18446744073709551616⟩ a2 a1 a0 (X3 m m.next)):=by
 rw [Xl (e:=Q4o) (by kernel_rfl) (by kernel_rfl) (by kernel_rfl),X34,X1t]
theorem X2y:Q3h.h=arg3 (fun G a0 a1 a2 m=>Q1b G a1 a2 a0 m):=by kernel_rfl
theorem X8n (d:Nat) (a0 a1 a2:Value) (m:Mem):TA (d + 1) Q3f [a0,a1,a2] m=outOf m (Q1b ⟨TA d,18446744073709551616⟩ a1 a2 a0 (X3 m m.next)):=by
 rw [Xl (e:=Q3h) (by kernel_rfl) (by kernel_rfl) (by kernel_rfl),X2y,X1t]
theorem X4b:Q78.h=arg5 (fun G a0 a1 a2 a3 a4 m=>Q2i G a0 a1 a2 a4 a3 m):=by kernel_rfl
theorem Xe0 (d:Nat) (a0 a1 a2 a3 a4:Value) (m:Mem):TA (d + 1) Q70 [a0,a1,a2,a3,a4] m=outOf m (Q2i ⟨TA d,18446744073709551616⟩ a0 a1 a2 a4 a3 (X3 m m.next)):=by
 rw [Xl (e:=Q78) (by kernel_rfl) (by kernel_rfl) (by kernel_rfl),X4b,X8k]
theorem X48:Q79.h=arg4 (fun G a0 a1 a2 a3 m=>Q2j G a0 a2 a1 a3 m):=by kernel_rfl
theorem Xca (d:Nat) (a0 a1 a2 a3:Value) (m:Mem):TA (d + 1) Q2g [a0,a1,a2,a3] m=outOf m (Q2j ⟨TA d,18446744073709551616⟩ a0 a2 a1 a3 (X3 m m.next)):=by
 rw [Xl (e:=Q79) (by kernel_rfl) (by kernel_rfl) (by kernel_rfl),X48,X2q]
theorem X28:Q2e.h=arg3 (fun G a0 a1 a2 m=>Qp G a1 a2 a0 m):=by kernel_rfl
theorem X67 (d:Nat) (a0 a1 a2:Value) (m:Mem):TA (d + 1) Q2d [a0,a1,a2] m=outOf m (Qp ⟨TA d,18446744073709551616⟩ a1 a2 a0 (X3 m m.next)):=by
 rw [Xl (e:=Q2e) (by kernel_rfl) (by kernel_rfl) (by kernel_rfl),X28,X1t]
theorem X3r:Q5q.h=arg4 (fun G a0 a1 a2 a3 m=>Q1r G a0 a1 a3 a2 m):=by kernel_rfl
theorem Xaz (d:Nat) (a0 a1 a2 a3:Value) (m:Mem):TA (d + 1) Q58 [a0,a1,a2,a3] m=outOf m (Q1r ⟨TA d,18446744073709551616⟩ a0 a1 a3 a2 (X3 m m.next)):=by
 rw [Xl (e:=Q5q) (by kernel_rfl) (by kernel_rfl) (by kernel_rfl),X3r,X2q]
theorem X3z:Q6k.h=arg4 (fun G a0 a1 a2 a3 m=>Q2b G a2 a1 a0 a3 m):=by kernel_rfl
theorem Xc0 (d:Nat) (a0 a1 a2 a3:Value) (m:Mem):TA (d + 1) Q27 [a0,a1,a2,a3] m=outOf m (Q2b ⟨TA d,18446744073709551616⟩ a2 a1 a0 a3 (X3 m m.next)):=by
 rw [Xl (e:=Q6k) (by kernel_rfl) (by kernel_rfl) (by kernel_rfl),X3z,X2q]
theorem Xh3:Qsj.h=arg2 (fun G a0 a1 m=>Qar G a0 a1 m):=by kernel_rfl
theorem Xg7 (d:Nat) (a0 a1:Value) (m:Mem):TA (d + 1) Q3c [a0,a1] m=outOf m (Qar ⟨TA d,18446744073709551616⟩ a0 a1 (X3 m m.next)):=by
 rw [Xl (e:=Qsj) (by kernel_rfl) (by kernel_rfl) (by kernel_rfl),Xh3,Xw]
theorem Xe8:Qnx.h=arg2 (fun G a0 a1 m=>Q7m G a0 a1 m):=by kernel_rfl
theorem Xdg (d:Nat) (a0 a1:Value) (m:Mem):TA (d + 1) Qhc [a0,a1] m=outOf m (Q7m ⟨TA d,18446744073709551616⟩ a0 a1 (X3 m m.next)):=by
 rw [Xl (e:=Qnx) (by kernel_rfl) (by kernel_rfl) (by kernel_rfl),Xe8,Xw]
theorem X8b:Qgp.h=arg2 (fun G a0 a1 m=>Q3k G a0 a1 m):=by kernel_rfl
theorem X8l (d:Nat) (a0 a1:Value) (m:Mem):TA (d + 1) Q61 [a0,a1] m=outOf m (Q3k ⟨TA d,18446744073709551616⟩ a0 a1 (X3 m m.next)):=by
 rw [Xl (e:=Qgp) (by kernel_rfl) (by kernel_rfl) (by kernel_rfl),X8b,Xw]
theorem X8a:Qgk.h=arg2 (fun G a0 a1 m=>Q25 G a1 a0 m):=by kernel_rfl
theorem X47 (d:Nat) (a0 a1:Value) (m:Mem):TA (d + 1) Q1l [a0,a1] m=outOf m (Q25 ⟨TA d,18446744073709551616⟩ a1 a0 (X3 m m.next)):=by
 rw [Xl (e:=Qgk) (by kernel_rfl) (by kernel_rfl) (by kernel_rfl),X8a,Xw]
theorem Xdw:Qnj.h=arg2 (fun G a0 a1 m=>Q5b G a0 a1 m):=by kernel_rfl
theorem Xc7 (d:Nat) (a0 a1:Value) (m:Mem):TA (d + 1) Q2x [a0,a1] m=outOf m (Q5b ⟨TA d,18446744073709551616⟩ a0 a1 (X3 m m.next)):=by
 rw [Xl (e:=Qnj) (by kernel_rfl) (by kernel_rfl) (by kernel_rfl),Xdw,Xw]
theorem X8y:Qhw.h=arg4 (fun G a0 a1 a2 a3 m=>Q36 G a3 a1 a0 a2 m):=by kernel_rfl
theorem X9a (d:Nat) (a0 a1 a2 a3:Value) (m:Mem):TA (d + 1) Qb0 [a0,a1,a2,a3] m=outOf m (Q36 ⟨TA d,18446744073709551616⟩ a3 a1 a0 a2 (X3 m m.next)):=by
 rw [Xl (e:=Qhw) (by kernel_rfl) (by kernel_rfl) (by kernel_rfl),X8y,X2q]
theorem X4x:Q9s.h=arg1 (fun G a0 m=>Q2c G a0 m):=by kernel_rfl
theorem X57 (d:Nat) (a0:Value) (m:Mem):TA (d + 1) Q55 [a0] m=outOf m (Q2c ⟨TA d,18446744073709551616⟩ a0 (X3 m m.next)):=by
 rw [Xl (e:=Q9s) (by kernel_rfl) (by kernel_rfl) (by kernel_rfl),X4x,X15]
theorem X63:Qbo.h=arg2 (fun G a0 a1 m=>Q2t G a1 a0 m):=by kernel_rfl
theorem X60 (d:Nat) (a0 a1:Value) (m:Mem):TA (d + 1) Q3n [a0,a1] m=outOf m (Q2t ⟨TA d,18446744073709551616⟩ a1 a0 (X3 m m.next)):=by
 rw [Xl (e:=Qbo) (by kernel_rfl) (by kernel_rfl) (by kernel_rfl),X63,Xw]
theorem X81:Qgq.h=arg1 (fun G a0 m=>Q67 G a0 m):=by kernel_rfl
theorem Xm0 (d:Nat) (a0:Value) (m:Mem):TA (d + 1) Qp6 [a0] m=outOf m (Q67 ⟨TA d,18446744073709551616⟩ a0 (X3 m m.next)):=by
 rw [Xl (e:=Qgq) (by kernel_rfl) (by kernel_rfl) (by kernel_rfl),X81,X15]
theorem X8c:Qgr.h=arg1 (fun G a0 m=>Q68 G a0 m):=by kernel_rfl
theorem Xm9 (d:Nat) (a0:Value) (m:Mem):TA (d + 1) Qgf [a0] m=outOf m (Q68 ⟨TA d,18446744073709551616⟩ a0 (X3 m m.next)):=by
 rw [Xl (e:=Qgr) (by kernel_rfl) (by kernel_rfl) (by kernel_rfl),X8c,X15]
theorem X7y:Qgs.h=arg1 (fun G a0 m=>Q69 G a0 m):=by kernel_rfl
theorem Xki (d:Nat) (a0:Value) (m:Mem):TA (d + 1) Qge [a0] m=outOf m (Q69 ⟨TA d,18446744073709551616⟩ a0 (X3 m m.next)):=by
 rw [Xl (e:=Qgs) (by kernel_rfl) (by kernel_rfl) (by kernel_rfl),X7y,X15]
end Go.Ab.Sh

namespace Go.Ab
open Go Go.Lib

def isD (c:UInt8):Bool:=Nat.ble 48 c.toNat && Nat.ble c.toNat 57
theorem Xlk (c:UInt8):isD c=true ↔ 48 ≤ c.toNat∧c.toNat ≤ 57:=by unfold isD; simp [Nat.ble_eq]
def val:Nat→Str→Nat
 | acc,[]=>acc
 | acc,c :: l=>val (acc * 10 + (c.toNat - 48)) l
theorem val_append (l:Str) (c:UInt8):∀ acc,val acc (l ++ [c])=val acc l * 10 + (c.toNat - 48):=by
 induction l with
 | nil=>intro acc; rfl
 | cons a l ih=>intro acc; exact ih _
theorem Xvi (d:Nat) (h:d < 10):(UInt8.ofNat (48 + d)).toNat=48 + d:=by
 rw [UInt8.toNat_ofNat']; omega
theorem Xcr {n:Nat} (h:n < 10):decDigits n=[UInt8.ofNat (48 + n)]:=by rw [decDigits,dif_pos h]
theorem Xma {n:Nat} (h:¬ n < 10):decDigits n=decDigits (n / 10) ++ [UInt8.ofNat (48 + n % 10)]:=by rw [decDigits,dif_neg h]
theorem Xsx (n:Nat):decDigits n ≠ []:=by
 intro h
 have:=decDigits_length n
 rw [h] at this
 have:=nDigits_pos n
 simp at *
 omega
theorem Xcs (n:Nat):val 0 (decDigits n)=n:=by
 induction n using Nat.strongRecOn with
 | _ n ih =>
  by_cases h:n < 10
  ·rw [Xcr h]
   show 0 * 10 + ((UInt8.ofNat (48 + n)).toNat - 48)=n
   rw [Xvi n h]; omega
  ·rw [Xma h,val_append,ih (n / 10) (by omega),Xvi _ (Nat.mod_lt _ (by omega))]
   omega
theorem Xm8 (n:Nat):(decDigits n).all isD=true:=by
 induction n using Nat.strongRecOn with
 | _ n ih =>
  by_cases h:n < 10
  ·rw [Xcr h]
   simp only [List.all_cons,List.all_nil,Bool.and_true,Xlk,Xvi n h]; omega
  ·rw [Xma h,List.all_append,ih (n / 10) (by omega)]
   simp only [List.all_cons,List.all_nil,Bool.and_true,Bool.true_and,Xlk,Xvi _ (Nat.mod_lt n (by omega:0 < 10))]
   have:=Nat.mod_lt n (by omega:0 < 10)
   omega
def nz (s:Str):Prop:=1 < s.length→∀ c,s.head?=some c→c.toNat ≠ 48
def num (most:Nat) (s:Str):Option Nat:=if s=decDigits (val 0 s)∧val 0 s ≤ most then some (val 0 s) else none
theorem num_some {most:Nat} {s:Str} {n:Nat}:num most s=some n ↔ s=decDigits n∧n ≤ most:=by
 unfold num
 constructor
 ·intro h
  split at h
  ·rename_i h1
   cases h
   exact h1
  ·cases h
 ·rintro ⟨rfl,h⟩
  rw [Xcs,if_pos ⟨rfl,h⟩]
theorem X5r {most n:Nat} (h:n ≤ most):num most (decDigits n)=some n:=num_some.mpr ⟨rfl,h⟩
theorem X3d (n:Nat):itoa (n:Int)=decDigits n:=by
 unfold itoa
 rw [if_neg (by omega),Int.toNat_natCast]
theorem Xqu {c:UInt8} (h:isD c=true):48 ≤ c.toNat∧c.toNat ≤ 57:=(Xlk c).mp h
theorem Xdj:∀ (l:Str) (acc:Nat),l.all isD=true→val acc l < 1844674407370955162→parseUint10 acc l=.ok (val acc l)
 | [],acc,_,_=>rfl
 | c :: l,acc,h,hv=>by
  simp only [List.all_cons,Bool.and_eq_true] at h
  have hc:=Xqu h.1
  have mono:∀ (l:Str) (a:Nat),a ≤ val a l:=by
   intro l
   induction l with
   | nil=>intro a; exact Nat.le_refl _
   | cons c l ih=>intro a; exact Nat.le_trans (by omega) (ih _)
  have h1:=mono l (acc * 10 + (c.toNat - 48))
  have hv':val (acc * 10 + (c.toNat - 48)) l < 1844674407370955162:=hv
  show (if 48 ≤ c.toNat∧c.toNat ≤ 57 then _ else _)=_
  rw [if_pos hc,if_neg (by omega),if_neg (by omega)]
  exact Xdj l _ h.2 hv'
theorem Xwh (n:Nat) (h:n < 1000000000000):atoiAll (decDigits n)=.ok (n:Int):=by
 have ha:=Xm8 n
 have hp:=Xdj (decDigits n) 0 ha (by rw [Xcs]; omega)
 rw [Xcs] at hp
 cases hd:decDigits n with
 | nil=>exact absurd hd (Xsx n)
 | cons c r =>
  rw [hd] at ha hp
  simp only [List.all_cons,Bool.and_eq_true] at ha
  have hc:=Xqu ha.1
  unfold atoiAll
  simp only
  rw [if_neg (by omega)]
  unfold parseMag
  rw [if_neg (by simp),hp]
  simp only
  rw [if_neg (by omega),if_neg (by omega),if_neg (by omega)]
theorem Xz5 (n k:Nat) (hk:1 ≤ k) (h:n < 10 ^ k):(decDigits n).length ≤ k:=by
 induction k generalizing n with
 | zero=>omega
 | succ k ih =>
  by_cases hn:n < 10
  ·rw [Xcr hn]; simp
  ·rw [Xma hn,List.length_append]
   have:1 ≤ k:=by
    cases k with
    | zero=>simp at h; omega
    | succ k=>omega
   have:=ih (n / 10) this (by rw [Nat.pow_succ] at h; omega)
   simp only [List.length_cons,List.length_nil]
   omega
end Go.Ab

set_option maxRecDepth 100000
namespace Go.Ab
open Go Go.Lib
theorem X50 {n:Nat} (h:n < 9223372036854775808):X7c (n:Int)=true:=Nat.blt_eq.mpr h
theorem Fr.wl {m:Mem} {l:Nat}:Fr [] (X3 m l) (X3 m l):=.refl _ _
end Go.Ab
namespace Go.Ab.Sh
open Go Go.Ab Go.Lib

theorem c_Itoa (n:Int) (h:X7c n=true) (d:Nat) (m:Mem):TA d Qb [I n] m=some (sv (itoa n),m):=by
 refine Xhd (o:=Q1kq) (by kernel_rfl) ?_ d
 obtain ⟨q1,q2⟩:=Xdc h
 show (if Qb=Qb∧X7c n=true then some (Value.string ⟨(Xzz n).toArray⟩,m) else none)=_
 rw [if_pos ⟨rfl,h⟩,Xop q1 q2]
 rfl
theorem c_ItoaN (n:Nat) (h:n < 1000000000000) (d:Nat) (m:Mem):TA d Qb [I n] m=some (sv (decDigits n),m):=by
 rw [c_Itoa n (X50 (by omega)),X3d]
theorem c_Atoi (s:Str) (hs:s.length ≤ 4194304) (d:Nat) (m:Mem):∃ v e m1,TA d Q2r [sv s] m=some (.tuple ⟨[I v,e]⟩,m1)∧Fr [] m m1 ∧
  ((atoiAll s=.ok v∧e=.nilIface)∨((∀ v,atoiAll s ≠ .ok v)∧∃ p,e=.iface Q5 (.pointer (some p)))):=by
 have key:∀ r,Q18y Q2r [sv s] m=some r→TA d Q2r [sv s] m=some r:=fun r h=>Xhd (o:=Q18y) (by kernel_rfl) h d
 have e:Q18y Q2r [sv s] m=(match atoiAll s with
   | .ok v=>some (.tuple #[.int .i64 v,.nilIface],m)
   | Lib.NumEnd.syntax=>errV (.int .i64 0) Q5 m
   | .range=>errV (.int .i64 (atoiSat s)) Q5 m):=by
  show (if Q2r=Q2r∧s.length ≤ 281474976710656 then _ else none)=_
  rw [if_pos ⟨rfl,by omega⟩]
  rfl
 rw [e] at key
 cases h:atoiAll s with
 | ok v =>
  rw [h] at key
  exact ⟨v,.nilIface,m,key _ rfl,.refl _ _,.inl ⟨rfl,rfl⟩⟩
 | range =>
  rw [h] at key
  exact ⟨_,_,_,key _ rfl,.push _,.inr ⟨by simp,_,rfl⟩⟩
 | _ =>
  rw [h] at key
  exact ⟨0,_,_,key _ rfl,.push _,.inr ⟨by simp,_,rfl⟩⟩
theorem nilI (g:Bool):bin .neq true g .iface .nilIface .nilIface=some (.bool false):=by
 rw [X1c]; cases g <;> rfl
theorem nilE (g:Bool):bin .eql true g .iface .nilIface .nilIface=some (.bool true):=by
 rw [X1c]; cases g <;> rfl
theorem Xzy (T:TypeId) (p:Addr):bin .neq true false .iface (.iface T (.pointer (some p))) .nilIface=some (.bool true):=by rw [X1c]; rfl
theorem X13d (T:TypeId) (p:Addr):bin .eql true false .iface (.iface T (.pointer (some p))) .nilIface=some (.bool false):=by rw [X1c]; rfl

theorem Xx5 {s:Str} {v:Int} {most:Nat} (h:atoiAll s=.ok v):(0 ≤ v∧v ≤ most∧itoa v=s) ↔ num most s=some v.toNat∧0 ≤ v:=by
 constructor
 ·rintro ⟨h1,h2,h3⟩
  obtain ⟨n,rfl⟩:=Int.eq_ofNat_of_zero_le h1
  rw [X3d] at h3
  exact ⟨num_some.mpr ⟨h3.symm,by omega⟩,h1⟩
 ·rintro ⟨h1,h2⟩
  obtain ⟨n,rfl⟩:=Int.eq_ofNat_of_zero_le h2
  obtain ⟨q1,q2⟩:=num_some.mp h1
  rw [Int.toNat_natCast] at q1 q2
  exact ⟨h2,by omega,by rw [X3d]; exact q1.symm⟩
theorem X3w {s:Str} {n most:Nat} (hm:most < 1000000000000) (h:num most s=some n):atoiAll s=.ok (n:Int):=by
 obtain ⟨rfl,h2⟩:=num_some.mp h
 exact Xwh n (by omega)
theorem c_lexNumber (s:Str) (hs:s.length ≤ 4194304) (most:Nat) (hm:most < 1000000000000) (d:Nat) (m:Mem) :
  TA (d + 1) Q1p [sv s,I most] m=some (match num most s with | some n=>.tuple ⟨[I n,.bool true]⟩ | none=>.tuple ⟨[I 0,.bool false]⟩,m):=by
 rw [Xk0]
 obtain ⟨v,e,m1,k1,k2,k3⟩:=c_Atoi s hs d (X3 m m.next)
 refine X4p (m1:=m1) ?_ k2 (by cases num most s <;> rfl)
 unfold Qd4 Qq4 Qq3
 simp only [k1,X9,ex0,ex1,X7]
 rcases k3 with ⟨h1,rfl⟩ | ⟨h1,p,rfl⟩
 ·have ht:=Xx5 (most:=most) h1
  simp only [nilI,X7,Xd,Q34,Qwd,Xj,Q6i,Xh]
  by_cases c1:v < 0
  ·rw [if_pos c1]
   cases hn:num most s with
   | none=>rfl
   | some n=>have:=X3w hm hn; rw [h1] at this; cases this; omega
  ·rw [if_neg c1]
   by_cases c2:(most:Int) < v
   ·rw [if_pos c2]
    cases hn:num most s with
    | none=>rfl
    | some n =>
     have:=X3w hm hn; rw [h1] at this; cases this
     have:=(num_some.mp hn).2
     omega
   ·rw [if_neg c2]
    obtain ⟨n,rfl⟩:=Int.eq_ofNat_of_zero_le (by omega:0 ≤ v)
    have c2':n ≤ most:=by omega
    rw [c_ItoaN n (by omega)]
    simp only [X9,Q13n,X7,Xj]
    by_cases c3:decDigits n=s
    ·have:num most s=some n:=num_some.mpr ⟨c3.symm,c2'⟩
     rw [this,if_neg (by simpa using c3)]
    ·rw [if_pos c3]
     cases hn:num most s with
     | none=>rfl
     | some k =>
      have:=X3w hm hn; rw [h1] at this; cases this
      exact absurd (num_some.mp hn).1.symm c3
 ·simp only [Xzy,X7,Xh,Q6i]
  cases hn:num most s with
  | none=>rfl
  | some n=>exact absurd (X3w hm hn) (h1 _)
theorem c_addrNumber (s:Str) (hs:s.length ≤ 4194304) (most:Nat) (hm:most < 1000000000000) (d:Nat) (m:Mem) :
  ∃ v:Int,TA (d + 1) Q5w [sv s,I most] m=some (.tuple ⟨[I v,.bool (num most s).isSome]⟩,m)∧∀ n,num most s=some n→v=n:=by
 rw [Xfs]
 obtain ⟨v,e,m1,k1,k2,k3⟩:=c_Atoi s hs d (X3 m m.next)
 refine ⟨v,X4p (m1:=m1) ?_ k2 rfl,?_⟩
 ·unfold Qas Qnr Qnq
  simp only [k1,X9,ex0,ex1,X7]
  rcases k3 with ⟨h1,rfl⟩ | ⟨h1,p,rfl⟩
  ·simp only [nilE,X7,Xh,Qzz,Q1e9,Xj,Q5g]
   by_cases c1:0 ≤ v
   ·rw [if_pos c1]
    by_cases c2:v ≤ (most:Int)
    ·rw [if_pos c2]
     obtain ⟨n,rfl⟩:=Int.eq_ofNat_of_zero_le c1
     rw [c_ItoaN n (by omega)]
     simp only [X9,Q18x,X7]
     by_cases c3:decDigits n=s
     ·have:num most s=some n:=num_some.mpr ⟨c3.symm,by omega⟩
      rw [this]; simp [c3]
     ·cases hn:num most s with
      | none=>simp [c3]
      | some k =>
       have:=X3w hm hn; rw [h1] at this; cases this
       exact absurd (num_some.mp hn).1.symm c3
    ·rw [if_neg c2]
     cases hn:num most s with
     | none=>rfl
     | some n =>
      have:=X3w hm hn; rw [h1] at this; cases this
      have:=(num_some.mp hn).2
      omega
   ·rw [if_neg c1]
    cases hn:num most s with
    | none=>rfl
    | some n=>have:=X3w hm hn; rw [h1] at this; cases this; omega
  ·simp only [X13d,X7,Xd,Q5g]
   cases hn:num most s with
   | none=>rfl
   | some n=>exact absurd (X3w hm hn) (h1 _)
 ·intro n hn
  have h2:=X3w hm hn
  rcases k3 with ⟨h1,_⟩ | ⟨h1,_⟩
  ·rw [h1] at h2; cases h2; rfl
  ·exact absurd h2 (h1 _)

theorem val_mono:∀ (l:Str) (a:Nat),a ≤ val a l
 | [],a=>Nat.le_refl _
 | c :: l,a=>Nat.le_trans (by omega) (val_mono l _)
end Go.Ab.Sh

set_option maxRecDepth 100000
namespace Go.Ab
open Go Go.Lib

def cut (c:UInt8):Str→Option (Str × Str)
 | []=>none
 | a :: l=>if a=c then some ([],l) else match cut c l with | none=>none | some (x,y)=>some (a :: x,y)
def split (c:UInt8):Str→List Str
 | []=>[[]]
 | a :: l=>if a=c then [] :: split c l else match split c l with | w :: ws=>(a :: w) :: ws | []=>[[a]]
theorem Xaa (c a:UInt8) (l:Str):split c (a :: l)=if a=c then [] :: split c l else match split c l with | w :: ws=>(a :: w) :: ws | []=>[[a]]:=rfl
theorem Xhh (c:UInt8):∀ l,split c l ≠ []
 | []=>by simp [split]
 | a :: l=>by
  unfold split
  split
  ·simp
  ·split <;> simp
theorem X59 {c:UInt8}:∀ {l:Str},cut c l=none→split c l=[l]
 | [],_=>rfl
 | a :: l,h=>by
  unfold cut at h
  rw [Xaa]
  split at h
  ·cases h
  ·rename_i hc
   rw [if_neg hc]
   cases hk:cut c l with
   | none=>rw [X59 hk]
   | some p=>rw [hk] at h; cases h
theorem X5a {c:UInt8}:∀ {l x y:Str},cut c l=some (x,y)→split c l=x :: split c y
 | a :: l,x,y,h=>by
  unfold cut at h
  rw [Xaa]
  split at h
  ·rename_i hc
   cases h
   rw [if_pos hc]
  ·rename_i hc
   rw [if_neg hc]
   cases hk:cut c l with
   | none=>rw [hk] at h; cases h
   | some p =>
    rw [hk] at h
    cases h
    rw [X5a hk]
theorem Xdq {c:UInt8}:∀ {l x y:Str},cut c l=some (x,y)→l=x ++ c :: y∧c ∉ x
 | a :: l,x,y,h=>by
  unfold cut at h
  split at h
  ·rename_i hc
   cases h
   subst hc
   exact ⟨rfl,by simp⟩
  ·rename_i hc
   cases hk:cut c l with
   | none=>rw [hk] at h; cases h
   | some p =>
    rw [hk] at h
    cases h
    obtain ⟨q1,q2⟩:=Xdq hk
    exact ⟨by rw [q1]; rfl,by simp only [List.mem_cons,not_or]; exact ⟨fun e=>hc e.symm,q2⟩⟩
theorem Xu5 {c:UInt8}:∀ {l:Str},cut c l=none→c ∉ l
 | [],_=>by simp
 | a :: l,h=>by
  unfold cut at h
  split at h
  ·cases h
  ·rename_i hc
   cases hk:cut c l with
   | none=>simp only [List.mem_cons,not_or]; exact ⟨fun e=>hc e.symm,Xu5 hk⟩
   | some p=>rw [hk] at h; cases h
theorem Xd5 {c:UInt8}:∀ {x:Str} (y:Str),c ∉ x→cut c (x ++ c :: y)=some (x,y)
 | [],y,_=>by simp [cut]
 | a :: x,y,h=>by
  simp only [List.mem_cons,not_or] at h
  have hne:¬ a=c:=fun e=>h.1 e.symm
  show (if a=c then some ([],x ++ c :: y) else match cut c (x ++ c :: y) with | none=>none | some (x,y)=>some (a :: x,y))=_
  rw [if_neg hne,Xd5 y h.2]
theorem Xug {c:UInt8}:∀ {x:Str},c ∉ x→cut c x=none
 | [],_=>rfl
 | a :: x,h=>by
  simp only [List.mem_cons,not_or] at h
  have hne:¬ a=c:=fun e=>h.1 e.symm
  show (if a=c then _ else _)=_
  rw [if_neg hne,Xug h.2]
theorem Xco {c:UInt8} {l x y:Str} (h:cut c l=some (x,y)):l.count c=y.count c + 1:=by
 obtain ⟨rfl,h2⟩:=Xdq h
 rw [List.count_append,List.count_cons_self,List.count_eq_zero_of_not_mem h2]
 omega
theorem count_none {c:UInt8} {l:Str} (h:cut c l=none):l.count c=0:=List.count_eq_zero_of_not_mem (Xu5 h)
theorem Xat {c:UInt8} {l x y:Str} (h:cut c l=some (x,y)):l.length=x.length + y.length + 1:=by
 obtain ⟨rfl,_⟩:=Xdq h
 simp; omega
theorem X95 (c:UInt8):∀ (n:Nat) (l:Str),l.length ≤ n→(split c l).length=l.count c + 1
 | n,l,hn=>by
  cases h:cut c l with
  | none=>rw [X59 h,count_none h]; rfl
  | some p =>
   obtain ⟨x,y⟩:=p
   rw [X5a h,Xco h]
   have:=Xat h
   cases n with
   | zero=>omega
   | succ n=>rw [List.length_cons,X95 c n y (by omega)]
theorem index_one (c:UInt8):∀ (l:Str),index l [c]=match cut c l with | none=>-1 | some (x,_)=>(x.length:Int)
 | []=>rfl
 | a :: l=>by
  have ih:=index_one c l
  unfold index cut
  by_cases hc:a=c
  ·subst hc
   simp
  ·have e:([c]:Str).isPrefixOf (a :: l)=false:=by
    simp [List.isPrefixOf]
    exact fun e=>hc e.symm
   rw [e,if_neg hc,ih]
   cases hk:cut c l with
   | none=>rfl
   | some p =>
    obtain ⟨x,y⟩:=p
    simp only [Bool.false_eq_true,if_false]
    have:((x.length:Int) == -1)=false:=by simp
    rw [this]
    simp

def SL (m:Mem) (v:Value) (ws:List Str):Prop:=
 ∃ b o r c fro ro ty,v=.slice (some ⟨b,o,some 1⟩) ws.length r∧b < m.next∧m.get b=some (.cells c (r / 2) fro ro ty)∧o + ws.length ≤ c.length∧∀ i w,ws[i]?=some w→c[o + i]?=some (sv w)
theorem SL.fr {W:List Nat} {m m':Mem} {v:Value} {ws:List Str} (h:SL m v ws) (f:Fr W m m') (hw:∀ b ∈ W,m.next ≤ b):SL m' v ws:=by
 obtain ⟨b,o,r,c,fro,ro,ty,h1,h2,h3,h4,h5⟩:=h
 exact ⟨b,o,r,c,fro,ro,ty,h1,Nat.lt_of_lt_of_le h2 f.next,by rw [f.get b h2 (fun hb=>by have:=hw b hb; omega)]; exact h3,h4,h5⟩
theorem SL.len {m:Mem} {v:Value} {ws:List Str} (h:SL m v ws) (m':Mem):lenK 1 v m'=some (I ws.length):=by
 obtain ⟨b,o,r,c,fro,ro,ty,rfl,_⟩:=h
 exact X5n _ _ _ _
theorem SL.at {m:Mem} {v:Value} {ws:List Str} (h:SL m v ws) {i:Nat} {w:Str} (hw:ws[i]?=some w):∃ p,X5 1 v (.int .i64 (i:Int))=some p∧X4 false 1 p m=some (sv w):=by
 obtain ⟨b,o,r,c,fro,ro,ty,rfl,h2,h3,h4,h5⟩:=h
 have hlt:i < ws.length:=(List.getElem?_eq_some_iff.mp hw).1
 refine ⟨pt b (o + i * 1) (r / 2),?_,?_⟩
 ·rw [X11]
  have h1:Nat.blt i ws.length=true:=Nat.blt_eq.mpr hlt
  show (match Nat.blt i ws.length && X1q (some 1) 1 with | true=>some (Value.pointer (some ⟨b,o + i * 1,some (r / 2)⟩)) | false=>none)=_
  rw [h1,X14]
  rfl
 ·rw [Nat.mul_one]
  exact Xt h3 (h5 i w hw)
theorem SL.tail {m:Mem} {v:Value} {w:Str} {ws:List Str} (h:SL m v (w :: ws)):∃ v',X2g 1 v (some (I 1)) none=some v'∧SL m v' ws:=by
 obtain ⟨b,o,r,c,fro,ro,ty,rfl,h2,h3,h4,h5⟩:=h
 refine ⟨.slice (some ⟨b,o + 1 * 1,some 1⟩) ws.length r,?_,b,o + 1 * 1,r,c,fro,ro,ty,rfl,h2,h3,by simp at h4; omega,fun i x hx=>?_⟩
 ·have hb:Nat.ble 1 (w :: ws).length=true:=Nat.ble_eq.mpr (by simp)
  show (match (match Nat.ble 1 (w :: ws).length with | true=>some 1 | false=>none) with
   | some l=>if some 1=some 1 then some (Value.slice (some ⟨b,o + l * 1,some 1⟩) ((w :: ws).length - l) (if (w :: ws).length=(w :: ws).length then r else r / 2 * 2)) else none
   | none=>none)=_
  rw [hb]
  simp
 ·have:=h5 (i + 1) x (by simpa using hx)
  rw [show o + 1 * 1 + i=o + (i + 1) by omega]
  exact this
end Go.Ab

namespace Go.Ab.Sh
open Go Go.Ab Go.Lib
theorem c_Idx (s:Str) (hs:s.length ≤ 4194304) (c:UInt8) (d:Nat) (m:Mem):TA d Qw [sv s,sv [c]] m=some (I (match cut c s with | none=>-1 | some (x,_)=>(x.length:Int)),m):=by
 refine Xhd (o:=Q1i6) (by kernel_rfl) ?_ d
 show (if Qw=Qw∧s.length < 4294967281 then some (Value.int .i64 (ixF s [c]),m) else none)=_
 rw [if_pos ⟨rfl,by omega⟩,Xxo,index_one]
theorem c_Index (s:Str) (hs:s.length ≤ 4194304) (c:UInt8) (d:Nat) (m:Mem):TA (d + 1) Qhc [sv s,sv [c]] m=some (I (match cut c s with | none=>-1 | some (x,_)=>(x.length:Int)),m):=by
 rw [Xdg]
 refine X4p (m1:=X3 m m.next) ?_ (.refl _ _) rfl
 unfold Q7m
 simp only [c_Idx s hs,X9]
theorem c_Count (s:Str) (c:UInt8) (d:Nat) (m:Mem):TA d Q7h [sv s,sv [c]] m=some (I (s.count c:Nat),m):=by
 refine Xhd (o:=Q1i7) (by kernel_rfl) ?_ d
 show (if Q7h=Q7h then some (Value.int .i64 (cntF s c),m) else none)=_
 rw [if_pos rfl,Xt4]
 rfl
theorem Xo5 (l:Str) (h:Nat) (hh:h ≤ l.length):X24 (sv l) none (some (I h))=some (sv (l.take h)):=by
 rw [X6l]
 show (match bound (some (I h)) l.length l.length with | some h=>(match bound none 0 h with | some k=>some (Value.string ⟨((l.take h).drop k).toArray⟩) | none=>none) | none=>none)=_
 have:bound (some (I h)) l.length l.length=some h:=by
  show (match Nat.ble h l.length with | true=>some h | false=>none)=_
  rw [Nat.ble_eq.mpr hh]
 rw [this]
 rfl
theorem Xhp (l:Str) (k:Nat) (hk:k ≤ l.length):X24 (sv l) (some (I k)) none=some (sv (l.drop k)):=by
 rw [X6l]
 show (match bound (some (I k)) 0 l.length with | some k=>some (Value.string ⟨((l.take l.length).drop k).toArray⟩) | none=>none)=_
 have:bound (some (I k)) 0 l.length=some k:=by
  show (match Nat.ble k l.length with | true=>some k | false=>none)=_
  rw [Nat.ble_eq.mpr hk]
 rw [this,List.take_length]
 rfl
theorem Xnb {c:UInt8} {l x y:Str} (h:cut c l=some (x,y)):l.take x.length=x∧l.drop (x.length + 1)=y∧x.length + 1 ≤ l.length:=by
 have h3:=Xat h
 obtain ⟨rfl,_⟩:=Xdq h
 refine ⟨by simp,?_,by omega⟩
 rw [List.drop_append]
 simp
theorem c_Cut (s:Str) (hs:s.length ≤ 4194304) (c:UInt8) (d:Nat) (m:Mem):TA (d + 2) Q3c [sv s,sv [c]] m =
  some (match cut c s with | none=>.tuple ⟨[sv s,sv [],.bool false]⟩ | some (x,y)=>.tuple ⟨[sv x,sv y,.bool true]⟩,m):=by
 have inner:∀ m,TA (d + 1) Q49 [sv s,sv [c]] m=some (match cut c s with | none=>.tuple ⟨[sv s,sv [],.bool false]⟩ | some (x,y)=>.tuple ⟨[sv x,sv y,.bool true]⟩,m):=by
  intro m
  rw [X4i]
  refine X4p (m1:=X3 m m.next) ?_ (.refl _ _) (by cases cut c s <;> rfl)
  unfold Q1n
  simp only [c_Idx s hs,X9]
  cases h:cut c s with
  | none =>
   simp only [Q1e9,X7,Xj]
   rfl
  | some p =>
   obtain ⟨x,y⟩:=p
   obtain ⟨q1,q2,q3⟩:=Xnb h
   have w:IntKind.i64.wrap ((x.length:Int) + (1:Nat))=((x.length + 1:Nat):Int):=by rw [IntWalk.i64_in _ (by omega)]; omega
   have e1:([c]:Str).length=1:=rfl
   simp only [Q1e9,X7,Xj,if_pos (Int.natCast_nonneg x.length),Xou,Qqz,e1,w,Xo5 s x.length (by omega),Xhp s (x.length + 1) q3,q1,q2]
 rw [Xg7]
 refine X4p (m1:=X3 m m.next) ?_ (.refl _ _) (by cases cut c s <;> rfl)
 unfold Qar
 simp only [inner,X9]
 cases cut c s with
 | none=>simp only [ex0,ex1,ex2,X7]
 | some p=>simp only [ex0,ex1,ex2,X7]
end Go.Ab.Sh

set_option maxRecDepth 100000
namespace Go.Ab.Sh
open Go Go.Ab Go.Lib
theorem Xr0 (b n r:Nat) (i:Nat) (h:i < n):X5 1 (.slice (some ⟨b,0,some 1⟩) n r) (.int .i64 (i:Int))=some (pt b i (r / 2)):=by
 rw [X11]
 have h1:Nat.blt i n=true:=Nat.blt_eq.mpr h
 show (match Nat.blt i n && X1q (some 1) 1 with | true=>some (Value.pointer (some ⟨b,0 + i * 1,some (r / 2)⟩)) | false=>none)=_
 rw [h1,X14]
 simp
theorem Xzn (b n r k:Nat) (h:k ≤ n):X2g 1 (.slice (some ⟨b,0,some 1⟩) n r) none (some (I k))=some (.slice (some ⟨b,0,some 1⟩) k (if k=n then r else r / 2 * 2)):=by
 have hb:Nat.ble k n=true:=Nat.ble_eq.mpr h
 show (match (match Nat.ble k n with | true=>some k | false=>none) with
  | some h=>(match some 0 with
   | some l=>if some 1=some 1 then some (Value.slice (some ⟨b,0 + l * 1,some 1⟩) (h - l) (if h=n then r else r / 2 * 2)) else none
   | none=>none)
  | none=>none)=_
 rw [hb]
 simp
theorem X122 (w:Str):(sv w).cells.toList.all one=true:=rfl
theorem X98 (d:Nat) (c:UInt8) (b:Nat) (ty:Option Nat):∀ (k:Nat) (rest:Str) (done:List Str) (cs:List Value) (m:Mem),rest.length ≤ 4194304→rest.count c < k →
  m.get b=some (.cells cs 0 0 false ty)→cs.length=done.length + rest.count c + 1→cs.length ≤ 4194305→(∀ (j:Nat) (w:Str),done[j]?=some w→cs[j]?=some (sv w)) →
  ∃ m1 cs',Q5f ⟨TA (d + 1),18446744073709551616⟩ k (I done.length) (I (cs.length - 1:Nat)) (sv rest) (sv [c]) (.slice (some ⟨b,0,some 1⟩) cs.length 1) (I 0) m =
   some (.slice (some ⟨b,0,some 1⟩) cs.length 1,m1)∧Fr [b] m m1∧m1.get b=some (.cells cs' 0 0 false ty)∧cs'.length=cs.length∧∀ (j:Nat) (w:Str),(done ++ split c rest)[j]?=some w→cs'[j]?=some (sv w)
 | 0,_,_,_,_,_,hk,_,_,_,_=>by omega
 | k + 1,rest,done,cs,m,hr,hk,hb,hl,hd,hc=>by
  have hcount:=List.count_le_length (a:=c) (l:=rest)
  unfold Q5f
  -- a cell written
  have put:∀ (x:Str),∃ m',X8 1 (pt b done.length 0) (sv x) m=some m'∧Fr [b] m m'∧m'.get b=some (.cells (cs.take done.length ++ [sv x] ++ cs.drop (done.length + 1)) 0 0 false ty):=by
   intro x
   obtain ⟨m',k1,k2⟩:=X3f (o:=done.length) (n:=1) (v:=sv x) hb rfl (Nat.zero_le _) (by omega) (X122 x) rfl
   refine ⟨m',k1,((Fr.refl _ _).put _ (.inl (by simp))).meq k2,?_⟩
   rw [k2.get,Mem.get_put,if_pos rfl]
   rfl
  have cell:∀ (x:Str) (j:Nat) (w:Str),(done ++ [x])[j]?=some w→(cs.take done.length ++ [sv x] ++ cs.drop (done.length + 1))[j]?=some (sv w):=by
   intro x j w hw
   have h1:(cs.take done.length).length=done.length:=by rw [List.length_take]; omega
   by_cases hj:j < done.length
   ·rw [List.getElem?_append_left hj] at hw
    rw [List.append_assoc,List.getElem?_append_left (by omega),List.getElem?_take_of_lt hj]
    exact hc j w hw
   ·have hj2:j=done.length:=by
     have:=(List.getElem?_eq_some_iff.mp hw).1
     simp at this
     omega
    subst hj2
    simp only [List.getElem?_append_right (Nat.le_refl _),Nat.sub_self,List.getElem?_cons_zero,Option.some.injEq] at hw
    subst hw
    rw [List.append_assoc,List.getElem?_append_right (by omega),h1,Nat.sub_self]
    rfl
  have newlen:∀ (x:Str),(cs.take done.length ++ [sv x] ++ cs.drop (done.length + 1)).length=cs.length:=by
   intro x
   simp only [List.length_append,List.length_take,List.length_cons,List.length_nil,List.length_drop]
   omega
  have w1:IntKind.i64.wrap ((done.length:Int) + 1)=((done.length + 1:Nat):Int):=by rw [IntWalk.i64_in _ (by omega)]; omega
  simp only [Q34,X7,Xj]
  by_cases h0:rest.count c=0
  ·-- the last word
   have hnone:cut c rest=none:=by
    cases h:cut c rest with
    | none=>rfl
    | some p=>obtain ⟨x,y⟩:=p; have:=Xco h; omega
   have hn:¬ ((done.length:Int) < ((cs.length - 1:Nat):Int)):=by omega
   rw [if_neg hn]
   obtain ⟨m',k1,k2,k3⟩:=put rest
   refine ⟨m',_,?_,k2,k3,newlen rest,?_⟩
   ·unfold Q8i
    simp only [Xr0 b cs.length 1 done.length (by omega),X7,show (1:Nat) / 2=0 from rfl,k1,Xg,Qqz,w1,Xzn b cs.length 1 (done.length + 1) (by omega),X7]
    rw [if_pos (by omega),show done.length + 1=cs.length by omega]
   ·rw [X59 hnone]
    exact cell rest
  ·have hlt:(done.length:Int) < ((cs.length - 1:Nat):Int):=by omega
   rw [if_pos hlt]
   cases h:cut c rest with
   | none=>exact absurd (count_none h) h0
   | some p =>
    obtain ⟨x,y⟩:=p
    obtain ⟨q1,q2,q3⟩:=Xnb h
    have q4:=Xco h
    have q5:=Xat h
    obtain ⟨m',k1,k2,k3⟩:=put x
    have w0:IntKind.i64.wrap ((x.length:Int) + 0)=(x.length:Int):=by rw [IntWalk.i64_in _ (by omega)]; omega
    have w2:IntKind.i64.wrap ((x.length:Int) + (1:Nat))=((x.length + 1:Nat):Int):=by rw [IntWalk.i64_in _ (by omega)]; omega
    have e1:([c]:Str).length=1:=rfl
    have hneg:¬ ((x.length:Int) < 0):=by omega
    obtain ⟨m1,cs',r1,r2,r3,r4,r5⟩:=X98 d c b ty k y (done ++ [x]) (cs.take done.length ++ [sv x] ++ cs.drop (done.length + 1)) m' (by omega) (by omega) k3 (by rw [newlen]; simp; omega) (by rw [newlen]; exact hd) (cell x)
    rw [newlen] at r1 r4
    refine ⟨m1,cs',?_,k2.trans r2,r3,r4,?_⟩
    ·rw [← r1]
     simp only [c_Index rest hr,h,X9,Q34,X7,Xj,if_neg hneg,Qqz,w0,Xo5 rest x.length (by omega),q1,Xr0 b cs.length 1 done.length (by omega),show (1:Nat) / 2=0 from rfl,k1,Xg,Xou,e1,w2,Xhp rest (x.length + 1) q3,q2,w1]
     simp
    ·rw [X5a h]
     intro j w hw
     exact r5 j w (by simpa using hw)
theorem min_i64 (a b:Int):aMin (.int .i64 a) (.int .i64 b)=some (I (if b < a then b else a)):=rfl
theorem X1e (m:Mem) (o:AObj):(m.push o).get m.next=some o:=by rw [Mem.get_push,if_pos rfl]
theorem Xsa {m m1:Mem} {v:Value} {x:Option Rs} (hx:x=some (v,m1)) (hF:Fr [] (X3 m m.next) m1) (hr:refs m.next 8 v=false) :
  ∃ m2,outOf m x=some (v,m2)∧Fr [] m m2∧m2.next=m1.next∧∀ b,m2.get b=m1.get b:=by
 subst hx
 unfold outOf
 simp only
 rw [Xpz]; unfold gcO
 rw [hr,Bool.and_false]
 have hlow:m.next ≤ m1.low:=hF.low2 m.next (Nat.le_refl _) (Nat.le_refl _) (by simp)
 refine ⟨_,rfl,⟨hF.next,Nat.min_le_left _ _,fun x a b _=>?_,hF.get,fun b hb=>.inr (hF.get b hb (by simp))⟩,rfl,fun b=>rfl⟩
 show x ≤ min m.low m1.low
 omega
theorem SL.same {m m':Mem} {v:Value} {ws:List Str} (h:SL m v ws) (hn:m.next ≤ m'.next) (hg:∀ b,m'.get b=m.get b):SL m' v ws:=by
 obtain ⟨b,o,r,c,fro,ro,ty,h1,h2,h3,h4,h5⟩:=h
 exact ⟨b,o,r,c,fro,ro,ty,h1,Nat.lt_of_lt_of_le h2 hn,by rw [hg]; exact h3,h4,h5⟩
theorem c_Split (s:Str) (hs:s.length ≤ 4194304) (c:UInt8) (d:Nat) (m:Mem):∃ v m1,TA (d + 3) Q2x [sv s,sv [c]] m=some (v,m1)∧Fr [] m m1∧SL m1 v (split c s)∧refs m.next 8 v=false:=by
 have inner:∀ m,∃ v m1,TA (d + 2) Qb0 [sv s,sv [c],I 0,I (-1)] m=some (v,m1)∧Fr [] m m1∧SL m1 v (split c s)∧refs m.next 8 v=false:=by
  intro m
  have hcount:=List.count_le_length (a:=c) (l:=s)
  let n:=s.count c + 1
  have hn:n=s.count c + 1:=rfl
  have hp:=X1e (X3 m m.next) (.cells (rep n [sv []]) 0 0 false (some (2 * Q6)))
  have hrl:(rep n [sv []]).length=n:=by
   have:∀ k,(rep k [sv []]).length=k:=by
    intro k
    induction k with
    | zero=>rfl
    | succ k ih=>simp [rep,ih]
   exact this n
  obtain ⟨m1,cs',k1,k2,k3,k4,k5⟩:=X98 d c (X3 m m.next).next (some (2 * Q6)) 18446744073709551616 s [] (rep n [sv []]) ((X3 m m.next).push (.cells (rep n [sv []]) 0 0 false (some (2 * Q6)))) hs (by omega) hp (by rw [hrl]; simp; omega) (by rw [hrl]; omega) (by intro j w h; simp at h)
  rw [hrl] at k1 k4
  have hF:Fr [] (X3 m m.next) m1:=by
   have h1:Fr [(X3 m m.next).next] (X3 m m.next) m1:=((Fr.push (W:=[(X3 m m.next).next]) _)).trans k2
   refine ⟨h1.next,h1.low,fun x a b _=>h1.low2 x a b (by intro w hw; simp at hw; subst hw; exact b),fun b hb _=>h1.get b hb (by simp; omega),h1.lo⟩
  have hx:Q36 ⟨TA (d + 1),18446744073709551616⟩ (I (-1)) (sv [c]) (sv s) (I 0) (X3 m m.next)=some (.slice (some ⟨(X3 m m.next).next,0,some 1⟩) n 1,m1):=by
   have e0:Value.string ⟨#[]⟩=sv []:=rfl
   have e1:¬ ((-1:Int)=0):=by omega
   have e2:¬ ([c]:Str)=[]:=by simp
   have e3:(-1:Int) < 0:=by omega
   have w1:IntKind.i64.wrap (((s.count c:Nat):Int) + 1)=(n:Int):=by rw [IntWalk.i64_in _ (by omega)]; omega
   have w2:IntKind.i64.wrap ((s.length:Int) + 1)=((s.length + 1:Nat):Int):=by rw [IntWalk.i64_in _ (by omega)]; omega
   have w3:(if ((s.length + 1:Nat):Int) < (n:Int) then ((s.length + 1:Nat):Int) else (n:Int))=(n:Int):=by rw [if_neg (by omega)]
   have w4:IntKind.i64.wrap ((n:Int) - 1)=((n - 1:Nat):Int):=by rw [IntWalk.i64_in _ (by omega)]; omega
   have mk:X2w Q6 [sv []] 1 16 (I n) (I n) (X3 m m.next)=some (.slice (some ⟨(X3 m m.next).next,0,some 1⟩) n 1,(X3 m m.next).push (.cells (rep n [sv []]) 0 0 false (some (2 * Q6)))):=by
    have hf:fits n 16=true:=by
     simp only [fits,Bool.and_eq_true,Nat.ble_eq]; omega
    show (if (decide ((0:Int) ≤ (n:Int)) && decide ((n:Int) ≤ (n:Int)) && fits ((n:Int).toNat) 16 && Nat.ble 1 1)=true then _ else none)=_
    rw [Int.toNat_natCast,hf,decide_eq_true (Int.natCast_nonneg n),decide_eq_true (Int.le_refl _)]
    simp
   unfold Q36 Qf7 Qf6 Qf5 Q8j Qf4 Qf3 Qf2 Qf1
   simp only [e0,Q5z,X7,Xj,if_neg e1,Q18x,if_neg e2,Q34,if_pos e3,c_Count,X9,Qqz,w1,Xou,w2,min_i64,w3,mk,Q14o,w4]
   exact k1
  rw [X9a]
  have hr:refs m.next 8 (.slice (some ⟨(X3 m m.next).next,0,some 1⟩) n 1)=false:=by
   show Nat.blt m.next m.next=false
   cases h:Nat.blt m.next m.next with
   | false=>rfl
   | true=>have:=Nat.blt_eq.mp h; omega
  obtain ⟨m2,q1,q2,q3,q4⟩:=Xsa (m:=m) hx hF hr
  refine ⟨_,m2,q1,q2,?_,hr⟩
  refine ⟨(X3 m m.next).next,0,1,cs',0,false,some (2 * Q6),?_,?_,by rw [q4]; exact k3,?_,fun i w hw=>by rw [Nat.zero_add]; exact k5 i w (by simpa using hw)⟩
  ·rw [X95 c s.length s (Nat.le_refl _)]
  ·rw [q3]
   have:=k2.next
   simp [Mem.push] at this
   omega
  ·rw [X95 c s.length s (Nat.le_refl _),k4]
   omega
 rw [Xc7]
 obtain ⟨v,m1,k1,k2,k3,k4⟩:=inner (X3 m m.next)
 have hx:Q5b ⟨TA (d + 2),18446744073709551616⟩ (sv s) (sv [c]) (X3 m m.next)=some (v,m1):=by
  unfold Q5b
  simp only [k1,X9]
 obtain ⟨m2,q1,q2,q3,q4⟩:=Xsa (m:=m) hx k2 k4
 exact ⟨v,m2,q1,q2,SL.same k3 (by omega) q4,k4⟩
end Go.Ab.Sh

set_option maxRecDepth 100000
namespace Go.Ab
open Go Go.Lib
def X9c:Nat→List Str→Option Nat
 | acc,[]=>some acc
 | acc,w :: ws=>match num 255 w with | none=>none | some n=>X9c (acc * 256 + n) ws
def X5z (s:Str):Option Nat:=if (split 46 s).length=4 then X9c 0 (split 46 s) else none
def Xdb (o:Option Nat):Value:=match o with | some a=>.tuple ⟨[.int .u32 (a:Int),I 0]⟩ | none=>.tuple ⟨[.int .u32 0,I 4]⟩
theorem Xq6 (n:Nat) (o:Option Nat):refs n 8 (Xdb o)=true:=by cases o <;> rfl
theorem X4e (c:UInt8):∀ (l w:Str),w ∈ split c l→w.length ≤ l.length
 | [],w,h=>by simp [split] at h; subst h; simp
 | a :: l,w,h=>by
  rw [Xaa] at h
  split at h
  ·rcases List.mem_cons.mp h with e | e
   ·subst e; simp
   ·have:=X4e c l w e; simp; omega
  ·cases hs:split c l with
   | nil=>exact absurd hs (Xhh c l)
   | cons x xs =>
    rw [hs] at h
    have ih:=X4e c l
    rw [hs] at ih
    rcases List.mem_cons.mp h with e | e
    ·subst e
     have:=ih x List.mem_cons_self
     simp; omega
    ·have:=ih w (List.mem_cons_of_mem _ e)
     simp; omega
theorem X113 (c g:Bool) (a n:Nat) (ha:a < 16777216) (hn:n < 256):bin .or c g .int (.int .u32 ((a * 256:Nat):Int)) (.int .u32 (n:Int))=some (.int .u32 ((a * 256 + n:Nat):Int)):=by
 rw [X1c]
 simp only [binO,ne_eq,not_true_eq_false,if_false]
 have e1:(BitVec.ofInt 32 ((a * 256:Nat):Int) ||| BitVec.ofInt 32 (n:Int)).toNat=a * 256 + n:=by
  rw [BitVec.ofInt_natCast,BitVec.ofInt_natCast,BitVec.toNat_or,BitVec.toNat_ofNat,BitVec.toNat_ofNat,Nat.mod_eq_of_lt (by omega),Nat.mod_eq_of_lt (by omega)]
  have h:=Nat.shiftLeft_add_eq_or_of_lt (i:=8) (b:=n) (by omega) a
  rw [Nat.shiftLeft_eq] at h
  exact h.symm
 have e2:(BitVec.ofInt IntKind.u32.bits ((a * 256:Nat):Int) ||| BitVec.ofInt IntKind.u32.bits (n:Int)).toNat=a * 256 + n:=e1
 rw [e2,IntWalk.u32_in _ (by omega)]
theorem Xy5 (c g:Bool) (a:Nat) (ha:a < 16777216):bin .shl c g .int (.int .u32 (a:Int)) (.int .u64 8)=some (.int .u32 ((a * 256:Nat):Int)):=by
 rw [X1c]
 show (if (8:Int) < 0 then none else some (Value.int .u32 (IntKind.u32.wrap ((a:Int) * 2 ^ (min (8:Int).toNat 32)))))=_
 have e:((a:Int) * 2 ^ (min (8:Int).toNat 32))=((a * 256:Nat):Int):=by
  have:(2:Int) ^ (min (8:Int).toNat 32)=256:=rfl
  rw [this]; omega
 rw [if_neg (by omega),e,IntWalk.u32_in _ (by omega)]
end Go.Ab
namespace Go.Ab.Sh
open Go Go.Ab Go.Lib
theorem X124 {k:Nat} (h:k ≤ 3):(256:Nat) ^ k ≤ 16777216:=by
 have:(256:Nat) ^ k ≤ 256 ^ 3:=Nat.pow_le_pow_right (by omega) h
 omega
theorem X7r (d:Nat) (v:Value) (m:Mem) (ws:List Str) (h4:ws.length=4) (hw:∀ w ∈ ws,w.length ≤ 4194304) (hS:SL m v ws):∀ (rest pre:List Str) (acc k:Nat),ws=pre ++ rest→rest.length < k→acc < 256 ^ pre.length →
  Q8v ⟨TA (d + 1),18446744073709551616⟩ k (I pre.length) v (.int .u32 (acc:Int)) m=some (Xdb (X9c acc rest),m)
 | [],pre,acc,k,he,hk,ha=>by
  obtain ⟨k,rfl⟩:∃ j,k=j + 1:=⟨k - 1,by simp at hk; omega⟩
  have hl:pre.length=4:=by rw [← h4,he]; simp
  unfold Q8v Qq6
  simp only [Q34,X7,Xj,hl]
  rfl
 | w :: rest,pre,acc,k,he,hk,ha=>by
  obtain ⟨k,rfl⟩:∃ j,k=j + 1:=⟨k - 1,by simp at hk; omega⟩
  have hl:pre.length + (rest.length + 1)=4:=by rw [← h4,he]; simp
  have hlt:(pre.length:Int) < 4:=by omega
  obtain ⟨p,k1,k2⟩:=hS.at (i:=pre.length) (w:=w) (by rw [he]; simp)
  obtain ⟨z,n1,n2⟩:=c_addrNumber w (hw w (by rw [he]; simp)) 255 (by omega) d m
  have w1:IntKind.i64.wrap ((pre.length:Int) + 1)=((pre ++ [w]).length:Int):=by rw [IntWalk.i64_in _ (by omega)]; simp
  have hp:=X124 (k:=pre.length) (by omega)
  unfold Q8v
  simp only [Q34,X7,Xj,if_pos hlt,k1,k2]
  have n1:TA (d + 1) Q5w [sv w,.int .i64 255] m=_:=n1
  simp only [n1,X9,ex0,ex1,X7,X2o,Xq8]
  unfold X9c
  cases hn:num 255 w with
  | none=>rfl
  | some n =>
   have:=n2 n hn
   subst this
   have hn2:=(num_some.mp hn).2
   have w2:IntKind.u32.wrap (n:Int)=(n:Int):=by rw [IntWalk.u32_in _ (by omega)]
   simp only [Option.isSome_some,Bool.not_true,Bool.false_eq_true,if_false,Xy5 _ _ acc (by omega),X7,c_int,w2,X9,X113 _ _ acc n (by omega) (by omega),Qqz,w1]
   exact X7r d v m ws h4 hw hS rest (pre ++ [w]) (acc * 256 + n) k (by rw [he]; simp) (by simp at hk; omega) (by simp [Nat.pow_succ]; omega)
theorem c_addrParse (s:Str) (hs:s.length ≤ 4194304) (d:Nat) (m:Mem):TA (d + 4) Q6x [sv s] m=some (Xdb (X5z s),m):=by
 rw [Xil]
 obtain ⟨v,m1,k1,k2,k3,_⟩:=c_Split s hs 46 d (X3 m m.next)
 refine X4p (m1:=m1) ?_ k2 (Xq6 _ _)
 unfold Qd5 Qqb Qqa Qq9 Qq8 Qq7
 have k1:TA (d + 3) Q2x [sv s,.string ⟨#[46]⟩] (X3 m m.next)=some (v,m1):=k1
 simp only [k1,X9,k3.len,X7,Q8k,Xj]
 unfold X5z
 by_cases h4:(split 46 s).length=4
 ·rw [if_neg (by omega),if_pos h4]
  exact X7r (d + 2) v m1 (split 46 s) h4 (fun w hw=>by have:=X4e 46 s w hw; omega) k3 (split 46 s) [] 0 18446744073709551616 rfl (by omega) (by simp)
 ·rw [if_pos (by omega),if_neg h4]
  rfl
end Go.Ab.Sh

set_option maxRecDepth 100000
namespace Go.Ab
open Go Go.Lib
def SA (B:Nat) (m:Mem) (v:Value) (ws:List Str):Prop:=
 (ws=[]∧v=.slice none 0 0)∨(ws ≠ []∧∃ b ver ty,v=.slice (some ⟨b,0,some 1⟩) ws.length (2 * ver)∧B ≤ b∧b < m.next∧m.get b=some (.cells (ws.map sv) ver 0 false ty))
theorem SA.sl {B:Nat} {m:Mem} {v:Value} {ws:List Str} (h:SA B m v ws) (hne:ws ≠ []):SL m v ws∧refs B 8 v=false:=by
 rcases h with ⟨h1,_⟩ | ⟨_,b,ver,ty,rfl,h2,h3,h4⟩
 ·exact absurd h1 hne
 ·refine ⟨⟨b,0,2 * ver,ws.map sv,0,false,ty,rfl,h3,?_,by simp,fun i w hw=>by rw [Nat.zero_add,List.getElem?_map,hw]; rfl⟩,?_⟩
  ·rw [show 2 * ver / 2=ver by omega]; exact h4
  ·show Nat.blt b B=false
   cases hb:Nat.blt b B with
   | false=>rfl
   | true=>have:=Nat.blt_eq.mp hb; omega
theorem SA.len {B:Nat} {m:Mem} {v:Value} {ws:List Str} (h:SA B m v ws) (m':Mem):lenK 1 v m'=some (I ws.length):=by
 rcases h with ⟨rfl,rfl⟩ | ⟨_,b,ver,ty,rfl,_⟩
 ·exact X5n _ _ _ _
 ·exact X5n _ _ _ _
theorem SA.app {B e:Nat} {m:Mem} {v:Value} {ws:List Str} (h:SA B m v ws) (hB:B ≤ m.next) (hl:ws.length ≤ 4194304) (w:Str) :
  ∃ m2 v' m',Xc e [sv []] 1 1 [(0,sv w)] m=some (.slice (some ⟨m.next,0,some 1⟩) 1 1,m2)∧apS e 1 16 v (.slice (some ⟨m.next,0,some 1⟩) 1 1) m2=some (v',m')∧Fb B m m'∧SA B m' v' (ws ++ [w]):=by
 have hb:Xc e [sv []] 1 1 [(0,sv w)] m=some (.slice (some ⟨m.next,0,some 1⟩) 1 1,m.push (.cells [sv w] 0 0 false (some (2 * e)))):=Eq.trans rfl rfl
 have hg:(m.push (.cells [sv w] 0 0 false (some (2 * e)))).get m.next=some (.cells [sv w] 0 0 false (some (2 * e))):=by rw [Mem.get_push,if_pos rfl]
 have hF:Fb B m (m.push (.cells [sv w] 0 0 false (some (2 * e)))):=(Fb.push _ hB)
 rcases h with ⟨rfl,rfl⟩ | ⟨hne,b,ver,ty,rfl,h2,h3,h4⟩
 ·have ha:=Xfy (e:=e) (bytes:=16) hg rfl rfl (Nat.le_refl 1) rfl
  refine ⟨_,_,_,hb,ha,hF.trans (Fb.push _ (by show B ≤ m.next + 1; omega)),.inr ⟨by simp,(m.push (.cells [sv w] 0 0 false (some (2 * e)))).next,0,some (2 * e),rfl,by show B ≤ m.next + 1; omega,by show m.next + 1 < m.next + 1 + 1; omega,?_⟩⟩
  rw [Mem.get_push,if_pos rfl]
  rfl
 ·have hfit:fits (ws.length + 1) 16=true:=by
   simp only [fits,Bool.and_eq_true,Nat.ble_eq]; omega
  have hb2:(m.push (.cells [sv w] 0 0 false (some (2 * e)))).get b=some (.cells (ws.map sv) ver 0 false ty):=by rw [Mem.get_push,if_neg (by omega)]; exact h4
  obtain ⟨m',k1,k2⟩:=Xmo (e:=e) (bytes:=16) (len:=ws.length) (size:=1) hb2 hg rfl rfl (Nat.le_refl 1) (Nat.zero_le _) (by simp) hfit
  refine ⟨_,_,m',hb,k1,(hF.trans ((Fb.refl B _).put _ h2)).meq k2,.inr ⟨by simp,b,ver + 1,tyOf ty (2 * e),by simp,h2,?_,?_⟩⟩
  ·rw [k2.next,Mem.next_put]
   show b < m.next + 1
   omega
  ·rw [k2.get,Mem.get_put,if_pos rfl]
   congr 2
   simp only [Nat.mul_one,List.map_append,List.map_cons,List.map_nil]
   rw [List.take_of_length_le (by simp)]
end Go.Ab
namespace Go.Ab.Sh
open Go Go.Ab Go.Lib
end Go.Ab.Sh

set_option maxRecDepth 100000
namespace Go.Ab
open Go Go.Lib
abbrev X1z (a:Nat):Str:=decDigits (a / 16777216) ++ [46] ++ decDigits (a / 65536 % 256) ++ [46] ++ decDigits (a / 256 % 256) ++ [46] ++ decDigits (a % 256)
theorem X2l (n:Nat) (h:n < 18446744073709551616):(decDigits n).length ≤ 20:=Xz5 n 20 (by omega) (by omega)
theorem X13 {α:Type} (ty:Nat) (cs:List Value) (m:Mem) (k:Value→Mem→Option α):bp (some (aNew ty cs m)) k=k (pt m.next 0 0) (m.push (.cells cs 0 0 false (some (2 * ty + 1)))):=Eq.trans rfl rfl
theorem X2a {m m1:Mem} {v:Value} {x:Option Rs} (hx:x=some (v,m1)) (hF:Fb m.next (X3 m m.next) m1) (hv:refs m.next 8 v=true):outOf m x=some (v,m):=X4p hx (Fb.toFr hF) hv
theorem X2j {m:Mem} {b n:Nat} {cs tail:List Value} {ty:Option Nat} (h:m.get b=some (.cells cs 0 0 false ty)) (hn:cs.length=n) {vs:List Value} (hv:vs.length=n) (h1:vs.all one=true) {B:Nat} (hB:B ≤ b) :
  ∃ m',bp (unt (X8 n (pt b 0 0) (.agg ⟨vs⟩) m)) (fun _ m=>ob (ob (X4 true n (pt b 0 0) m) fun v=>ob (some tail) fun l=>some (v :: l)) fun l=>some (X1p l,m))=some (X1p (.agg ⟨vs⟩ :: tail),m')∧Fb B m m'∧m'.next=m.next:=by
 obtain ⟨m',k1,k2⟩:=X3f (o:=0) (c':=vs) (v:=.agg ⟨vs⟩) (n:=n) h hv (Nat.zero_le _) (by omega) h1 (by
  show [] ++ vs ++ cs.drop (0 + n)=vs
  rw [List.drop_eq_nil_of_le (by omega)]; simp)
 have hg:m'.get b=some (.cells vs 0 0 false ty):=by rw [k2.get,Mem.get_put,if_pos rfl]
 have hl:X4 true n (pt b 0 0) m'=some (.agg ⟨vs⟩):=X10 hg (by omega) (by simp [← hv])
 refine ⟨m',?_,(((Fb.refl B _).put _ hB).meq k2),by rw [k2.next,Mem.next_put]⟩
 rw [k1,Xg]
 simp only [hl,Xq5]
end Go.Ab
namespace Go.Ab.Sh
open Go Go.Ab Go.Lib
end Go.Ab.Sh

set_option maxRecDepth 100000
namespace Go.Ab
open Go Go.Lib
theorem X3p (k:IntKind) (z:Int) (m:Mem):again (pur (some (.int k z)) m) (.int k z)=true:=by
 show vsame 8 (.int k z) (.int k z)=true
 simp [vsame]
abbrev pfx (a b:Int):Value:=.agg ⟨[.int .u32 a,I b]⟩
theorem X2b {m:Mem} {cs:List Value} {ty:Option Nat} {o:Nat} {v:Value} (h:cs[o]?=some v):X4 false 1 (pt m.next o 0) (m.push (.cells cs 0 0 false ty))=some v:=Xt (by rw [Mem.get_push,if_pos rfl]) h
def chk (a:Nat) (b:Int):Nat:=if b < 0∨32 < b then 1 else if a % 2 ^ (32 - b.toNat)=0 then 0 else 10
theorem Xtf (c g:Bool) (a k:Nat) (ha:a < 4294967296) (hk:k ≤ 32):bin .and c g .int (.int .u32 (a:Int)) (.int .u32 ((2 ^ k - 1:Nat):Int))=some (.int .u32 ((a % 2 ^ k:Nat):Int)):=by
 have hp:2 ^ k ≤ 2 ^ 32:=Nat.pow_le_pow_right (by omega) hk
 have hm:=Nat.mod_le a (2 ^ k)
 rw [X1c]
 simp only [binO,ne_eq,not_true_eq_false,if_false]
 have e2:(BitVec.ofInt IntKind.u32.bits (a:Int) &&& BitVec.ofInt IntKind.u32.bits ((2 ^ k - 1:Nat):Int)).toNat=a % 2 ^ k:=by
  show (BitVec.ofInt 32 (a:Int) &&& BitVec.ofInt 32 ((2 ^ k - 1:Nat):Int)).toNat=a % 2 ^ k
  rw [BitVec.ofInt_natCast,BitVec.ofInt_natCast,BitVec.toNat_and,BitVec.toNat_ofNat,BitVec.toNat_ofNat,Nat.mod_eq_of_lt (by omega),Nat.mod_eq_of_lt (by omega)]
  exact Nat.and_two_pow_sub_one_eq_mod a k
 rw [e2]
 generalize a % 2 ^ k=r at hm
 rw [IntWalk.u32_in _ (by omega)]
end Go.Ab
namespace Go.Ab.Sh
open Go Go.Ab Go.Lib
theorem c_behind (n:Nat) (hn:n ≤ 32) (d:Nat) (m:Mem):TA (d + 1) Ql1 [I n] m=some (.int .u32 ((2 ^ (32 - n) - 1:Nat):Int),m):=by
 rw [Xh2]
 refine X2a (m1:=X3 m m.next) ?_ (.refl _ _) rfl
 have hp:2 ^ (32 - n) ≤ 2 ^ 32:=Nat.pow_le_pow_right (by omega) (by omega)
 have hp1:1 ≤ 2 ^ (32 - n):=Nat.one_le_two_pow
 have w1:IntKind.i64.wrap (32 - (n:Int))=((32 - n:Nat):Int):=by rw [IntWalk.i64_in _ (by omega)]; omega
 have hs:bin .shl true true .int (.int .u64 1) (.int .i64 ((32 - n:Nat):Int))=some (.int .u64 ((2 ^ (32 - n):Nat):Int)):=by
  rw [X1c]
  show (if ((32 - n:Nat):Int) < 0 then none else some (Value.int .u64 (IntKind.u64.wrap (1 * 2 ^ (min ((32 - n:Nat):Int).toNat 64)))))=_
  rw [if_neg (by omega),Int.toNat_natCast,Nat.min_eq_left (by omega),Int.one_mul]
  have e:((2:Int) ^ (32 - n))=((2 ^ (32 - n):Nat):Int):=by rw [Int.natCast_pow]; rfl
  rw [e]
  generalize 2 ^ (32 - n)=q at hp hp1
  rw [IntWalk.u64_in _ (by omega)]
 unfold Qat
 simp only [Q14o,w1,X7,hs,c_int,X9]
 generalize 2 ^ (32 - n)=q at hp hp1
 rw [IntWalk.u64_in _ (by omega),IntWalk.u32_in _ (by omega)]
 congr 4
 omega
theorem c_addrCheck (a:Nat) (ha:a < 4294967296) (b:Int) (d:Nat) (m:Mem):TA (d + 2) Qho [pfx a b] m=some (I (chk a b),m):=by
 rw [Xjy]
 refine X2a (m1:=(X3 m m.next).push (.cells [.int .u32 (a:Int),I b] 0 0 false (some (2 * Q7 + 1)))) ?_ (Fb.push _ (Nat.le_refl _)) rfl
 have l0:=X2b (m:=X3 m m.next) (cs:=[.int .u32 (a:Int),I b]) (ty:=some (2 * Q7 + 1)) (o:=0 + 0) rfl
 have l1:=X2b (m:=X3 m m.next) (cs:=[.int .u32 (a:Int),I b]) (ty:=some (2 * Q7 + 1)) (o:=0 + 1) rfl
 have ec:(Value.cells (pfx a b)).toList=[.int .u32 (a:Int),I b]:=rfl
 unfold Qde Qqe Qiq
 rw [ec,X13]
 simp only [Xy,X7,l0,l1,Q34,Qwd,Xj,Xh]
 unfold chk
 by_cases h1:b < 0
 ·rw [if_pos h1,if_pos (.inl h1)]; rfl
 rw [if_neg h1]
 by_cases h2:32 < b
 ·rw [if_pos h2,if_pos (.inr h2)]; rfl
 rw [if_neg h2,if_neg (by omega)]
 obtain ⟨n,rfl⟩:=Int.eq_ofNat_of_zero_le (by omega:0 ≤ b)
 simp only [c_behind n (by omega),X9,Xtf _ _ a (32 - n) ha (by omega),X7,Q8k,Xj,Int.toNat_natCast,l0,X3p,Bool.and_true,X2h]
 by_cases h3:a % 2 ^ (32 - n)=0
 ·rw [if_neg (by rw [h3]; simp),if_pos h3]; rfl
 ·rw [if_pos (by intro h; exact h3 (by omega)),if_neg h3]; rfl
def X2v (s:Str):Nat × Nat × Nat:=match cut 47 s with
 | none=>(0,0,4)
 | some (x,y)=>match X5z x,num 32 y with
  | some a,some b=>if a % 2 ^ (32 - b)=0 then (a,b,0) else (0,0,10)
  | _,_=>(0,0,4)
def Xzm (x:Nat × Nat × Nat):Value:=.tuple ⟨[pfx x.1 x.2.1,I x.2.2]⟩
theorem Xoa:∀ (ws:List Str) (acc n:Nat),X9c acc ws=some n→n < (acc + 1) * 256 ^ ws.length
 | [],acc,n,h=>by cases h; simp
 | w :: ws,acc,n,h=>by
  unfold X9c at h
  cases hn:num 255 w with
  | none=>rw [hn] at h; cases h
  | some k =>
   rw [hn] at h
   have h1:=Xoa ws _ n h
   have h2:=(num_some.mp hn).2
   rw [List.length_cons,Nat.pow_succ,Nat.mul_comm (256 ^ ws.length) 256,← Nat.mul_assoc]
   exact Nat.lt_of_lt_of_le h1 (Nat.mul_le_mul_right _ (by omega))
theorem addrP_lt {s:Str} {n:Nat} (h:X5z s=some n):n < 4294967296:=by
 unfold X5z at h
 split at h
 ·rename_i h4
  have:=Xoa _ _ _ h
  rw [h4] at this
  simpa using this
 ·cases h
theorem aB2 (a b:Int):X18 Qh [(0,1),(1,1)] [(0,.int .u32 a),(1,I b)]=some (pfx a b):=Eq.trans rfl rfl
theorem aB0:X18 Qh [(0,1),(1,1)] []=some (pfx 0 0):=Eq.trans rfl rfl
theorem Xqy (a b:Int):(pfx a b).cells.toList=[.int .u32 a,I b]:=rfl
theorem c_addrPrefix (s:Str) (hs:s.length ≤ 4194304) (d:Nat) (m:Mem):TA (d + 5) Q4p [sv s] m=some (Xzm (X2v s),m):=by
 rw [X90]
 -- the result's variable
 let m0:=(X3 m m.next).push (.cells Qh 0 0 false (some (2 * Q7 + 1)))
 have hm0:m0=(X3 m m.next).push (.cells Qh 0 0 false (some (2 * Q7 + 1))):=rfl
 have g0:m0.get m.next=some (.cells [.int .u32 0,I 0] 0 0 false (some (2 * Q7 + 1))):=X1e (X3 m m.next) _
 have F0:Fb m.next (X3 m m.next) m0:=Fb.push _ (Nat.le_refl _)
 have n0:m0.next=m.next + 1:=rfl
 have body:∃ m1,Q8h ⟨TA (d + 4),18446744073709551616⟩ (sv s) (pt m.next 0 0) m0=some (Xzm (X2v s),m1)∧Fb m.next m0 m1:=by
  have e0:Value.string ⟨#[47]⟩=sv [47]:=rfl
  obtain ⟨mE,r1,r2,_⟩:=X2j (n:=2) (tail:=[I 4]) g0 rfl (vs:=[.int .u32 0,I 0]) rfl rfl (Nat.le_refl m.next)
  unfold Q8h Qez Qey Qex Q5e
  have hcut:TA (d + 4) Q3c [sv s,sv [47]] m0=_:=c_Cut s hs 47 (d + 2) m0
  simp only [e0,hcut,X9]
  unfold X2v
  cases hc:cut 47 s with
  | none =>
   refine ⟨mE,?_,r2⟩
   obtain ⟨z,n1,_⟩:=c_addrNumber [] (by simp) 32 (by omega) (d + 3) m0
   have n1:TA (d + 4) Q5w [sv [],.int .i64 32] m0=_:=n1
   simp only [ex0,ex1,ex2,X7,c_addrParse s hs d m0,X9,X2o,Bool.not_false,Xh,aB0]
   cases X5z s with
   | none=>simp only [Xdb,ex0,ex1,X7,n1,X9]; exact r1
   | some a=>simp only [Xdb,ex0,ex1,X7,n1,X9]; exact r1
  | some p =>
   obtain ⟨x,y⟩:=p
   have hl:=Xat hc
   obtain ⟨z,n1,n2⟩:=c_addrNumber y (by omega) 32 (by omega) (d + 3) m0
   have n1:TA (d + 4) Q5w [sv y,.int .i64 32] m0=_:=n1
   simp only [ex0,ex1,ex2,X7,c_addrParse x (by omega) d m0,X9,X2o,Bool.not_true,Xd]
   cases ha:X5z x with
   | none =>
    refine ⟨mE,?_,r2⟩
    simp only [Xdb,ex0,ex1,X7,n1,X9,X2o,Q8k,Xq8,aB0]
    cases hn:num 32 y with
    | none=>simp only [Option.isSome_none,Bool.not_false,if_true]; exact r1
    | some b=>simp only [Option.isSome_some,Bool.not_true,Bool.false_eq_true,if_false]; exact r1
   | some a =>
    have ha2:=addrP_lt ha
    simp only [Xdb,ex0,ex1,X7,n1,X9,X2o,Q8k,Xq8,aB0]
    cases hn:num 32 y with
    | none =>
     refine ⟨mE,?_,r2⟩
     simp only [Option.isSome_none,Bool.not_false,if_true]; exact r1
    | some b =>
     have:=n2 b hn
     subst this
     have hb:=(num_some.mp hn).2
     -- the prefix itself
     obtain ⟨m2,q1,q2,q3,q4⟩:=X16 [] m0 (some (2 * Q7 + 1)) Qh (v:=pfx a b) (n:=2) rfl rfl rfl
     have g2:m2.get m.next=some (.cells [.int .u32 0,I 0] 0 0 false (some (2 * Q7 + 1))):=by rw [q2.get m.next (by omega) (by simp)]; exact g0
     have F2:Fb m.next m0 m2:=Fr.toFb q2 (by omega)
     have lp:X4 true 2 (pt m0.next 0 0) m2=some (pfx a b):=X10 q4 (by show 0 + 2 ≤ 2; omega) rfl
     have aB:=aB2 a b
     simp only [Option.isSome_some,Bool.not_true,Bool.false_eq_true,if_false,ne_eq,not_true_eq_false,decide_false,aB,X7,X13,q1,Xg,lp,c_addrCheck a ha2 b (d + 2) m2,X9]
     unfold chk
     rw [if_neg (by omega),Int.toNat_natCast]
     by_cases h3:a % 2 ^ (32 - b)=0
     ·rw [if_pos h3,if_pos h3]
      obtain ⟨m3,r3,r4,_⟩:=X2j (n:=2) (tail:=[I 0]) g2 rfl (vs:=[.int .u32 (a:Int),I b]) rfl rfl (Nat.le_refl m.next)
      refine ⟨m3,?_,F2.trans r4⟩
      simp only [Q8k,X7,Xj]
      rw [if_neg (by simp)]
      simp only [lp,X7]
      exact r3
     ·rw [if_neg h3,if_neg h3]
      obtain ⟨m3,r3,r4,_⟩:=X2j (n:=2) (tail:=[I 10]) g2 rfl (vs:=[.int .u32 0,I 0]) rfl rfl (Nat.le_refl m.next)
      refine ⟨m3,?_,F2.trans r4⟩
      simp only [Q8k,X7,Xj]
      rw [if_pos (by simp)]
      exact r3
 obtain ⟨m1,k1,k2⟩:=body
 refine X2a (m1:=m1) ?_ (F0.trans k2) rfl
 unfold Q4r
 rw [X13]
 exact k1
end Go.Ab.Sh

set_option maxRecDepth 100000
namespace Go.Ab
open Go Go.Lib
end Go.Ab
namespace Go.Ab.Sh
open Go Go.Ab Go.Lib
theorem itoa_len (z:Int) (h:X7c z=true):(itoa z).length ≤ 21:=by
 obtain ⟨h1,h2⟩:=Xdc h
 unfold itoa
 split
 ·have:=X2l z.natAbs (by omega); simp; omega
 ·have:=X2l z.toNat (by omega); omega
theorem Xja (a:Nat) (ha:a < 4294967296):(X1z a).length ≤ 83:=by
 have l1:=X2l (a / 16777216) (by omega)
 have l2:=X2l (a / 65536 % 256) (by omega)
 have l3:=X2l (a / 256 % 256) (by omega)
 have l4:=X2l (a % 256) (by omega)
 simp only [List.length_append,List.length_cons,List.length_nil]
 omega
def X1o (a:Nat) (b:Int):Str:=X1z a ++ [47] ++ itoa b
end Go.Ab.Sh

set_option maxRecDepth 100000
namespace Go.Ab
open Go Go.Lib
def Xz (sep:Str) (ws:List Str):Str:=sep.intercalate ws
theorem Xjd:∀ (ws:List Str),strsOf (ws.map sv)=some (ws.map fun w=>⟨⟨w⟩⟩)
 | []=>rfl
 | w :: ws=>by
  show (match strsOf (ws.map sv) with | some l=>some (_ :: l) | none=>none)=_
  rw [Xjd ws]; rfl
theorem Xva {m:Mem} {b o r:Nat} {c:List Value} {fro:Nat} {ro:Bool} {ty:Option Nat} {ws:List Str} (h3:m.get b=some (.cells c (r / 2) fro ro ty)) (h4:o + ws.length ≤ c.length) (h5:∀ (i:Nat) (w:Str),ws[i]?=some w→c[o + i]?=some (sv w)) :
  getCells m ⟨b,o,some (r / 2)⟩ ws.length=some (ws.map sv):=by
 have:(c.drop o).take ws.length=ws.map sv:=by
  apply List.ext_getElem?
  intro i
  rw [List.getElem?_take,List.getElem?_drop,List.getElem?_map]
  by_cases hi:i < ws.length
  ·rw [if_pos hi]
   have hw:ws[i]?=some ws[i]:=List.getElem?_eq_getElem hi
   rw [h5 i ws[i] hw,hw]; rfl
  ·rw [if_neg hi,List.getElem?_eq_none (by omega)]; rfl
 simp [Xv,X12,h3,h4,this]
theorem X10g (c g:Bool) (a k:Nat) (ha:a < 4294967296) (hk:k ≤ 32):bin .shr c g .int (.int .u32 (a:Int)) (I k)=some (.int .u32 ((a / 2 ^ k:Nat):Int)):=by
 rw [X1c]
 show (if ((k:Nat):Int) < 0 then none else some (Value.int .u32 ((a:Int).fdiv (2 ^ (min ((k:Nat):Int).toNat 32)))))=_
 rw [if_neg (by omega),Int.toNat_natCast,Nat.min_eq_left hk]
 have e:((2:Int) ^ k)=((2 ^ k:Nat):Int):=by rw [Int.natCast_pow]; rfl
 rw [e,Int.fdiv_eq_ediv_of_nonneg _ (Int.natCast_nonneg _),← Int.natCast_ediv]
end Go.Ab
namespace Go.Ab.Sh
open Go Go.Ab Go.Lib
theorem c_Join (v:Value) (ws:List Str) (sep:Str) (m:Mem) (h:SL m v ws) (hn:ws.length ≤ 140737488355328) (hl:(Xz sep ws).length ≤ 140737488355328) (d:Nat):TA d Q2s [v,sv sep] m=some (sv (Xz sep ws),m):=by
 refine Xhd (o:=Q1kr) (by kernel_rfl) ?_ d
 obtain ⟨b,o,r,c,fro,ro,ty,rfl,h2,h3,h4,h5⟩:=h
 show (if Q2s=Q2s then (match getCells m ⟨b,o,some (r / 2)⟩ ws.length with
   | some cs=>(match strsOf cs with
    | some l=>(match Nat.ble ws.length 140737488355328 && Nat.ble (Xej l ⟨⟨sep⟩⟩).length 140737488355328 with
     | true=>some (Value.string ⟨(Xej l ⟨⟨sep⟩⟩).toArray⟩,m)
     | false=>none)
    | none=>none)
   | none=>none) else none)=_
 rw [if_pos rfl,Xva h3 h4 h5]
 simp only [Xjd]
 have e:Xej (ws.map fun w=>(⟨⟨w⟩⟩:ByteArray)) ⟨⟨sep⟩⟩=Xz sep ws:=by
  unfold Xej Xz Lib.join
  rw [List.map_map]
  congr 1
  have:((fun x:ByteArray=>x.data.toList) ∘ fun w:Str=>(⟨⟨w⟩⟩:ByteArray))=id:=rfl
  rw [this,List.map_id]
 rw [e,Nat.ble_eq.mpr hn,Nat.ble_eq.mpr hl]
 rfl
theorem Xys (b:Nat) (i:Nat) (h:i < 4):Xr 4 1 (pt b 0 0) (I i)=some (pt b i 0):=by
 show (if (0:Int) ≤ (i:Int) && (i:Int) < (4:Nat) then some (Value.pointer (some ⟨b,0 + (i:Int).toNat * 1,some 0⟩)) else none)=_
 have h1:(decide ((0:Int) ≤ (i:Int)) && decide ((i:Int) < (4:Nat)))=true:=by simp; omega
 rw [if_pos h1]
 simp
def part (a i:Nat):Nat:=a / 2 ^ (24 - 8 * i) % 256
theorem Xct (a i:Nat):part a i < 256:=Nat.mod_lt _ (by omega)
theorem X93 (d:Nat) (a:Nat) (ha:a < 4294967296) (b:Nat) (ty:Option Nat):∀ (k i:Nat) (cs:List Value) (m:Mem) (j:Nat),i + k=4→k < j→cs.length=4→m.get b=some (.cells cs 0 0 false ty)→b < m.next→(∀ t,t < i→cs[t]?=some (sv (decDigits (part a t)))) →
  ∃ m1,Qaq ⟨TA d,18446744073709551616⟩ j (I i) (.int .u32 (a:Int)) (pt b 0 0) m=some (sv (X1z a),m1)∧Fr [b] m m1
 | 0,i,cs,m,j,hi,hj,hl,hb,hbn,hc=>by
  obtain ⟨j,rfl⟩:∃ q,j=q + 1:=⟨j - 1,by omega⟩
  have h4:i=4:=by omega
  subst h4
  refine ⟨m,?_,.refl _ _⟩
  have hsl:SL m (.slice (some ⟨b,0 + 0 * 1,some 1⟩) 4 1) [decDigits (part a 0),decDigits (part a 1),decDigits (part a 2),decDigits (part a 3)]:=by
   refine ⟨b,0,1,cs,0,false,ty,rfl,hbn,hb,by simp; omega,fun t w hw=>?_⟩
   rw [Nat.zero_add]
   match t,hw with
   | 0,hw=>cases hw; exact hc 0 (by omega)
   | 1,hw=>cases hw; exact hc 1 (by omega)
   | 2,hw=>cases hw; exact hc 2 (by omega)
   | 3,hw=>cases hw; exact hc 3 (by omega)
  have hs:X3i 4 1 (pt b 0 0) none none m=some (.slice (some ⟨b,0 + 0 * 1,some 1⟩) 4 1):=by
   have hg:getCells m ⟨b,0,some 0⟩ (4 * 1)=some ((cs.drop 0).take (4 * 1)):=by
    simp [Xv,X12,hb,hl]
   show (match getCells m ⟨b,0,some 0⟩ (4 * 1) with
    | none=>none
    | some _=>match bound none 4 4 with
     | some h=>match bound none 0 h with
      | some l=>if Nat.ble 1 1 then some (Value.slice (some ⟨b,0 + l * 1,some 1⟩) (h - l) (if h=4 then 2 * 0 + 1 else 2 * 0)) else none
      | none=>none
     | none=>none)=_
   rw [hg]
   rfl
  have l0:=X2l (part a 0) (by have:=Xct a 0; omega)
  have l1:=X2l (part a 1) (by have:=Xct a 1; omega)
  have l2:=X2l (part a 2) (by have:=Xct a 2; omega)
  have l3:=X2l (part a 3) (by have:=Xct a 3; omega)
  have hj2:Xz [46] [decDigits (part a 0),decDigits (part a 1),decDigits (part a 2),decDigits (part a 3)]=X1z a:=by
   have p0:part a 0=a / 16777216:=by show a / 2 ^ 24 % 256=_; rw [show (2:Nat) ^ 24=16777216 from rfl]; omega
   have p1:part a 1=a / 65536 % 256:=rfl
   have p2:part a 2=a / 256 % 256:=rfl
   have p3:part a 3=a % 256:=by show a / 2 ^ 0 % 256=_; rw [Nat.pow_zero,Nat.div_one]
   rw [p0,p1,p2,p3]
   simp [Xz,List.intercalate,List.intersperse]
  have hlen:=Xja a ha
  have cj:=c_Join _ _ [46] m hsl (by simp) (by rw [hj2]; omega) d
  have e0:Value.string ⟨#[46]⟩=sv [46]:=rfl
  unfold Qaq Qsf
  simp only [Q34,X7,Xj]
  rw [if_neg (by omega)]
  simp only [hs,X7,e0,cj,X9,hj2]
 | k + 1,i,cs,m,j,hi,hj,hl,hb,hbn,hc=>by
  obtain ⟨j,rfl⟩:∃ q,j=q + 1:=⟨j - 1,by omega⟩
  have w1:IntKind.i64.wrap (8 * (i:Int))=((8 * i:Nat):Int):=by rw [IntWalk.i64_in _ (by omega)]; omega
  have w2:IntKind.i64.wrap (24 - ((8 * i:Nat):Int))=((24 - 8 * i:Nat):Int):=by rw [IntWalk.i64_in _ (by omega)]; omega
  have w3:IntKind.i64.wrap ((i:Int) + 1)=((i + 1:Nat):Int):=by rw [IntWalk.i64_in _ (by omega)]; omega
  have hp:=Xct a i
  have w4:IntKind.i64.wrap ((part a i:Nat):Int)=((part a i:Nat):Int):=by rw [IntWalk.i64_in _ (by omega)]
  have hdiv:a / 2 ^ (24 - 8 * i) < 4294967296:=Nat.lt_of_le_of_lt (Nat.div_le_self _ _) ha
  have had:=Xtf true true (a / 2 ^ (24 - 8 * i)) 8 hdiv (by omega)
  have had:bin .and true true .int (.int .u32 ((a / 2 ^ (24 - 8 * i):Nat):Int)) (.int .u32 255)=some (.int .u32 ((part a i:Nat):Int)):=had
  obtain ⟨m',k1,k2⟩:=X3f (o:=i) (n:=1) (v:=sv (decDigits (part a i))) hb rfl (Nat.zero_le _) (by omega) rfl rfl
  have hb':m'.get b=some (.cells (cs.take i ++ [sv (decDigits (part a i))] ++ cs.drop (i + 1)) 0 0 false ty):=by
   rw [k2.get,Mem.get_put,if_pos rfl]; rfl
  have hn':m'.next=m.next:=by rw [k2.next,Mem.next_put]
  obtain ⟨m1,q1,q2⟩:=X93 d a ha b ty k (i + 1) (cs.take i ++ [sv (decDigits (part a i))] ++ cs.drop (i + 1)) m' j (by omega) (by omega) (by simp; omega) hb' (by omega) (by
   intro t ht
   have h1:(cs.take i).length=i:=by rw [List.length_take]; omega
   by_cases hti:t < i
   ·rw [List.append_assoc,List.getElem?_append_left (by omega),List.getElem?_take_of_lt hti]
    exact hc t hti
   ·have:t=i:=by omega
    subst this
    rw [List.append_assoc,List.getElem?_append_right (by omega),h1,Nat.sub_self]
    rfl)
  refine ⟨m1,?_,(((Fr.refl _ _).put _ (.inl (by simp))).meq k2).trans q2⟩
  unfold Qaq
  simp only [Q34,X7,Xj]
  rw [if_pos (by omega)]
  simp only [Q1qo,w1,X7,Q14o,w2,X10g _ _ a (24 - 8 * i) ha (by omega),had,c_int,w4,X9,c_ItoaN (part a i) (by omega),Xys b i (by omega),k1,Xg,Qqz,w3]
  exact q1
theorem c_addrText (a:Nat) (ha:a < 4294967296) (d:Nat) (m:Mem):TA (d + 1) Q6p [.int .u32 (a:Int)] m=some (sv (X1z a),m):=by
 rw [Xkx]
 obtain ⟨m1,k1,k2⟩:=X93 d a ha m.next (some (2 * Qwm + 1)) 4 0 Qwv ((X3 m m.next).push (.cells Qwv 0 0 false (some (2 * Qwm + 1)))) 18446744073709551616 (by omega) (by omega) rfl (X1e (X3 m m.next) _) (by show m.next < m.next + 1; omega) (by intro t ht; omega)
 have hF:Fr [] (X3 m m.next) m1:=by
  have h1:Fr [m.next] (X3 m m.next) m1:=((Fr.push (W:=[m.next]) _)).trans k2
  refine ⟨h1.next,h1.low,fun x a b _=>h1.low2 x a b (by intro w hw; simp at hw; subst hw; exact b),fun b hb _=>h1.get b hb (by simp; intro e; subst e; exact absurd hb (Nat.lt_irrefl _)),h1.lo⟩
 refine X4p (m1:=m1) ?_ hF rfl
 unfold Qgc Qsi Qsh Qsg
 rw [X13]
 exact k1
theorem c_addrPrefixText (a:Nat) (ha:a < 4294967296) (b:Int) (hb:X7c b=true) (d:Nat) (m:Mem):TA (d + 2) Q3e [pfx a b] m=some (sv (X1o a b),m):=by
 rw [Xay]
 refine X2a (m1:=(X3 m m.next).push (.cells [.int .u32 (a:Int),I b] 0 0 false (some (2 * Q7 + 1)))) ?_ (Fb.push _ (Nat.le_refl _)) rfl
 have l0:=X2b (m:=X3 m m.next) (cs:=[.int .u32 (a:Int),I b]) (ty:=some (2 * Q7 + 1)) (o:=0 + 0) rfl
 have l1:=X2b (m:=X3 m m.next) (cs:=[.int .u32 (a:Int),I b]) (ty:=some (2 * Q7 + 1)) (o:=0 + 1) rfl
 have e0:Value.string ⟨#[47]⟩=sv [47]:=rfl
 have h1:=Xja a ha
 have h2:=itoa_len b hb
 unfold Q5v
 rw [Xqy,X13]
 have c1:∀ m,TA (d + 1) Q6p [.int .u32 (a:Int)] m=some (sv (X1z a),m):=c_addrText a ha d
 have c2:∀ m,TA (d + 1) Qb [I b] m=some (sv (itoa b),m):=fun m=>c_Itoa b hb (d + 1) m
 generalize haT:X1z a=T at *
 simp only [Xy,X7,l0,l1,c1,X9,X3p,Bool.and_true,X2h,e0,Qka _ _ T [47] (by simp; omega),c2,Qka _ _ (T ++ [47]) (itoa b) (by simp; omega)]
 unfold X1o
 rw [haT]
end Go.Ab.Sh

set_option maxRecDepth 100000
namespace Go.Ab
open Go Go.Lib
abbrev hdr (a b p m n:Nat):Value:=.agg ⟨[.int .u32 (a:Int),.int .u32 (b:Int),.int .u8 (p:Int),.int .u16 (m:Int),.int .u16 (n:Int)]⟩
def endT (a m:Nat):Str:=X1z a ++ [58] ++ decDigits m
def X3x (a b p m n:Nat):Str:=endT a m ++ [32] ++ endT b n ++ [32] ++ decDigits p
structure HB (a b p m n:Nat):Prop where
 a:a < 4294967296
 b:b < 4294967296
 p:p ≤ 255
 m:m ≤ 65535
 n:n ≤ 65535
theorem X56 (a:Nat) (ha:a < 4294967296):(X1z a).length ≤ 83:=by
 have l1:=X2l (a / 16777216) (by omega)
 have l2:=X2l (a / 65536 % 256) (by omega)
 have l3:=X2l (a / 256 % 256) (by omega)
 have l4:=X2l (a % 256) (by omega)
 simp only [List.length_append,List.length_cons,List.length_nil]
 omega
theorem Xbz (a m:Nat) (ha:a < 4294967296) (hm:m ≤ 65535):(endT a m).length ≤ 110:=by
 have l1:=X56 a ha
 have l2:=X2l m (by omega)
 unfold endT
 simp only [List.length_append,List.length_cons,List.length_nil] at l1 ⊢
 omega
theorem Xjs {a b p m n:Nat} (h:HB a b p m n):(X3x a b p m n).length ≤ 300:=by
 have l1:=Xbz a m h.a h.m
 have l2:=Xbz b n h.b h.n
 have l3:=X2l p (by have:=h.p; omega)
 unfold X3x
 simp only [List.length_append,List.length_cons,List.length_nil]
 omega
end Go.Ab
namespace Go.Ab.Sh
open Go Go.Ab Go.Lib
theorem c_endText (a m:Nat) (ha:a < 4294967296) (hm:m ≤ 65535) (d:Nat) (mm:Mem):TA (d + 2) Q54 [.int .u32 (a:Int),.int .u16 (m:Int)] mm=some (sv (endT a m),mm):=by
 rw [Xcp]
 refine X2a (m1:=X3 mm mm.next) ?_ (.refl _ _) rfl
 have e0:Value.string ⟨#[58]⟩=sv [58]:=rfl
 have h1:=X56 a ha
 have h2:=X2l m (by omega)
 have c1:∀ m,TA (d + 1) Q6p [.int .u32 (a:Int)] m=some (sv (X1z a),m):=c_addrText a ha d
 have c2:∀ mm,TA (d + 1) Qb [I m] mm=some (sv (decDigits m),mm):=fun mm=>c_ItoaN m (by omega) (d + 1) mm
 unfold Q7l endT
 generalize X1z a=T at *
 simp only [c1,X9,e0,Qka _ _ T [58] (by simp; omega),X7,c_int,IntWalk.i64_in (m:Int) (by omega),c2,Qka _ _ (T ++ [58]) (decDigits m) (by simp; omega)]
theorem c_headerText {a b p m n:Nat} (h:HB a b p m n) (d:Nat) (mm:Mem):TA (d + 3) Q7n [hdr a b p m n] mm=some (sv (X3x a b p m n),mm):=by
 rw [Xhf]
 have hp:=h.p
 refine X2a (m1:=(X3 mm mm.next).push (.cells (hdr a b p m n).cells.toList 0 0 false (some (2 * Q1 + 1)))) ?_ (Fb.push _ (Nat.le_refl _)) rfl
 have l0:=X2b (m:=X3 mm mm.next) (cs:=(hdr a b p m n).cells.toList) (ty:=some (2 * Q1 + 1)) (o:=0 + 0) rfl
 have l1:=X2b (m:=X3 mm mm.next) (cs:=(hdr a b p m n).cells.toList) (ty:=some (2 * Q1 + 1)) (o:=0 + 1) rfl
 have l2:=X2b (m:=X3 mm mm.next) (cs:=(hdr a b p m n).cells.toList) (ty:=some (2 * Q1 + 1)) (o:=0 + 2) rfl
 have l3:=X2b (m:=X3 mm mm.next) (cs:=(hdr a b p m n).cells.toList) (ty:=some (2 * Q1 + 1)) (o:=0 + 3) rfl
 have l4:=X2b (m:=X3 mm mm.next) (cs:=(hdr a b p m n).cells.toList) (ty:=some (2 * Q1 + 1)) (o:=0 + 4) rfl
 have e0:Value.string ⟨#[32]⟩=sv [32]:=rfl
 have c1:∀ m1,Xi (TA (d + 2)) (.func (.func Q54) #[] #[]) [.int .u32 (a:Int),.int .u16 (m:Int)] m1=some (sv (endT a m),m1):=fun m1=>c_endText a m h.a h.m d m1
 have c2:∀ m1,Xi (TA (d + 2)) (.func (.func Q54) #[] #[]) [.int .u32 (b:Int),.int .u16 (n:Int)] m1=some (sv (endT b n),m1):=fun m1=>c_endText b n h.b h.n d m1
 have c3:∀ mm,TA (d + 2) Qb [I p] mm=some (sv (decDigits p),mm):=fun mm=>c_ItoaN p (by omega) (d + 2) mm
 have q1:=Xbz a m h.a h.m
 have q2:=Xbz b n h.b h.n
 have q3:=X2l p (by omega)
 unfold Qap X3x
 rw [X13]
 generalize endT a m=X at *
 generalize endT b n=Y at *
 simp only [Xy,X7,l0,l1,l2,l3,l4,c_int,IntWalk.i64_in (p:Int) (by omega),X9,c1,X3p,Bool.and_true,X2h,e0,Qka _ _ X [32] (by simp; omega),c2,Qka _ _ (X ++ [32]) Y (by simp; omega),Qka _ _ (X ++ [32] ++ Y) [32] (by simp; omega),c3,Qka _ _ (X ++ [32] ++ Y ++ [32]) (decDigits p) (by simp; omega)]
end Go.Ab.Sh

set_option maxRecDepth 100000
namespace Go.Ab
open Go Go.Lib
theorem Xxc:∀ (l:Str) (M acc u:Nat),parseUintM M acc l=.ok u→acc ≤ M→u ≤ M
 | [],M,acc,u,h,ha=>by cases h; exact ha
 | c :: r,M,acc,u,h,ha=>by
  unfold parseUintM at h
  split at h
  ·split at h
   ·cases h
   ·split at h
    ·cases h
    ·exact Xxc r M _ u h (by omega)
  ·cases h
theorem Xsc {B:Nat} {l:Str} {u:Nat} (h:parseUintB B l=.ok u):u ≤ 2 ^ B - 1:=by
 unfold parseUintB at h
 split at h
 ·cases h
 ·exact Xxc l _ 0 u h (Nat.zero_le _)
theorem Xus:∀ (l:Str) (M acc:Nat),l.all isD=true→val acc l ≤ M→M < 1844674407370955162→parseUintM M acc l=.ok (val acc l)
 | [],M,acc,_,_,_=>rfl
 | c :: r,M,acc,h,hv,hM=>by
  simp only [List.all_cons,Bool.and_eq_true] at h
  have hc:=Xqu h.1
  have h1:=Sh.val_mono r (acc * 10 + (c.toNat - 48))
  have hv':val (acc * 10 + (c.toNat - 48)) r ≤ M:=hv
  show (if 48 ≤ c.toNat∧c.toNat ≤ 57 then _ else _)=_
  rw [if_pos hc,if_neg (by omega),if_neg (by omega)]
  exact Xus r M _ h.2 hv' hM
theorem Xxb (B n:Nat) (hB:B ≤ 16) (h:n ≤ 2 ^ B - 1):parseUintB B (decDigits n)=.ok n:=by
 have hp:2 ^ B ≤ 2 ^ 16:=Nat.pow_le_pow_right (by omega) hB
 unfold parseUintB
 rw [if_neg (Xsx n)]
 have:=Xus (decDigits n) (2 ^ B - 1) 0 (Xm8 n) (by rw [Xcs]; exact h) (by omega)
 rw [Xcs] at this
 exact this
def pEnd (w:Str):Option (Nat × Nat):=match cut 58 w with
 | none=>match X5z w,parseUintB 16 [] with | some a,.ok n=>some (a,n) | _,_=>none
 | some (x,y)=>match X5z x,parseUintB 16 y with | some a,.ok n=>some (a,n) | _,_=>none
def hdrV (o:Option (Nat × Nat × Nat × Nat × Nat)):Value:=match o with
 | some (a,m,b,n,p)=>.tuple ⟨[hdr a b p m n,I 0]⟩
 | none=>.tuple ⟨[hdr 0 0 0 0 0,I 4]⟩
def prH (s:Str):Option (Nat × Nat × Nat × Nat × Nat):=match split 32 s with
 | [w0,w1,w2]=>match pEnd w0,pEnd w1,parseUintB 8 w2 with
  | some (a,m),some (b,n),.ok p=>if X3x a b p m n=s then some (a,m,b,n,p) else none
  | _,_,_=>none
 | _=>none
end Go.Ab
namespace Go.Ab.Sh
open Go Go.Ab Go.Lib
theorem c_Pu (B:Nat) (hB:B=16∨B=8) (s:Str) (hs:s.length ≤ 4194304) (d:Nat) (m:Mem):∃ u e m1,TA d Q2 [sv s,I 10,I B] m=some (.tuple ⟨[.int .u64 u,e]⟩,m1)∧Fr [] m m1 ∧
  ((∃ n:Nat,parseUintB B s=.ok n∧u=n∧e=.nilIface)∨((∀ n,parseUintB B s ≠ .ok n)∧∃ p,e=.iface Q5 (.pointer (some p)))):=by
 have key:∀ r,Q1ix Q2 [sv s,I 10,I B] m=some r→TA d Q2 [sv s,I 10,I B] m=some r:=fun r h=>Xhd (o:=Q1ix) (by kernel_rfl) h d
 have e:Q1ix Q2 [sv s,I 10,I B] m=(match parseUintB B s with
   | .ok u=>some (.tuple #[.int .u64 u,.nilIface],m)
   | Lib.NumEnd.syntax=>errV (.int .u64 0) Q5 m
   | .range=>errV (.int .u64 (2 ^ B - 1:Nat)) Q5 m):=by
  have f16:∀ (z:Int) (Z:Nat),ovPu Q2 Q5 z Z Q2 [sv s,I 10,I B] m=if (B:Int)=z then (match parseUintB Z s with
   | .ok u=>some (.tuple #[.int .u64 u,.nilIface],m)
   | Lib.NumEnd.syntax=>errV (.int .u64 0) Q5 m
   | .range=>errV (.int .u64 (2 ^ Z - 1:Nat)) Q5 m) else none:=by
   intro z Z
   show (if Q2=Q2∧s.length ≤ 281474976710656∧(10:Int)=10∧(B:Int)=z then _ else none)=_
   by_cases hz:(B:Int)=z
   ·rw [if_pos ⟨rfl,by omega,rfl,hz⟩,if_pos hz]; rfl
   ·rw [if_neg (by intro h; exact hz h.2.2.2),if_neg hz]
  show (match ovPu Q2 Q5 16 16 Q2 [sv s,I 10,I B] m with | some r=>some r | none=>ovPu Q2 Q5 8 8 Q2 [sv s,I 10,I B] m)=_
  rw [f16,f16]
  rcases hB with rfl | rfl
  ·rw [if_pos (by rfl)]
   cases parseUintB 16 s <;> rfl
  ·rw [if_neg (by omega),if_pos (by rfl)]
 rw [e] at key
 cases h:parseUintB B s with
 | ok v =>
  rw [h] at key
  exact ⟨v,.nilIface,m,key _ rfl,.refl _ _,.inl ⟨v,rfl,rfl,rfl⟩⟩
 | range =>
  rw [h] at key
  exact ⟨_,_,_,key _ rfl,.push _,.inr ⟨by simp,_,rfl⟩⟩
 | _ =>
  rw [h] at key
  exact ⟨0,_,_,key _ rfl,.push _,.inr ⟨by simp,_,rfl⟩⟩
theorem aB50:X18 Qa [(0,1),(1,1),(2,1),(3,1),(4,1)] []=some (hdr 0 0 0 0 0):=Eq.trans rfl rfl
end Go.Ab.Sh

set_option maxRecDepth 100000
namespace Go.Ab
open Go Go.Lib
theorem SL.block {m:Mem} {v:Value} {ws:List Str} (h:SL m v ws):∃ bs,bs < m.next∧(∀ m',m.next ≤ m'.next→m'.get bs=m.get bs→SL m' v ws)∧∀ n,refs n 8 v=Nat.blt bs n:=by
 obtain ⟨b,o,r,c,fro,ro,ty,rfl,h2,h3,h4,h5⟩:=h
 exact ⟨b,h2,fun m' hn hg=>⟨b,o,r,c,fro,ro,ty,rfl,Nat.lt_of_lt_of_le h2 hn,by rw [hg]; exact h3,h4,h5⟩,fun n=>rfl⟩
theorem Xv1 {a b:Nat} (h:Nat.blt a b=false):b ≤ a:=by
 rcases Nat.lt_or_ge a b with q | q
 ·rw [Nat.blt_eq.mpr q] at h; cases h
 ·exact q
theorem Xh8 {x:Str} {a n:Nat} (h:pEnd x=some (a,n)):a < 4294967296∧n ≤ 65535:=by
 unfold pEnd at h
 split at h
 ·split at h
  ·rename_i h1 h2
   cases h
   exact ⟨Sh.addrP_lt h1,Xsc h2⟩
  ·cases h
 ·split at h
  ·rename_i h1 h2
   cases h
   exact ⟨Sh.addrP_lt h1,Xsc h2⟩
  ·cases h
theorem Xhj {m:Mem} {b o:Nat} {cs:List Value} {ty:Option Nat} (h:m.get b=some (.cells cs 0 0 false ty)) (v:Value) (hv:v.cells.toList=[v]) (h1:one v=true) (ho:o + 1 ≤ cs.length) {B:Nat} (hB:B ≤ b) :
  ∃ m',X8 1 (pt b o 0) v m=some m'∧Fb B m m'∧m'.next=m.next∧m'.get b=some (.cells (cs.take o ++ [v] ++ cs.drop (o + 1)) 0 0 false ty)∧∀ c,c ≠ b→m'.get c=m.get c:=by
 have hs:v.cells.size=1:=by rw [← Array.length_toList,hv]; rfl
 obtain ⟨m',k1,k2⟩:=X3f (o:=o) (n:=1) (v:=v) h hs (Nat.zero_le _) ho (by rw [hv]; simp [h1]) rfl
 refine ⟨m',k1,((Fb.refl B _).put _ hB).meq k2,by rw [k2.next,Mem.next_put],by rw [k2.get,Mem.get_put,if_pos rfl,hv],fun c hc=>by rw [k2.get,Mem.get_put,if_neg (fun e=>hc e.symm)]⟩
end Go.Ab
namespace Go.Ab.Sh
open Go Go.Ab Go.Lib
def cutO (c:UInt8) (w:Str):Str × Str × Bool:=match cut c w with | none=>(w,[],false) | some (x,y)=>(x,y,true)
theorem c_CutO (s:Str) (hs:s.length ≤ 4194304) (c:UInt8) (d:Nat) (m:Mem):TA (d + 2) Q3c [sv s,sv [c]] m=some (.tuple ⟨[sv (cutO c s).1,sv (cutO c s).2.1,.bool (cutO c s).2.2]⟩,m):=by
 rw [c_Cut s hs]
 unfold cutO
 cases cut c s <;> rfl
theorem Xmn (c:UInt8) (w:Str):(cutO c w).1.length ≤ w.length∧(cutO c w).2.1.length ≤ w.length:=by
 unfold cutO
 cases h:cut c w with
 | none=>simp
 | some p=>have:=Xat h; simp; omega
theorem X11m (w:Str):pEnd w=match X5z (cutO 58 w).1,parseUintB 16 (cutO 58 w).2.1 with | some a,.ok n=>some (a,n) | _,_=>none:=by
 unfold pEnd cutO
 cases cut 58 w <;> rfl
theorem Xu6 (d:Nat) (k0:Value→Value→Value→Value→Value→Mem→Option Rs) (B b0 b5 i:Nat) (hi:i < 2) (v:Value) (ws:List Str) (w:Str) (hw:ws[i]?=some w) (hwl:w.length ≤ 4194304) (p0:Value) (cs:List Value) (ty:Option Nat) (m:Mem)
  (hS:SL m v ws) (g0:m.get b0=some (.cells Qa 0 0 false (some (2 * Q1 + 1)))) (g5:m.get b5=some (.cells cs 0 0 false ty)) (hcs:cs.length=5) (hB:B ≤ b0) (hB5:B ≤ b5) (hn0:b0 < m.next) (hn5:b5 < m.next) (hBm:B ≤ m.next) :
  (pEnd w=none→∃ m1,Q3g ⟨TA (d + 4),18446744073709551616⟩ k0 v (I i) (pt b0 0 0) (pt b5 0 0) (I i) p0 m=some (hdrV none,m1)∧Fb B m m1) ∧
  (∀ a n,pEnd w=some (a,n)→∃ m1,Q3g ⟨TA (d + 4),18446744073709551616⟩ k0 v (I i) (pt b0 0 0) (pt b5 0 0) (I i) p0 m=k0 (I (i + 1:Nat)) v (pt b0 0 0) (pt b5 0 0) p0 m1∧Fb B m m1 ∧
   (∀ c,c < m.next→c ≠ b5→m1.get c=m.get c)∧m1.get b5=some (.cells (((cs.take i ++ [Value.int .u32 (a:Int)] ++ cs.drop (i + 1)).take (3 + i)) ++ [Value.int .u16 (n:Int)] ++ ((cs.take i ++ [Value.int .u32 (a:Int)] ++ cs.drop (i + 1)).drop (3 + i + 1))) 0 0 false ty)):=by
 obtain ⟨p,l1,l2⟩:=hS.at hw
 have hcl:=Xmn 58 w
 have hcut:TA (d + 4) Q3c [sv w,.string ⟨#[58]⟩] m=_:=c_CutO w hwl 58 (d + 2) m
 have haddr:∀ m,TA (d + 4) Q6x [sv (cutO 58 w).1] m=_:=fun m=>c_addrParse (cutO 58 w).1 (by omega) d m
 obtain ⟨u,e,mP,r1,r2,r3⟩:=c_Pu 16 (.inl rfl) (cutO 58 w).2.1 (by omega) (d + 4) m
 have r1:TA (d + 4) Q2 [sv (cutO 58 w).2.1,.int .i64 10,.int .i64 16] m=_:=r1
 have gP0:mP.get b0=some (.cells Qa 0 0 false (some (2 * Q1 + 1))):=by rw [r2.get b0 hn0 (by simp)]; exact g0
 have gP5:mP.get b5=some (.cells cs 0 0 false ty):=by rw [r2.get b5 hn5 (by simp)]; exact g5
 have FP:Fb B m mP:=Fr.toFb r2 hBm
 obtain ⟨mE,e1,e2,_⟩:=X2j (n:=5) (tail:=[I 4]) gP0 rfl (vs:=(hdr 0 0 0 0 0).cells.toList) rfl rfl hB
 have e1:(bp (unt (X8 5 (pt b0 0 0) (hdr 0 0 0 0 0) mP)) fun _ m_1=>ob (ob (X4 true 5 (pt b0 0 0) m_1) fun v=>ob (some [Value.int .i64 4]) fun l=>some (v :: l)) fun l=>some (X1p l,m_1))=some (hdrV none,mE):=e1
 rw [X11m w]
 unfold Q3g Qje Qjd Qjc Qct Qcs
 simp only [l1,l2,X7,hcut,X9,ex0,ex1,ex2,haddr]
 cases ha:X5z (cutO 58 w).1 with
 | none =>
  refine ⟨fun _=>⟨mE,?_,FP.trans e2⟩,fun a n h=>by cases h⟩
  simp only [Xdb,ex0,ex1,X7,r1,X9,Q8k,Xj,Xh,aB50]
  exact e1
 | some a =>
  have ha2:=addrP_lt ha
  simp only [Xdb,ex0,ex1,X7,r1,X9,Q8k,Xj,Xh,aB50]
  rcases r3 with ⟨n,h1,rfl,rfl⟩ | ⟨h1,q,rfl⟩
  ·rw [h1]
   refine ⟨fun h=>(by simp at h),fun a' n' h=>?_⟩
   simp only [Option.some.injEq,Prod.mk.injEq] at h
   obtain ⟨rfl,rfl⟩:=h
   have hn:=Xsc h1
   have w16:IntKind.u16.wrap (n:Int)=n:=by rw [IntWalk.u16_in _ (by omega)]
   have w1:IntKind.i64.wrap ((i:Int) + 1)=((i + 1:Nat):Int):=by rw [IntWalk.i64_in _ (by omega)]; omega
   obtain ⟨m2,k1,k2,k3,k4,k5⟩:=Xhj (o:=i) gP5 (.int .u32 (a:Int)) rfl rfl (by omega) hB5
   have hl2:(cs.take i ++ [Value.int .u32 (a:Int)] ++ cs.drop (i + 1)).length=5:=by simp; omega
   obtain ⟨m3,q1,q2,q3,q4,q5⟩:=Xhj (o:=3 + i) k4 (.int .u16 (n:Int)) rfl rfl (by omega) hB5
   refine ⟨m3,?_,FP.trans (k2.trans q2),fun c hc hc5=>by rw [q5 c hc5,k5 c hc5,r2.get c hc (by simp)],q4⟩
   simp only [ne_eq,not_true_eq_false,decide_false,Xd,nilI,X7,c_int,w16,X9,Q5z,Xj,Xy,Qqz,w1]
   have hi2:i=0∨i=1:=by omega
   rcases hi2 with rfl | rfl
   ·simp only [if_false]
    have k1:X8 1 (pt b5 (0 + 0) 0) (.int .u32 (a:Int)) mP=some m2:=k1
    have q1:X8 1 (pt b5 (0 + 3) 0) (.int .u16 (n:Int)) m2=some m3:=q1
    simp [k1,q1,Xg]
   ·simp only [if_false]
    have k1:X8 1 (pt b5 (0 + 1) 0) (.int .u32 (a:Int)) mP=some m2:=k1
    have q1:X8 1 (pt b5 (0 + 4) 0) (.int .u16 (n:Int)) m2=some m3:=q1
    simp [k1,q1,Xg]
  ·have:(match some a,parseUintB 16 (cutO 58 w).2.1 with | some a,.ok n=>some (a,n) | _,_=>none:Option (Nat × Nat))=none:=by
    cases h:parseUintB 16 (cutO 58 w).2.1 with
    | ok n=>exact absurd h (h1 n)
    | _=>rfl
   rw [this]
   refine ⟨fun _=>⟨mE,?_,FP.trans e2⟩,fun a n h=>by cases h⟩
   simp only [ne_eq,not_true_eq_false,decide_false,Xd,Xzy,X7,Xh,aB50,if_false]
   exact e1
end Go.Ab.Sh

set_option maxRecDepth 100000
namespace Go.Ab.Sh
open Go Go.Ab Go.Lib
theorem c_header (s:Str) (hs:s.length ≤ 4194304) (d:Nat) (m:Mem):TA (d + 5) Qcy [sv s] m=some (hdrV (prH s),m):=by
 rw [Xef]
 let m0:=(X3 m m.next).push (.cells Qa 0 0 false (some (2 * Q1 + 1)))
 have g0:m0.get m.next=some (.cells Qa 0 0 false (some (2 * Q1 + 1))):=X1e (X3 m m.next) _
 have F0:Fb m.next (X3 m m.next) m0:=Fb.push _ (Nat.le_refl _)
 have n0:m0.next=m.next + 1:=rfl
 have body:∃ m1,Qf0 ⟨TA (d + 4),18446744073709551616⟩ (sv s) (pt m.next 0 0) m0=some (hdrV (prH s),m1)∧Fb m.next m0 m1:=by
  obtain ⟨v,m1,k1,k2,k3,k4⟩:=c_Split s hs 32 (d + 1) m0
  have k1:TA (d + 4) Q2x [sv s,.string ⟨#[32]⟩] m0=some (v,m1):=k1
  have F1:Fb m.next m0 m1:=Fr.toFb k2 (by omega)
  have n1:m.next < m1.next:=Nat.lt_of_lt_of_le (by omega) k2.next
  have g1:m1.get m.next=some (.cells Qa 0 0 false (some (2 * Q1 + 1))):=by rw [k2.get _ (by omega) (by simp)]; exact g0
  obtain ⟨mE,r1,r2,_⟩:=X2j (n:=5) (tail:=[I 4]) g1 rfl (vs:=(hdr 0 0 0 0 0).cells.toList) rfl rfl (Nat.le_refl m.next)
  have r1:(bp (unt (X8 5 (pt m.next 0 0) (hdr 0 0 0 0 0) m1)) fun _ m_1=>ob (ob (X4 true 5 (pt m.next 0 0) m_1) fun v=>ob (some [Value.int .i64 4]) fun l=>some (v :: l)) fun l=>some (X1p l,m_1))=some (hdrV none,mE):=r1
  unfold Qf0 Qlk
  simp only [k1,X9,k3.len,X7,Q8k,Xj]
  by_cases h3:(split 32 s).length=3
  ·rw [if_neg (by omega)]
   obtain ⟨w0,w1,w2,hws⟩:∃ w0 w1 w2,split 32 s=[w0,w1,w2]:=by
    cases h:split 32 s with
    | nil=>rw [h] at h3; simp at h3
    | cons a l=>cases l with
     | nil=>rw [h] at h3; simp at h3
     | cons b l=>cases l with
      | nil=>rw [h] at h3; simp at h3
      | cons c l=>cases l with
       | nil=>exact ⟨a,b,c,rfl⟩
       | cons _ _=>rw [h] at h3; simp at h3
   have hl0:w0.length ≤ s.length:=X4e 32 s w0 (by rw [hws]; simp)
   have hl1:w1.length ≤ s.length:=X4e 32 s w1 (by rw [hws]; simp)
   have hl2:w2.length ≤ s.length:=X4e 32 s w2 (by rw [hws]; simp)
   rw [hws] at k3
   obtain ⟨bs,hb1,hb2,hb3⟩:=k3.block
   have hbs:m0.next ≤ bs:=Xv1 ((hb3 _).symm.trans k4)
   -- the header's variable
   let m2:=m1.push (.cells Qa 0 0 false (some (2 * Q1 + 1)))
   have g5:m2.get m1.next=some (.cells Qa 0 0 false (some (2 * Q1 + 1))):=X1e m1 _
   have old2:∀ c,c < m1.next→m2.get c=m1.get c:=fun c hc=>by show (m1.push _).get c=_; rw [Mem.get_push,if_neg (by omega)]
   have n2:m2.next=m1.next + 1:=rfl
   have F2:Fb m.next m1 m2:=Fb.push _ (by omega)
   have S2:SL m2 v [w0,w1,w2]:=hb2 m2 (by omega) (old2 bs hb1)
   unfold Qlj Qli Qlh
   rw [X13]
   show ∃ m1',Q9 ⟨TA (d + 4),18446744073709551616⟩ (18446744073709551613 + 1 + 1 + 1) (I 0) v (pt m.next 0 0) (pt m1.next 0 0) (sv s) m2=_∧_
   obtain ⟨it1,it2⟩:=Xu6 d (Q9 ⟨TA (d + 4),18446744073709551616⟩ (18446744073709551613 + 1 + 1)) m.next m.next m1.next 0 (by omega) v [w0,w1,w2] w0 rfl (by omega) (sv s) Qa (some (2 * Q1 + 1)) m2 S2 (by rw [old2 _ n1]; exact g1) g5 rfl (Nat.le_refl _) (by omega) (by omega) (by omega) (by omega)
   have st0:Q9 ⟨TA (d + 4),18446744073709551616⟩ (18446744073709551613 + 1 + 1 + 1) (I 0) v (pt m.next 0 0) (pt m1.next 0 0) (sv s) m2=Q3g ⟨TA (d + 4),18446744073709551616⟩ (Q9 ⟨TA (d + 4),18446744073709551616⟩ (18446744073709551613 + 1 + 1)) v (I (0:Nat)) (pt m.next 0 0) (pt m1.next 0 0) (I (0:Nat)) (sv s) m2:=by
    rw [Q9]
    unfold Q81 Qcu
    simp only [Q34,X7,Xj]
    rfl
   rw [st0]
   cases he0:pEnd w0 with
   | none =>
    obtain ⟨m3,q1,q2⟩:=it1 he0
    have hE:prH s=none:=by unfold prH; simp only [hws,he0]
    rw [hE]
    exact ⟨m3,q1,F1.trans (F2.trans q2)⟩
   | some am =>
    obtain ⟨a,pm⟩:=am
    obtain ⟨b1,b2⟩:=Xh8 he0
    obtain ⟨m3,q1,q2,q3,q4⟩:=it2 a pm he0
    rw [q1]
    have n3:m2.next ≤ m3.next:=q2.next
    have S3:SL m3 v [w0,w1,w2]:=hb2 m3 (by omega) (by rw [q3 bs (by omega) (by omega),old2 bs hb1])
    obtain ⟨it3,it4⟩:=Xu6 d (Q9 ⟨TA (d + 4),18446744073709551616⟩ (18446744073709551613 + 1)) m.next m.next m1.next 1 (by omega) v [w0,w1,w2] w1 rfl (by omega) (sv s) _ (some (2 * Q1 + 1)) m3 S3 (by rw [q3 _ (by omega) (by omega),old2 _ n1]; exact g1) q4 rfl (Nat.le_refl _) (by omega) (by omega) (by omega) (by omega)
    have st1:Q9 ⟨TA (d + 4),18446744073709551616⟩ (18446744073709551613 + 1 + 1) (I (0 + 1:Nat)) v (pt m.next 0 0) (pt m1.next 0 0) (sv s) m3=Q3g ⟨TA (d + 4),18446744073709551616⟩ (Q9 ⟨TA (d + 4),18446744073709551616⟩ (18446744073709551613 + 1)) v (I (1:Nat)) (pt m.next 0 0) (pt m1.next 0 0) (I (1:Nat)) (sv s) m3:=by
     rw [Q9]
     unfold Q81 Qcu
     simp only [Q34,X7,Xj]
     rfl
    rw [st1]
    cases he1:pEnd w1 with
    | none =>
     obtain ⟨m4,t1,t2⟩:=it3 he1
     have hE:prH s=none:=by unfold prH; simp only [hws,he0,he1]
     rw [hE]
     exact ⟨m4,t1,F1.trans (F2.trans (q2.trans t2))⟩
    | some bn =>
     obtain ⟨b,pn⟩:=bn
     obtain ⟨b3,b4⟩:=Xh8 he1
     obtain ⟨m4,t1,t2,t3,t4⟩:=it4 b pn he1
     rw [t1]
     have n4:m3.next ≤ m4.next:=t2.next
     have S4:SL m4 v [w0,w1,w2]:=hb2 m4 (by omega) (by rw [t3 bs (by omega) (by omega),q3 bs (by omega) (by omega),old2 bs hb1])
     have g4:m4.get m.next=some (.cells Qa 0 0 false (some (2 * Q1 + 1))):=by rw [t3 _ (by omega) (by omega),q3 _ (by omega) (by omega),old2 _ n1]; exact g1
     have h4:m4.get m1.next=some (.cells [.int .u32 (a:Int),.int .u32 (b:Int),.int .u8 0,.int .u16 (pm:Int),.int .u16 (pn:Int)] 0 0 false (some (2 * Q1 + 1))):=t4
     have F4:Fb m.next m0 m4:=F1.trans (F2.trans (q2.trans t2))
     -- the last word
     obtain ⟨p,l1,l2⟩:=S4.at (i:=2) (w:=w2) rfl
     have l1:X5 1 v (.int .i64 2)=some p:=l1
     obtain ⟨u,e,mP,c1,c2,c3⟩:=c_Pu 8 (.inr rfl) w2 (by omega) (d + 4) m4
     have c1:TA (d + 4) Q2 [sv w2,.int .i64 10,.int .i64 8] m4=_:=c1
     have gP:mP.get m.next=some (.cells Qa 0 0 false (some (2 * Q1 + 1))):=by rw [c2.get _ (by omega) (by simp)]; exact g4
     have hP:mP.get m1.next=some (.cells [.int .u32 (a:Int),.int .u32 (b:Int),.int .u8 0,.int .u16 (pm:Int),.int .u16 (pn:Int)] 0 0 false (some (2 * Q1 + 1))):=by rw [c2.get _ (by omega) (by simp)]; exact h4
     have FP:Fb m.next m0 mP:=F4.trans (Fr.toFb c2 (by omega))
     rw [Q9]
     unfold Q81 Qlg Qlf Qle
     simp only [Q34,X7,Xj]
     rw [if_neg (by omega)]
     simp only [l1,l2,X7,c1,X9,ex0,ex1,c_int,Xy]
     obtain ⟨m5,x1,x2,x3,x4,x5⟩:=Xhj (o:=2) hP (.int .u8 (IntKind.u8.wrap u)) rfl rfl (by simp) (by omega:m.next ≤ m1.next)
     have x1:X8 1 (pt m1.next (0 + 2) 0) (.int .u8 (IntKind.u8.wrap u)) mP=some m5:=x1
     have g6:m5.get m.next=some (.cells Qa 0 0 false (some (2 * Q1 + 1))):=by rw [x5 _ (by omega)]; exact gP
     obtain ⟨mF,y1,y2,_⟩:=X2j (n:=5) (tail:=[I 4]) g6 rfl (vs:=(hdr 0 0 0 0 0).cells.toList) rfl rfl (Nat.le_refl m.next)
     have y1:(bp (unt (X8 5 (pt m.next 0 0) (hdr 0 0 0 0 0) m5)) fun _ m_1=>ob (ob (X4 true 5 (pt m.next 0 0) m_1) fun v=>ob (some [Value.int .i64 4]) fun l=>some (v :: l)) fun l=>some (X1p l,m_1))=some (hdrV none,mF):=y1
     simp only [x1,Xg]
     rcases c3 with ⟨p8,z1,rfl,rfl⟩ | ⟨z1,q,rfl⟩
     ·have hp8:p8 ≤ 255:=Xsc z1
      have w8:IntKind.u8.wrap (p8:Int)=p8:=by rw [IntWalk.u8_in _ (by omega)]
      rw [w8] at x4
      have hb:HB a b p8 pm pn:=⟨b1,b3,hp8,b2,b4⟩
      have ld:X4 true 5 (pt m1.next 0 0) m5=some (hdr a b p8 pm pn):=X10 x4 (by simp) rfl
      have ct:TA (d + 4) Q7n [hdr a b p8 pm pn] m5=_:=c_headerText hb (d + 1) m5
      unfold Q9i
      simp only [nilI,X7,Xd,ld,ct,X9,Q13n,Xj,aB50]
      by_cases hT:X3x a b p8 pm pn=s
      ·have hE:prH s=some (a,pm,b,pn,p8):=by unfold prH; simp only [hws,he0,he1,z1,hT,if_true]
       rw [hE,if_neg (by simpa using hT)]
       obtain ⟨mG,v1,v2,_⟩:=X2j (n:=5) (tail:=[I 0]) g6 rfl (vs:=(hdr a b p8 pm pn).cells.toList) rfl rfl (Nat.le_refl m.next)
       exact ⟨mG,v1,FP.trans (x2.trans v2)⟩
      ·have hE:prH s=none:=by unfold prH; simp only [hws,he0,he1,z1,hT,if_false]
       rw [hE,if_pos hT]
       exact ⟨mF,y1,FP.trans (x2.trans y2)⟩
     ·have hE:prH s=none:=by
       unfold prH
       simp only [hws,he0,he1]
       cases h:parseUintB 8 w2 with
       | ok n=>exact absurd h (z1 n)
       | _=>rfl
      rw [hE]
      unfold Q9i
      simp only [Xzy,X7,Xh,aB50]
      exact ⟨mF,y1,FP.trans (x2.trans y2)⟩
  ·rw [if_pos (by omega)]
   have hE:prH s=none:=by
    unfold prH
    split
    ·rename_i h; rw [h] at h3; simp at h3
    ·rfl
   rw [hE]
   simp only [aB50,X7]
   exact ⟨mE,r1,F1.trans r2⟩
 obtain ⟨m1,k1,k2⟩:=body
 refine X2a (m1:=m1) ?_ (F0.trans k2) (by cases prH s <;> rfl)
 unfold Q8u
 rw [X13]
 exact k1
end Go.Ab.Sh

set_option maxRecDepth 100000
namespace Go.Ab
open Go Go.Lib
theorem X37 (n:Nat) (c:UInt8) (h:isD c=false):c ∉ decDigits n:=by
 intro hc
 have:=List.all_eq_true.mp (Xm8 n) c hc
 rw [h] at this
 cases this
theorem X69 {c:UInt8} {x:Str} (y:Str) (h:c ∉ x):split c (x ++ c :: y)=x :: split c y:=X5a (Xd5 y h)
theorem Xcv {c:UInt8} {x:Str} (h:c ∉ x):split c x=[x]:=X59 (Xug h)
theorem Xei (c:UInt8):∀ (n:Nat) (s:Str),s.length ≤ n→∀ ws,split c s=ws→s=Xz [c] ws∧∀ w ∈ ws,c ∉ w
 | n,s,hn,ws,h=>by
  cases hc:cut c s with
  | none =>
   rw [X59 hc] at h
   subst h
   refine ⟨by simp [Xz,List.intercalate],fun w hw=>?_⟩
   simp only [List.mem_singleton] at hw
   subst hw
   exact Xu5 hc
  | some p =>
   obtain ⟨x,y⟩:=p
   have hl:=Xat hc
   rw [X5a hc] at h
   subst h
   cases n with
   | zero=>omega
   | succ n =>
    obtain ⟨q1,q2⟩:=Xei c n y (by omega) _ rfl
    obtain ⟨e1,e2⟩:=Xdq hc
    refine ⟨?_,fun w hw=>?_⟩
    ·rw [e1]
     cases hs:split c y with
     | nil=>exact absurd hs (Xhh c y)
     | cons a l =>
      rw [hs] at q1
      rw [q1]
      simp [Xz,List.intercalate,List.intersperse]
    ·rcases List.mem_cons.mp hw with e | e
     ·subst e; exact e2
     ·exact q2 w e
theorem split_eq_iff {c:UInt8} {s:Str} {ws:List Str}:split c s=ws ↔ ws ≠ []∧s=Xz [c] ws∧∀ w ∈ ws,c ∉ w:=by
 constructor
 ·intro h
  obtain ⟨q1,q2⟩:=Xei c s.length s (Nat.le_refl _) ws h
  exact ⟨fun e=>Xhh c s (h.trans e),q1,q2⟩
 ·rintro ⟨h1,rfl,h3⟩
  induction ws with
  | nil=>exact absurd rfl h1
  | cons w ws ih =>
   cases ws with
   | nil=>exact (by simpa [Xz,List.intercalate] using Xcv (h3 w (by simp)))
   | cons w2 ws =>
    have e:Xz [c] (w :: w2 :: ws)=w ++ c :: Xz [c] (w2 :: ws):=by simp [Xz,List.intercalate,List.intersperse]
    rw [e,X69 _ (h3 w (by simp)),ih (by simp) (fun x hx=>h3 x (List.mem_cons_of_mem _ hx))]
theorem X6v (a:Nat) (c:UInt8) (h:isD c=false) (h2:c ≠ 46):c ∉ X1z a:=by
 simp only [List.mem_append,List.mem_cons,List.not_mem_nil,or_false,not_or]
 exact ⟨⟨⟨⟨⟨⟨X37 _ c h,h2⟩,X37 _ c h⟩,h2⟩,X37 _ c h⟩,h2⟩,X37 _ c h⟩
theorem d46:isD 46=false:=by decide
theorem addrP_iff {s:Str} {a:Nat}:X5z s=some a ↔ s=X1z a∧a < 4294967296:=by
 constructor
 ·intro h
  refine ⟨?_,Sh.addrP_lt h⟩
  unfold X5z at h
  split at h
  ·rename_i h4
   obtain ⟨w0,w1,w2,w3,hws⟩:∃ w0 w1 w2 w3,split 46 s=[w0,w1,w2,w3]:=by
    match hs:split 46 s,h4 with
    | [a,b,c,d],_=>exact ⟨a,b,c,d,rfl⟩
   rw [hws] at h
   unfold X9c at h
   cases e0:num 255 w0 with
   | none=>rw [e0] at h; cases h
   | some n0 =>
    rw [e0] at h
    simp only at h
    unfold X9c at h
    cases e1:num 255 w1 with
    | none=>rw [e1] at h; cases h
    | some n1 =>
     rw [e1] at h
     simp only at h
     unfold X9c at h
     cases e2:num 255 w2 with
     | none=>rw [e2] at h; cases h
     | some n2 =>
      rw [e2] at h
      simp only at h
      unfold X9c at h
      cases e3:num 255 w3 with
      | none=>rw [e3] at h; cases h
      | some n3 =>
       rw [e3] at h
       simp only at h
       have h:some ((((0 * 256 + n0) * 256 + n1) * 256 + n2) * 256 + n3)=some a:=h
       cases h
       obtain ⟨rfl,b0⟩:=num_some.mp e0
       obtain ⟨rfl,b1⟩:=num_some.mp e1
       obtain ⟨rfl,b2⟩:=num_some.mp e2
       obtain ⟨rfl,b3⟩:=num_some.mp e3
       obtain ⟨_,q,_⟩:=split_eq_iff.mp hws
       rw [q]
       have p0:((((0 * 256 + n0) * 256 + n1) * 256 + n2) * 256 + n3) / 16777216=n0:=by omega
       have p1:((((0 * 256 + n0) * 256 + n1) * 256 + n2) * 256 + n3) / 65536 % 256=n1:=by omega
       have p2:((((0 * 256 + n0) * 256 + n1) * 256 + n2) * 256 + n3) / 256 % 256=n2:=by omega
       have p3:((((0 * 256 + n0) * 256 + n1) * 256 + n2) * 256 + n3) % 256=n3:=by omega
       show Xz [46] [decDigits n0,decDigits n1,decDigits n2,decDigits n3]=X1z _
       unfold X1z
       rw [p0,p1,p2,p3]
       simp [Xz,List.intercalate,List.intersperse]
  ·cases h
 ·rintro ⟨rfl,ha⟩
  have hs:split 46 (X1z a)=[decDigits (a / 16777216),decDigits (a / 65536 % 256),decDigits (a / 256 % 256),decDigits (a % 256)]:=by
   refine split_eq_iff.mpr ⟨by simp,by simp [Xz,List.intercalate,List.intersperse],fun w hw=>?_⟩
   simp only [List.mem_cons,List.not_mem_nil,or_false] at hw
   rcases hw with rfl | rfl | rfl | rfl <;> exact X37 _ 46 d46
  unfold X5z
  rw [hs,if_pos (by rfl)]
  unfold X9c
  rw [X5r (by omega)]
  simp only
  unfold X9c
  rw [X5r (by omega)]
  simp only
  unfold X9c
  rw [X5r (by omega)]
  simp only
  unfold X9c
  rw [X5r (by omega)]
  show some _=some _
  congr 1
  omega
theorem d58:isD 58=false:=by decide
theorem d32:isD 32=false:=by decide
theorem X12d (a m:Nat):cut 58 (endT a m)=some (X1z a,decDigits m):=by
 unfold endT
 rw [show X1z a ++ [58] ++ decDigits m=X1z a ++ 58 :: decDigits m by simp]
 exact Xd5 _ (X6v a 58 d58 (by decide))
theorem X73 (a m:Nat):(32:UInt8) ∉ endT a m:=by
 unfold endT
 simp only [List.mem_append,List.mem_singleton,not_or]
 exact ⟨⟨by simpa only [List.mem_append,List.mem_singleton,not_or] using X6v a 32 d32 (by decide),by decide⟩,X37 m 32 d32⟩
theorem Xgw (a b p m n:Nat):X3x a b p m n=endT a m ++ 32 :: (endT b n ++ 32 :: decDigits p):=by unfold X3x; simp
theorem Xik {a n:Nat} (ha:a < 4294967296) (hn:n ≤ 65535):pEnd (endT a n)=some (a,n):=by
 unfold pEnd
 rw [X12d]
 simp only [addrP_iff.mpr ⟨rfl,ha⟩,Xxb 16 n (by omega) hn]
theorem prH_iff {s:Str} {a m b n p:Nat}:prH s=some (a,m,b,n,p) ↔ s=X3x a b p m n∧HB a b p m n:=by
 constructor
 ·intro h
  unfold prH at h
  split at h
  ·rename_i w0 w1 w2 hws
   split at h
   ·rename_i a' m' b' n' p' e1 e2 e3
    split at h
    ·rename_i hT
     cases h
     obtain ⟨q1,q2⟩:=Xh8 e1
     obtain ⟨q3,q4⟩:=Xh8 e2
     exact ⟨hT.symm,q1,q3,Xsc e3,q2,q4⟩
    ·cases h
   ·cases h
  ·cases h
 ·rintro ⟨rfl,h⟩
  have hs:split 32 (X3x a b p m n)=[endT a m,endT b n,decDigits p]:=by
   rw [Xgw,X69 _ (X73 a m),X69 _ (X73 b n),Xcv (X37 p 32 d32)]
  unfold prH
  rw [hs]
  simp only [Xik h.a h.m,Xik h.b h.n,Xxb 8 p (by omega) h.p,if_true]
end Go.Ab
