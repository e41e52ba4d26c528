/-
  What the functions of the program answer, at every text and every question. No conditions.
-/
import Derived.Test.YtjnfcoeninejbaaGreatDoorT
import Derived.Test.YtjnfcoeninejbaaGreatDoorAb5
import Derived.Lib.ItoaNum
import Derived.Lib.AtoiAll
import Derived.Lib.ParseIntB
import Derived.Lib.Index
import Derived.Lib.Bytealg
import Derived.Lib.Join
namespace Go.Ab
open Go

abbrev Str:=List UInt8
def sv (l:Str):Value:=.string ⟨⟨l⟩⟩
theorem Xvz (l:Str):Value.string ⟨List.toArray l⟩=sv l:=rfl
theorem Xur (l:Str):(⟨⟨l⟩⟩:ByteArray).data.toList=l:=rfl
theorem Xw5 (s:ByteArray):Value.string s=sv s.data.toList:=rfl
abbrev I (z:Int):Value:=.int .i64 z
theorem Qf (c g:Bool) (k:IntKind) (a b:Int):bin .lss c g .int (.int k a) (.int k b)=some (.bool (decide (a < b))):=by rw [X1n]; simp [binO]
theorem Q7y (c g:Bool) (k:IntKind) (a b:Int):bin .leq c g .int (.int k a) (.int k b)=some (.bool (decide (a ≤ b))):=by rw [X1n]; simp [binO]
theorem Q4s (c g:Bool) (k:IntKind) (a b:Int):bin .gtr c g .int (.int k a) (.int k b)=some (.bool (decide (b < a))):=by rw [X1n]; simp [binO]
theorem Q5u (c g:Bool) (k:IntKind) (a b:Int):bin .geq c g .int (.int k a) (.int k b)=some (.bool (decide (b ≤ a))):=by rw [X1n]; simp [binO]
theorem Qp (c g:Bool) (k:IntKind) (a b:Int):bin .eql c g .int (.int k a) (.int k b)=some (.bool (decide (a=b))):=by
  rw [X1n]; by_cases h:a=b <;> simp [binO,h]
theorem Q1o (c g:Bool) (k:IntKind) (a b:Int):bin .neq c g .int (.int k a) (.int k b)=some (.bool (decide (a ≠ b))):=by
  rw [X1n]; by_cases h:a=b <;> simp [binO,h]
theorem Qz (c g:Bool) (k:IntKind) (a b:Int):bin .add c g .int (.int k a) (.int k b)=some (.int k (k.wrap (a + b))):=by rw [X1n]; simp [binO]
theorem Q9t (c g:Bool) (k:IntKind) (a b:Int):bin .sub c g .int (.int k a) (.int k b)=some (.int k (k.wrap (a - b))):=by rw [X1n]; simp [binO]
theorem Qik (c g:Bool) (k:IntKind) (a b:Int):bin .mul c g .int (.int k a) (.int k b)=some (.int k (k.wrap (a * b))):=by rw [X1n]; simp [binO]
theorem Qhe (c g:Bool) (k:IntKind) (a b:Int) (h:b ≠ 0):bin .quo c g .int (.int k a) (.int k b)=some (.int k (k.wrap (a.tdiv b))):=by rw [X1n]; simp [binO,h]
theorem Qhf (c g:Bool) (k:IntKind) (a b:Int) (h:b ≠ 0):bin .rem c g .int (.int k a) (.int k b)=some (.int k (a.tmod b)):=by rw [X1n]; simp [binO,h]
theorem Qcp (c g:Bool) (a b:Str):bin .eql c g .str (sv a) (sv b)=some (.bool (decide (a=b))):=by
  rw [X1n]; show some (Value.bool (a == b))=_; congr 2; by_cases h:a=b <;> simp [h]
theorem Qf6 (c g:Bool) (a b:Str):bin .neq c g .str (sv a) (sv b)=some (.bool (decide (a ≠ b))):=by
  rw [X1n]; show some (Value.bool (!(a == b)))=_; congr 2; by_cases h:a=b <;> simp [h]
theorem Qg (c g:Bool) (a b:Str) (h:a.length + b.length < 4611686018427387904):bin .add c g .str (sv a) (sv b)=some (sv (a ++ b)):=by
  rw [X1n]
  show (if a.length + b.length < 2 ^ 62 then some (Value.string ⟨(a ++ b).toArray⟩) else none)=_
  rw [if_pos (by simpa using h)]
  rfl
theorem X3a (l:Str) (m:Mem):lenK 0 (sv l) m=some (.int .i64 l.length):=by rw [Xeq]; rfl
theorem X76 (l:Str) (k:IntKind) (i:Nat) (h:i < l.length):Xm (sv l) (.int k (i:Int))=some (.int .u8 ((l[i]).toNat:Int)):=by
  rw [Xa2]
  show (if (0:Int) ≤ (i:Int) then (match l[(i:Int).toNat]? with | some b=>some (Value.int .u8 b.toNat) | none=>none) else none)=_
  rw [if_pos (by omega),Int.toNat_natCast,List.getElem?_eq_getElem h]
theorem X8 {α:Type} (p:Prop) [Decidable p] (a b:Option α):brb (.bool (decide p)) a b=if p then a else b:=by
  by_cases h:p
  . rw [if_pos h,decide_eq_true h]; rfl
  . rw [if_neg h,decide_eq_false h]; rfl
theorem Xfv {α:Type} (c:Bool) (a b:Option α):brb (.bool c) a b=if c=true then a else b:=by cases c <;> rfl
theorem ex0 (x:Value) (l:List Value):Xa (.tuple ⟨x :: l⟩) 0=some x:=by rw [X58]; rfl
theorem ex1 (x y:Value) (l:List Value):Xa (.tuple ⟨x :: y :: l⟩) 1=some y:=by rw [X58]; rfl
theorem ex2 (x y z:Value) (l:List Value):Xa (.tuple ⟨x :: y :: z :: l⟩) 2=some z:=by rw [X58]; rfl

theorem c_int (k k':IntKind) (a:Int) (m:Mem):conv (.int k') (.int k a) m=some (.int k' (k'.wrap a),m):=rfl
noncomputable def outOf (m:Mem) (x:Option Rs):Option Rs:=match x with | some (v,m1)=>some (gc m v m1) | none=>none
theorem X2v {m m1:Mem} {v:Value} {x:Option Rs} (hx:x=some (v,m1)) (hF:Fr [] (X4 m m.next) m1) (hv:refs m.next 8 v=true):outOf m x=some (v,m):=by
  subst hx
  unfold outOf
  simp only
  rw [Xl0]; unfold gcO
  have h:m.next ≤ m1.low:=hF.low2 m.next (Nat.le_refl _) (Nat.le_refl _) (by simp)
  rw [Nat.ble_eq.mpr h,hv]
  rfl
end Go.Ab

namespace Go.Ab.Sh
open Go Go.Ab
noncomputable def Qh7:Over:=Xhd Q1a ixF
noncomputable def Qil:Over:=Xj0 Q8f cntF
noncomputable def Qk4:Over:=Xn9 Qi
noncomputable def Qi8:Over:=Xmz Q32 Qh
noncomputable def Qk5:Over:=orElse (ovPu Q9 Qh 16 16) (ovPu Q9 Qh 8 8)
noncomputable def Qk6:Over:=Xm0 Q31
noncomputable def Qj2:Over:=Xe7 Q5k
noncomputable def Qgs:Over:=Xn3 Q1c .u8 fun s c=>some (Xeo s c)
noncomputable def oL:Tr Over:=(.node none (.node none (.node none (.node none .nil (.node none (.node (some Qk4) .nil .nil) (.node (some Qi8) .nil .nil))) .nil) (.node none (.node none .nil (.node none (.node none (.node (some Qil) .nil .nil) .nil) .nil)) (.node none (.node none (.node (some Qj2) .nil .nil) .nil) (.node none .nil (.node none (.node (some Qh7) .nil .nil) .nil))))) (.node none (.node none (.node none .nil (.node (some Qk6) .nil (.node (some Qk5) .nil .nil))) .nil) (.node none .nil (.node none .nil (.node none .nil (.node none (.node (some Qgs) .nil .nil) .nil))))))
noncomputable def TA (n:Nat):Tab:=shT fns (ovTr oL) 18446744073709551616 n
theorem X12 {f:Nat} {e:Entry Go.Proofs.Tryz.prog} (h0:oL.get (f + 1)=none) (h1:fns.get (f + 1)=some e) (h2:Nat.beq e.f f=true) (d:Nat) (args:List Value) (m:Mem):TA (d + 1) f args m=outOf m (e.h ⟨TA d,18446744073709551616⟩ args (X4 m m.next)):=by
  unfold TA
  rw [Xf8,Xi3,h0]
  simp only [h1,h2]
  rfl
theorem Xgy {f:Nat} {o:Over} {r:Rs} (h0:oL.get (f + 1)=some o) {args:List Value} {m:Mem} (h:o f args m=some r) (d:Nat):TA d f args m=some r:=by
  have h1:ovTr oL f args m=some r:=by rw [Xi3,h0]; exact h
  unfold TA
  cases d with
  | zero=>rw [Xpg]; exact h1
  | succ d=>rw [Xf8,h1]
end Go.Ab.Sh

set_option maxRecDepth 100000
set_option linter.unusedVariables false
namespace Go.Ab.Sh
open Go Go.Ab
theorem Xil (s:Gt→Mem→Option Rs) (G:Gt) (m:Mem):arg0 s G [] m=s G m:=rfl
theorem Xr (s:Gt→Value→Mem→Option Rs) (G:Gt) (a0:Value) (m:Mem):arg1 s G [a0] m=s G a0 m:=rfl
theorem X1z (s:Gt→Value→Value→Mem→Option Rs) (G:Gt) (a0 a1:Value) (m:Mem):arg2 s G [a0,a1] m=s G a0 a1 m:=rfl
theorem Xfb (s:Gt→Value→Value→Value→Mem→Option Rs) (G:Gt) (a0 a1 a2:Value) (m:Mem):arg3 s G [a0,a1,a2] m=s G a0 a1 a2 m:=rfl
theorem Xmo (s:Gt→Value→Value→Value→Value→Mem→Option Rs) (G:Gt) (a0 a1 a2 a3:Value) (m:Mem):arg4 s G [a0,a1,a2,a3] m=s G a0 a1 a2 a3 m:=rfl
theorem Xfu:Qg2.h=arg1 (fun G a0 m=>Qa1 G a0 m):=by kernel_rfl
theorem Xgu (d:Nat) (a0:Value) (m:Mem):TA (d + 1) Qed [a0] m=outOf m (Qa1 ⟨TA d,18446744073709551616⟩ a0 (X4 m m.next)):=by
  rw [X12 (e:=Qg2) (by kernel_rfl) (by kernel_rfl) (by kernel_rfl),Xfu,Xr]
theorem Xg1:Qg3.h=arg1 (fun G a0 m=>Qa2 G a0 m):=by kernel_rfl
theorem Xgp (d:Nat) (a0:Value) (m:Mem):TA (d + 1) Q6e [a0] m=outOf m (Qa2 ⟨TA d,18446744073709551616⟩ a0 (X4 m m.next)):=by
  rw [X12 (e:=Qg3) (by kernel_rfl) (by kernel_rfl) (by kernel_rfl),Xg1,Xr]
theorem X8r:Qcq.h=arg1 (fun G a0 m=>Q4h G a0 m):=by kernel_rfl
theorem X8m (d:Nat) (a0:Value) (m:Mem):TA (d + 1) Q4f [a0] m=outOf m (Q4h ⟨TA d,18446744073709551616⟩ a0 (X4 m m.next)):=by
  rw [X12 (e:=Qcq) (by kernel_rfl) (by kernel_rfl) (by kernel_rfl),X8r,Xr]
theorem X9q:Qd3.h=arg1 (fun G a0 m=>Q57 G a0 m):=by kernel_rfl
theorem X9b (d:Nat) (a0:Value) (m:Mem):TA (d + 1) Q3n [a0] m=outOf m (Q57 ⟨TA d,18446744073709551616⟩ a0 (X4 m m.next)):=by
  rw [X12 (e:=Qd3) (by kernel_rfl) (by kernel_rfl) (by kernel_rfl),X9q,Xr]
theorem Xim:Qgt.h=arg1 (fun G a0 m=>Qbr G a0 m):=by kernel_rfl
theorem Xi2 (d:Nat) (a0:Value) (m:Mem):TA (d + 1) Q5v [a0] m=outOf m (Qbr ⟨TA d,18446744073709551616⟩ a0 (X4 m m.next)):=by
  rw [X12 (e:=Qgt) (by kernel_rfl) (by kernel_rfl) (by kernel_rfl),Xim,Xr]
theorem Xfc:Qfh.h=arg1 (fun G a0 m=>Q88 G a0 m):=by kernel_rfl
theorem Xeg (d:Nat) (a0:Value) (m:Mem):TA (d + 1) Qdu [a0] m=outOf m (Q88 ⟨TA d,18446744073709551616⟩ a0 (X4 m m.next)):=by
  rw [X12 (e:=Qfh) (by kernel_rfl) (by kernel_rfl) (by kernel_rfl),Xfc,Xr]
theorem Xeu:Qfi.h=arg2 (fun G a0 a1 m=>Q89 G a0 a1 m):=by kernel_rfl
theorem Xdr (d:Nat) (a0 a1:Value) (m:Mem):TA (d + 1) Q5b [a0,a1] m=outOf m (Q89 ⟨TA d,18446744073709551616⟩ a0 a1 (X4 m m.next)):=by
  rw [X12 (e:=Qfi) (by kernel_rfl) (by kernel_rfl) (by kernel_rfl),Xeu,X1z]
theorem Xec:Qfj.h=arg1 (fun G a0 m=>Q8a G a0 m):=by kernel_rfl
theorem Xds (d:Nat) (a0:Value) (m:Mem):TA (d + 1) Qbo [a0] m=outOf m (Q8a ⟨TA d,18446744073709551616⟩ a0 (X4 m m.next)):=by
  rw [X12 (e:=Qfj) (by kernel_rfl) (by kernel_rfl) (by kernel_rfl),Xec,Xr]
theorem Xhu:Qgu.h=arg1 (fun G a0 m=>Qbq G a0 m):=by kernel_rfl
theorem Xhj (d:Nat) (a0:Value) (m:Mem):TA (d + 1) Q7j [a0] m=outOf m (Qbq ⟨TA d,18446744073709551616⟩ a0 (X4 m m.next)):=by
  rw [X12 (e:=Qgu) (by kernel_rfl) (by kernel_rfl) (by kernel_rfl),Xhu,Xr]
theorem Xf2:Qfk.h=arg2 (fun G a0 a1 m=>Q6q G a0 a1 m):=by kernel_rfl
theorem Xf4 (d:Nat) (a0 a1:Value) (m:Mem):TA (d + 1) Q86 [a0,a1] m=outOf m (Q6q ⟨TA d,18446744073709551616⟩ a0 a1 (X4 m m.next)):=by
  rw [X12 (e:=Qfk) (by kernel_rfl) (by kernel_rfl) (by kernel_rfl),Xf2,X1z]
theorem Xdt:Qfl.h=arg2 (fun G a0 a1 m=>Q6r G a0 a1 m):=by kernel_rfl
theorem Xek (d:Nat) (a0 a1:Value) (m:Mem):TA (d + 1) Qbm [a0,a1] m=outOf m (Q6r ⟨TA d,18446744073709551616⟩ a0 a1 (X4 m m.next)):=by
  rw [X12 (e:=Qfl) (by kernel_rfl) (by kernel_rfl) (by kernel_rfl),Xdt,X1z]
theorem Xez:Qfm.h=arg2 (fun G a0 a1 m=>Q6s G a1 a0 m):=by kernel_rfl
theorem Xef (d:Nat) (a0 a1:Value) (m:Mem):TA (d + 1) Q87 [a0,a1] m=outOf m (Q6s ⟨TA d,18446744073709551616⟩ a1 a0 (X4 m m.next)):=by
  rw [X12 (e:=Qfm) (by kernel_rfl) (by kernel_rfl) (by kernel_rfl),Xez,X1z]
theorem Xei:Qfn.h=arg4 (fun G a0 a1 a2 a3 m=>Q6t G a1 a0 a2 a3 m):=by kernel_rfl
theorem Xe8 (d:Nat) (a0 a1 a2 a3:Value) (m:Mem):TA (d + 1) Qbn [a0,a1,a2,a3] m=outOf m (Q6t ⟨TA d,18446744073709551616⟩ a1 a0 a2 a3 (X4 m m.next)):=by
  rw [X12 (e:=Qfn) (by kernel_rfl) (by kernel_rfl) (by kernel_rfl),Xei,Xmo]
theorem Xl5:Qhg.h=arg1 (fun G a0 m=>Qcy G a0 m):=by kernel_rfl
theorem Xl4 (d:Nat) (a0:Value) (m:Mem):TA (d + 1) Qee [a0] m=outOf m (Qcy ⟨TA d,18446744073709551616⟩ a0 (X4 m m.next)):=by
  rw [X12 (e:=Qhg) (by kernel_rfl) (by kernel_rfl) (by kernel_rfl),Xl5,Xr]
theorem Xh1:Qg4.h=arg3 (fun G a0 a1 a2 m=>Q3z G a0 a2 a1 m):=by kernel_rfl
theorem Xa5 (d:Nat) (a0 a1 a2:Value) (m:Mem):TA (d + 1) Q7p [a0,a1,a2] m=outOf m (Q3z ⟨TA d,18446744073709551616⟩ a0 a2 a1 (X4 m m.next)):=by
  rw [X12 (e:=Qg4) (by kernel_rfl) (by kernel_rfl) (by kernel_rfl),Xh1,Xfb]
theorem Xge:Qg5.h=arg2 (fun G a0 a1 m=>Qa0 G a0 a1 m):=by kernel_rfl
theorem Xfs (d:Nat) (a0 a1:Value) (m:Mem):TA (d + 1) Q7o [a0,a1] m=outOf m (Qa0 ⟨TA d,18446744073709551616⟩ a0 a1 (X4 m m.next)):=by
  rw [X12 (e:=Qg5) (by kernel_rfl) (by kernel_rfl) (by kernel_rfl),Xge,X1z]
theorem Xh2:Qg6.h=arg1 (fun G a0 m=>Qa3 G a0 m):=by kernel_rfl
theorem Xg5 (d:Nat) (a0:Value) (m:Mem):TA (d + 1) Q6f [a0] m=outOf m (Qa3 ⟨TA d,18446744073709551616⟩ a0 (X4 m m.next)):=by
  rw [X12 (e:=Qg6) (by kernel_rfl) (by kernel_rfl) (by kernel_rfl),Xh2,Xr]
theorem Xhw:Qgv.h=arg0 (fun G m=>Qbs G m):=by kernel_rfl
theorem Xhx (d:Nat) (m:Mem):TA (d + 1) Qdc [] m=outOf m (Qbs ⟨TA d,18446744073709551616⟩ (X4 m m.next)):=by
  rw [X12 (e:=Qgv) (by kernel_rfl) (by kernel_rfl) (by kernel_rfl),Xhw,Xil]
theorem Xiy:Qgw.h=arg2 (fun G a0 a1 m=>Qbt G a0 a1 m):=by kernel_rfl
theorem Xhf (d:Nat) (a0 a1:Value) (m:Mem):TA (d + 1) Q3y [a0,a1] m=outOf m (Qbt ⟨TA d,18446744073709551616⟩ a0 a1 (X4 m m.next)):=by
  rw [X12 (e:=Qgw) (by kernel_rfl) (by kernel_rfl) (by kernel_rfl),Xiy,X1z]
theorem Xj2:Qgx.h=arg1 (fun G a0 m=>Qbu G a0 m):=by kernel_rfl
theorem Xi9 (d:Nat) (a0:Value) (m:Mem):TA (d + 1) Q5t [a0] m=outOf m (Qbu ⟨TA d,18446744073709551616⟩ a0 (X4 m m.next)):=by
  rw [X12 (e:=Qgx) (by kernel_rfl) (by kernel_rfl) (by kernel_rfl),Xj2,Xr]
theorem Xcg:Qew.h=arg1 (fun G a0 m=>Q7m G a0 m):=by kernel_rfl
theorem Xch (d:Nat) (a0:Value) (m:Mem):TA (d + 1) Q9z [a0] m=outOf m (Q7m ⟨TA d,18446744073709551616⟩ a0 (X4 m m.next)):=by
  rw [X12 (e:=Qew) (by kernel_rfl) (by kernel_rfl) (by kernel_rfl),Xcg,Xr]
theorem Xe0:Qfo.h=arg1 (fun G a0 m=>Q8b G a0 m):=by kernel_rfl
theorem Xee (d:Nat) (a0:Value) (m:Mem):TA (d + 1) Q6v [a0] m=outOf m (Q8b ⟨TA d,18446744073709551616⟩ a0 (X4 m m.next)):=by
  rw [X12 (e:=Qfo) (by kernel_rfl) (by kernel_rfl) (by kernel_rfl),Xe0,Xr]
theorem Xaq:Qef.h=arg2 (fun G a0 a1 m=>Q6i G a0 a1 m):=by kernel_rfl
theorem Xbl (d:Nat) (a0 a1:Value) (m:Mem):TA (d + 1) Q4t [a0,a1] m=outOf m (Q6i ⟨TA d,18446744073709551616⟩ a0 a1 (X4 m m.next)):=by
  rw [X12 (e:=Qef) (by kernel_rfl) (by kernel_rfl) (by kernel_rfl),Xaq,X1z]
theorem X3w:Q6w.h=arg2 (fun G a0 a1 m=>Q1h G a0 a1 m):=by kernel_rfl
theorem X3v (d:Nat) (a0 a1:Value) (m:Mem):TA (d + 1) Q4c [a0,a1] m=outOf m (Q1h ⟨TA d,18446744073709551616⟩ a0 a1 (X4 m m.next)):=by
  rw [X12 (e:=Q6w) (by kernel_rfl) (by kernel_rfl) (by kernel_rfl),X3w,X1z]
theorem Xkq:Qhh.h=arg1 (fun G a0 m=>Qcz G a0 m):=by kernel_rfl
theorem Xl6 (d:Nat) (a0:Value) (m:Mem):TA (d + 1) Qe9 [a0] m=outOf m (Qcz ⟨TA d,18446744073709551616⟩ a0 (X4 m m.next)):=by
  rw [X12 (e:=Qhh) (by kernel_rfl) (by kernel_rfl) (by kernel_rfl),Xkq,Xr]
theorem Xg8:Qg7.h=arg2 (fun G a0 a1 m=>Qa4 G a0 a1 m):=by kernel_rfl
theorem Xfw (d:Nat) (a0 a1:Value) (m:Mem):TA (d + 1) Q1k [a0,a1] m=outOf m (Qa4 ⟨TA d,18446744073709551616⟩ a0 a1 (X4 m m.next)):=by
  rw [X12 (e:=Qg7) (by kernel_rfl) (by kernel_rfl) (by kernel_rfl),Xg8,X1z]
theorem X9p:Qd4.h=arg3 (fun G a0 a1 a2 m=>Q58 G a2 a0 a1 m):=by kernel_rfl
theorem X9u (d:Nat) (a0 a1 a2:Value) (m:Mem):TA (d + 1) Q72 [a0,a1,a2] m=outOf m (Q58 ⟨TA d,18446744073709551616⟩ a2 a0 a1 (X4 m m.next)):=by
  rw [X12 (e:=Qd4) (by kernel_rfl) (by kernel_rfl) (by kernel_rfl),X9p,Xfb]
theorem X3t:Q6x.h=arg1 (fun G a0 m=>Q1i G a0 m):=by kernel_rfl
theorem X3s (d:Nat) (a0:Value) (m:Mem):TA (d + 1) Q2b [a0] m=outOf m (Q1i ⟨TA d,18446744073709551616⟩ a0 (X4 m m.next)):=by
  rw [X12 (e:=Q6x) (by kernel_rfl) (by kernel_rfl) (by kernel_rfl),X3t,Xr]
theorem X9r:Qd5.h=arg1 (fun G a0 m=>Q59 G a0 m):=by kernel_rfl
theorem X9m (d:Nat) (a0:Value) (m:Mem):TA (d + 1) Q9u [a0] m=outOf m (Q59 ⟨TA d,18446744073709551616⟩ a0 (X4 m m.next)):=by
  rw [X12 (e:=Qd5) (by kernel_rfl) (by kernel_rfl) (by kernel_rfl),X9r,Xr]
theorem X2r:Q4p.h=arg2 (fun G a0 a1 m=>Q11 G a0 a1 m):=by kernel_rfl
theorem X2q (d:Nat) (a0 a1:Value) (m:Mem):TA (d + 1) Q2d [a0,a1] m=outOf m (Q11 ⟨TA d,18446744073709551616⟩ a0 a1 (X4 m m.next)):=by
  rw [X12 (e:=Q4p) (by kernel_rfl) (by kernel_rfl) (by kernel_rfl),X2r,X1z]
theorem X38:Q5c.h=arg1 (fun G a0 m=>Qu G a0 m):=by kernel_rfl
theorem X37 (d:Nat) (a0:Value) (m:Mem):TA (d + 1) Q1s [a0] m=outOf m (Qu ⟨TA d,18446744073709551616⟩ a0 (X4 m m.next)):=by
  rw [X12 (e:=Q5c) (by kernel_rfl) (by kernel_rfl) (by kernel_rfl),X38,Xr]
theorem Xdp:Qfp.h=arg2 (fun G a0 a1 m=>Q8c G a0 a1 m):=by kernel_rfl
theorem Xdo (d:Nat) (a0 a1:Value) (m:Mem):TA (d + 1) Q2z [a0,a1] m=outOf m (Q8c ⟨TA d,18446744073709551616⟩ a0 a1 (X4 m m.next)):=by
  rw [X12 (e:=Qfp) (by kernel_rfl) (by kernel_rfl) (by kernel_rfl),Xdp,X1z]
theorem Xc6:Qeg.h=arg2 (fun G a0 a1 m=>Q6j G a0 a1 m):=by kernel_rfl
theorem Xbt (d:Nat) (a0 a1:Value) (m:Mem):TA (d + 1) Qco [a0,a1] m=outOf m (Q6j ⟨TA d,18446744073709551616⟩ a0 a1 (X4 m m.next)):=by
  rw [X12 (e:=Qeg) (by kernel_rfl) (by kernel_rfl) (by kernel_rfl),Xc6,X1z]
theorem X7n:Qbx.h=arg2 (fun G a0 a1 m=>Q3q G a0 a1 m):=by kernel_rfl
theorem X7v (d:Nat) (a0 a1:Value) (m:Mem):TA (d + 1) Q5h [a0,a1] m=outOf m (Q3q ⟨TA d,18446744073709551616⟩ a0 a1 (X4 m m.next)):=by
  rw [X12 (e:=Qbx) (by kernel_rfl) (by kernel_rfl) (by kernel_rfl),X7n,X1z]
theorem X7f:Qby.h=arg2 (fun G a0 a1 m=>Q1t G a1 a0 m):=by kernel_rfl
theorem X3k (d:Nat) (a0 a1:Value) (m:Mem):TA (d + 1) Q1u [a0,a1] m=outOf m (Q1t ⟨TA d,18446744073709551616⟩ a1 a0 (X4 m m.next)):=by
  rw [X12 (e:=Qby) (by kernel_rfl) (by kernel_rfl) (by kernel_rfl),X7f,X1z]
theorem Xbp:Qeh.h=arg2 (fun G a0 a1 m=>Q4u G a0 a1 m):=by kernel_rfl
theorem Xas (d:Nat) (a0 a1:Value) (m:Mem):TA (d + 1) Q2m [a0,a1] m=outOf m (Q4u ⟨TA d,18446744073709551616⟩ a0 a1 (X4 m m.next)):=by
  rw [X12 (e:=Qeh) (by kernel_rfl) (by kernel_rfl) (by kernel_rfl),Xbp,X1z]
theorem X8c:Qcr.h=arg4 (fun G a0 a1 a2 a3 m=>Q2y G a3 a1 a0 a2 m):=by kernel_rfl
theorem X90 (d:Nat) (a0 a1 a2 a3:Value) (m:Mem):TA (d + 1) Q8g [a0,a1,a2,a3] m=outOf m (Q2y ⟨TA d,18446744073709551616⟩ a3 a1 a0 a2 (X4 m m.next)):=by
  rw [X12 (e:=Qcr) (by kernel_rfl) (by kernel_rfl) (by kernel_rfl),X8c,Xmo]
theorem X4k:Q7q.h=arg1 (fun G a0 m=>Q1w G a0 m):=by kernel_rfl
theorem X4j (d:Nat) (a0:Value) (m:Mem):TA (d + 1) Q4v [a0] m=outOf m (Q1w ⟨TA d,18446744073709551616⟩ a0 (X4 m m.next)):=by
  rw [X12 (e:=Q7q) (by kernel_rfl) (by kernel_rfl) (by kernel_rfl),X4k,Xr]
theorem X54:Q81.h=arg3 (fun G a0 a1 a2 m=>Q20 G a1 a2 a0 m):=by kernel_rfl
theorem X59 (d:Nat) (a0 a1 a2:Value) (m:Mem):TA (d + 1) Q21 [a0,a1,a2] m=outOf m (Q20 ⟨TA d,18446744073709551616⟩ a1 a2 a0 (X4 m m.next)):=by
  rw [X12 (e:=Q81) (by kernel_rfl) (by kernel_rfl) (by kernel_rfl),X54,Xfb]
theorem X98:Qd6.h=arg1 (fun G a0 m=>Q56 G a0 m):=by kernel_rfl
theorem X94 (d:Nat) (a0:Value) (m:Mem):TA (d + 1) Q3m [a0] m=outOf m (Q56 ⟨TA d,18446744073709551616⟩ a0 (X4 m m.next)):=by
  rw [X12 (e:=Qd6) (by kernel_rfl) (by kernel_rfl) (by kernel_rfl),X98,Xr]
theorem X6l:Qas.h=arg1 (fun G a0 m=>Q33 G a0 m):=by kernel_rfl
theorem X6v (d:Nat) (a0:Value) (m:Mem):TA (d + 1) Q4w [a0] m=outOf m (Q33 ⟨TA d,18446744073709551616⟩ a0 (X4 m m.next)):=by
  rw [X12 (e:=Qas) (by kernel_rfl) (by kernel_rfl) (by kernel_rfl),X6l,Xr]
theorem X5l:Qa5.h=arg1 (fun G a0 m=>Q2r G a0 m):=by kernel_rfl
theorem X5z (d:Nat) (a0:Value) (m:Mem):TA (d + 1) Q1 [a0] m=outOf m (Q2r ⟨TA d,18446744073709551616⟩ a0 (X4 m m.next)):=by
  rw [X12 (e:=Qa5) (by kernel_rfl) (by kernel_rfl) (by kernel_rfl),X5l,Xr]
theorem X71:Qat.h=arg1 (fun G a0 m=>Q34 G a0 m):=by kernel_rfl
theorem X6q (d:Nat) (a0:Value) (m:Mem):TA (d + 1) Q10 [a0] m=outOf m (Q34 ⟨TA d,18446744073709551616⟩ a0 (X4 m m.next)):=by
  rw [X12 (e:=Qat) (by kernel_rfl) (by kernel_rfl) (by kernel_rfl),X71,Xr]
theorem X3y:Q6y.h=arg1 (fun G a0 m=>Q1j G a0 m):=by kernel_rfl
theorem X3x (d:Nat) (a0:Value) (m:Mem):TA (d + 1) Q2c [a0] m=outOf m (Q1j ⟨TA d,18446744073709551616⟩ a0 (X4 m m.next)):=by
  rw [X12 (e:=Q6y) (by kernel_rfl) (by kernel_rfl) (by kernel_rfl),X3y,Xr]
theorem X4b:Q74.h=arg1 (fun G a0 m=>Q1p G a0 m):=by kernel_rfl
theorem X4c (d:Nat) (a0:Value) (m:Mem):TA (d + 1) Q16 [a0] m=outOf m (Q1p ⟨TA d,18446744073709551616⟩ a0 (X4 m m.next)):=by
  rw [X12 (e:=Q74) (by kernel_rfl) (by kernel_rfl) (by kernel_rfl),X4b,Xr]
theorem X7w:Qbz.h=arg2 (fun G a0 a1 m=>Q3r G a0 a1 m):=by kernel_rfl
theorem X7p (d:Nat) (a0 a1:Value) (m:Mem):TA (d + 1) Q6 [a0,a1] m=outOf m (Q3r ⟨TA d,18446744073709551616⟩ a0 a1 (X4 m m.next)):=by
  rw [X12 (e:=Qbz) (by kernel_rfl) (by kernel_rfl) (by kernel_rfl),X7w,X1z]
theorem X7y:Qc0.h=arg1 (fun G a0 m=>Q3s G a0 m):=by kernel_rfl
theorem X88 (d:Nat) (a0:Value) (m:Mem):TA (d + 1) Qx [a0] m=outOf m (Q3s ⟨TA d,18446744073709551616⟩ a0 (X4 m m.next)):=by
  rw [X12 (e:=Qc0) (by kernel_rfl) (by kernel_rfl) (by kernel_rfl),X7y,Xr]
theorem X62:Qa6.h=arg1 (fun G a0 m=>Q1x G a0 m):=by kernel_rfl
theorem X2x (d:Nat) (a0:Value) (m:Mem):TA (d + 1) Q2s [a0] m=outOf m (Q1x ⟨TA d,18446744073709551616⟩ a0 (X4 m m.next)):=by
  rw [X12 (e:=Qa6) (by kernel_rfl) (by kernel_rfl) (by kernel_rfl),X62,Xr]
theorem X7r:Qc1.h=arg1 (fun G a0 m=>Q3t G a0 m):=by kernel_rfl
theorem X7g (d:Nat) (a0:Value) (m:Mem):TA (d + 1) Q7z [a0] m=outOf m (Q3t ⟨TA d,18446744073709551616⟩ a0 (X4 m m.next)):=by
  rw [X12 (e:=Qc1) (by kernel_rfl) (by kernel_rfl) (by kernel_rfl),X7r,Xr]
theorem X6m:Qau.h=arg1 (fun G a0 m=>Q35 G a0 m):=by kernel_rfl
theorem X6z (d:Nat) (a0:Value) (m:Mem):TA (d + 1) Q4x [a0] m=outOf m (Q35 ⟨TA d,18446744073709551616⟩ a0 (X4 m m.next)):=by
  rw [X12 (e:=Qau) (by kernel_rfl) (by kernel_rfl) (by kernel_rfl),X6m,Xr]
theorem X85:Qc2.h=arg1 (fun G a0 m=>Q3u G a0 m):=by kernel_rfl
theorem X7j (d:Nat) (a0:Value) (m:Mem):TA (d + 1) Q5i [a0] m=outOf m (Q3u ⟨TA d,18446744073709551616⟩ a0 (X4 m m.next)):=by
  rw [X12 (e:=Qc2) (by kernel_rfl) (by kernel_rfl) (by kernel_rfl),X85,Xr]
theorem X8j:Qcs.h=arg2 (fun G a0 a1 m=>Q4i G a0 a1 m):=by kernel_rfl
theorem X92 (d:Nat) (a0 a1:Value) (m:Mem):TA (d + 1) Q17 [a0,a1] m=outOf m (Q4i ⟨TA d,18446744073709551616⟩ a0 a1 (X4 m m.next)):=by
  rw [X12 (e:=Qcs) (by kernel_rfl) (by kernel_rfl) (by kernel_rfl),X8j,X1z]
theorem X91:Qct.h=arg1 (fun G a0 m=>Q1l G a0 m):=by kernel_rfl
theorem X89 (d:Nat) (a0:Value) (m:Mem):TA (d + 1) Q6g [a0] m=outOf m (Q1l ⟨TA d,18446744073709551616⟩ a0 (X4 m m.next)):=by
  rw [X12 (e:=Qct) (by kernel_rfl) (by kernel_rfl) (by kernel_rfl),X91,Xr]
theorem X7x:Qc3.h=arg1 (fun G a0 m=>Q3v G a0 m):=by kernel_rfl
theorem X7u (d:Nat) (a0:Value) (m:Mem):TA (d + 1) Q13 [a0] m=outOf m (Q3v ⟨TA d,18446744073709551616⟩ a0 (X4 m m.next)):=by
  rw [X12 (e:=Qc3) (by kernel_rfl) (by kernel_rfl) (by kernel_rfl),X7x,Xr]
theorem X5h:Q8i.h=arg1 (fun G a0 m=>Q2e G a0 m):=by kernel_rfl
theorem X5f (d:Nat) (a0:Value) (m:Mem):TA (d + 1) Q2f [a0] m=outOf m (Q2e ⟨TA d,18446744073709551616⟩ a0 (X4 m m.next)):=by
  rw [X12 (e:=Q8i) (by kernel_rfl) (by kernel_rfl) (by kernel_rfl),X5h,Xr]
theorem X5g:Q8j.h=arg0 (fun G m=>Q2g G m):=by kernel_rfl
theorem X5i (d:Nat) (m:Mem):TA (d + 1) Q1n [] m=outOf m (Q2g ⟨TA d,18446744073709551616⟩ (X4 m m.next)):=by
  rw [X12 (e:=Q8j) (by kernel_rfl) (by kernel_rfl) (by kernel_rfl),X5g,Xil]
theorem X9s:Qd7.h=arg1 (fun G a0 m=>Q55 G a0 m):=by kernel_rfl
theorem X99 (d:Nat) (a0:Value) (m:Mem):TA (d + 1) Q9s [a0] m=outOf m (Q55 ⟨TA d,18446744073709551616⟩ a0 (X4 m m.next)):=by
  rw [X12 (e:=Qd7) (by kernel_rfl) (by kernel_rfl) (by kernel_rfl),X9s,Xr]
theorem X6p:Qav.h=arg0 (fun G m=>Q36 G m):=by kernel_rfl
theorem X6n (d:Nat) (m:Mem):TA (d + 1) Q1m [] m=outOf m (Q36 ⟨TA d,18446744073709551616⟩ (X4 m m.next)):=by
  rw [X12 (e:=Qav) (by kernel_rfl) (by kernel_rfl) (by kernel_rfl),X6p,Xil]
theorem X75:Qaw.h=arg1 (fun G a0 m=>Q37 G a0 m):=by kernel_rfl
theorem X6y (d:Nat) (a0:Value) (m:Mem):TA (d + 1) Q25 [a0] m=outOf m (Q37 ⟨TA d,18446744073709551616⟩ a0 (X4 m m.next)):=by
  rw [X12 (e:=Qaw) (by kernel_rfl) (by kernel_rfl) (by kernel_rfl),X75,Xr]
theorem X6t:Qax.h=arg1 (fun G a0 m=>Q38 G a0 m):=by kernel_rfl
theorem X6u (d:Nat) (a0:Value) (m:Mem):TA (d + 1) Qt [a0] m=outOf m (Q38 ⟨TA d,18446744073709551616⟩ a0 (X4 m m.next)):=by
  rw [X12 (e:=Qax) (by kernel_rfl) (by kernel_rfl) (by kernel_rfl),X6t,Xr]
theorem Xa1:Qd8.h=arg2 (fun G a0 a1 m=>Q5a G a0 a1 m):=by kernel_rfl
theorem X97 (d:Nat) (a0 a1:Value) (m:Mem):TA (d + 1) Q3o [a0,a1] m=outOf m (Q5a ⟨TA d,18446744073709551616⟩ a0 a1 (X4 m m.next)):=by
  rw [X12 (e:=Qd8) (by kernel_rfl) (by kernel_rfl) (by kernel_rfl),Xa1,X1z]
theorem X7o:Qc4.h=arg3 (fun G a0 a1 a2 m=>Q2k G a1 a2 a0 m):=by kernel_rfl
theorem X80 (d:Nat) (a0 a1 a2:Value) (m:Mem):TA (d + 1) Q80 [a0,a1,a2] m=outOf m (Q2k ⟨TA d,18446744073709551616⟩ a1 a2 a0 (X4 m m.next)):=by
  rw [X12 (e:=Qc4) (by kernel_rfl) (by kernel_rfl) (by kernel_rfl),X7o,Xfb]
theorem X6w:Qay.h=arg1 (fun G a0 m=>Q39 G a0 m):=by kernel_rfl
theorem X70 (d:Nat) (a0:Value) (m:Mem):TA (d + 1) Q26 [a0] m=outOf m (Q39 ⟨TA d,18446744073709551616⟩ a0 (X4 m m.next)):=by
  rw [X12 (e:=Qay) (by kernel_rfl) (by kernel_rfl) (by kernel_rfl),X6w,Xr]
theorem X74:Qaz.h=arg1 (fun G a0 m=>Q3a G a0 m):=by kernel_rfl
theorem X6s (d:Nat) (a0:Value) (m:Mem):TA (d + 1) Q3b [a0] m=outOf m (Q3a ⟨TA d,18446744073709551616⟩ a0 (X4 m m.next)):=by
  rw [X12 (e:=Qaz) (by kernel_rfl) (by kernel_rfl) (by kernel_rfl),X74,Xr]
theorem X7k:Qc5.h=arg1 (fun G a0 m=>Q3w G a0 m):=by kernel_rfl
theorem X82 (d:Nat) (a0:Value) (m:Mem):TA (d + 1) Q2l [a0] m=outOf m (Q3w ⟨TA d,18446744073709551616⟩ a0 (X4 m m.next)):=by
  rw [X12 (e:=Qc5) (by kernel_rfl) (by kernel_rfl) (by kernel_rfl),X7k,Xr]
theorem X6x:Qb0.h=arg1 (fun G a0 m=>Q27 G a0 m):=by kernel_rfl
theorem X6o (d:Nat) (a0:Value) (m:Mem):TA (d + 1) Q4y [a0] m=outOf m (Q27 ⟨TA d,18446744073709551616⟩ a0 (X4 m m.next)):=by
  rw [X12 (e:=Qb0) (by kernel_rfl) (by kernel_rfl) (by kernel_rfl),X6x,Xr]
end Go.Ab.Sh

namespace Go.Ab
open Go Go.Lib

def isD (c:UInt8):Bool:=Nat.ble 48 c.toNat && Nat.ble c.toNat 57
theorem Xbe (c:UInt8):isD c=true ↔ 48 ≤ c.toNat∧c.toNat ≤ 57:=by unfold isD; simp [Nat.ble_eq]
def val:Nat→Str→Nat
  | acc,[]=>acc
  | acc,c :: l=>val (acc * 10 + (c.toNat - 48)) l
theorem val_append (l:Str) (c:UInt8):∀ acc,val acc (l ++ [c])=val acc l * 10 + (c.toNat - 48):=by
  induction l with
  | nil=>intro acc; rfl
  | cons a l ih=>intro acc; exact ih _
theorem Xgh (d:Nat) (h:d < 10):(UInt8.ofNat (48 + d)).toNat=48 + d:=by
  rw [UInt8.toNat_ofNat']; omega
theorem X2l {n:Nat} (h:n < 10):decDigits n=[UInt8.ofNat (48 + n)]:=by rw [decDigits,dif_pos h]
theorem X5c {n:Nat} (h:¬ n < 10):decDigits n=decDigits (n / 10) ++ [UInt8.ofNat (48 + n % 10)]:=by rw [decDigits,dif_neg h]
theorem Xha (n:Nat):decDigits n ≠ []:=by
  intro h
  have:=decDigits_length n
  rw [h] at this
  have:=nDigits_pos n
  simp at *
  omega
theorem X96 (n:Nat):val 0 (decDigits n)=n:=by
  induction n using Nat.strongRecOn with
  | _ n ih =>
    by_cases h:n < 10
    . rw [X2l h]
      show 0 * 10 + ((UInt8.ofNat (48 + n)).toNat - 48)=n
      rw [Xgh n h]; omega
    . rw [X5c h,val_append,ih (n / 10) (by omega),Xgh _ (Nat.mod_lt _ (by omega))]
      omega
theorem Xf9 (n:Nat):(decDigits n).all isD=true:=by
  induction n using Nat.strongRecOn with
  | _ n ih =>
    by_cases h:n < 10
    . rw [X2l h]
      simp only [List.all_cons,List.all_nil,Bool.and_true,Xbe,Xgh n h]; omega
    . rw [X5c h,List.all_append,ih (n / 10) (by omega)]
      simp only [List.all_cons,List.all_nil,Bool.and_true,Bool.true_and,Xbe,Xgh _ (Nat.mod_lt n (by omega:0 < 10))]
      have:=Nat.mod_lt n (by omega:0 < 10)
      omega
def nz (s:Str):Prop:=1 < s.length→∀ c,s.head?=some c→c.toNat ≠ 48
theorem Xuk (n:Nat):nz (decDigits n)∧(1 ≤ n→∀ c,(decDigits n).head?=some c→c.toNat ≠ 48):=by
  induction n using Nat.strongRecOn with
  | _ n ih =>
    by_cases h:n < 10
    . rw [X2l h]
      refine ⟨fun h=>by simp at h,fun h1 c hc=>?_⟩
      simp only [List.head?_cons,Option.some.injEq] at hc
      subst hc
      rw [Xgh n h]; omega
    . have hd:∀ c,(decDigits n).head?=some c→c.toNat ≠ 48:=by
        intro c hc
        rw [X5c h] at hc
        have hne:=Xha (n / 10)
        cases hd:decDigits (n / 10) with
        | nil=>exact absurd hd hne
        | cons a l =>
          rw [hd] at hc
          exact (ih (n / 10) (by omega)).2 (by omega) c (by rw [hd]; exact hc)
      exact ⟨fun _=>hd,fun _=>hd⟩
theorem Xfo:∀ (k:Nat) (s:Str),s.length=k→s ≠ []→s.all isD=true→nz s→decDigits (val 0 s)=s∧(1 < s.length→1 ≤ val 0 s)∧((∀ c,s.head?=some c→c.toNat ≠ 48)→1 ≤ val 0 s)
  | 0,s,hk,hne,_,_=>by
    cases s with
    | nil=>exact absurd rfl hne
    | cons=>simp at hk
  | k + 1,s,hk,hne,ha,hz=>by
    obtain ⟨t,c,rfl⟩:∃ t c,s=t ++ [c]:=⟨s.dropLast,s.getLast hne,(List.dropLast_concat_getLast hne).symm⟩
    simp only [List.all_append,List.all_cons,List.all_nil,Bool.and_true,Bool.and_eq_true,Xbe] at ha
    obtain ⟨ha1,hc1,hc2⟩:=ha
    rw [val_append]
    cases t with
    | nil =>
      have e:val 0 []=0:=rfl
      rw [e]
      refine ⟨?_,fun h=>by simp at h,fun h=>?_⟩
      . rw [X2l (by omega)]
        have:UInt8.ofNat (48 + (0 * 10 + (c.toNat - 48)))=c:=by
          apply UInt8.toNat_inj.mp
          rw [Xgh _ (by omega)]; omega
        rw [this]; rfl
      . have:=h c rfl
        omega
    | cons a t =>
      have hk2:(a :: t).length=k:=by simp at hk ⊢; omega
      have hz2:∀ d,(a :: t).head?=some d→d.toNat ≠ 48:=fun d hd=>hz (by simp) d (by simpa using hd)
      obtain ⟨q1,q2,q3⟩:=Xfo k (a :: t) hk2 (by simp) ha1 (fun _=>hz2)
      have hv:=q3 hz2
      refine ⟨?_,fun _=>by omega,fun _=>by omega⟩
      rw [X5c (by omega)]
      have e1:(val 0 (a :: t) * 10 + (c.toNat - 48)) / 10=val 0 (a :: t):=by omega
      have e2:(val 0 (a :: t) * 10 + (c.toNat - 48)) % 10=c.toNat - 48:=by omega
      rw [e1,e2,q1]
      congr 1
      have:UInt8.ofNat (48 + (c.toNat - 48))=c:=by
        apply UInt8.toNat_inj.mp
        rw [Xgh _ (by omega)]; omega
      rw [this]
def num (most:Nat) (s:Str):Option Nat:=if s=decDigits (val 0 s)∧val 0 s ≤ most then some (val 0 s) else none
theorem num_some {most:Nat} {s:Str} {n:Nat}:num most s=some n ↔ s=decDigits n∧n ≤ most:=by
  unfold num
  constructor
  . intro h
    split at h
    . rename_i h1
      cases h
      exact h1
    . cases h
  . rintro ⟨rfl,h⟩
    rw [X96,if_pos ⟨rfl,h⟩]
theorem X2a {most n:Nat} (h:n ≤ most):num most (decDigits n)=some n:=num_some.mpr ⟨rfl,h⟩
theorem Xum {most:Nat} {s:Str} (h:num most s=none) (n:Nat) (hn:n ≤ most):s ≠ decDigits n:=fun e=>by rw [num_some.mpr ⟨e,hn⟩] at h; cases h

theorem X21 (n:Nat):itoa (n:Int)=decDigits n:=by
  unfold itoa
  rw [if_neg (by omega),Int.toNat_natCast]
theorem Xgb {c:UInt8} (h:isD c=true):48 ≤ c.toNat∧c.toNat ≤ 57:=(Xbe c).mp h
theorem Xb9:∀ (l:Str) (acc:Nat),l.all isD=true→val acc l < 1844674407370955162→parseUint10 acc l=.ok (val acc l)
  | [],acc,_,_=>rfl
  | c :: l,acc,h,hv=>by
    simp only [List.all_cons,Bool.and_eq_true] at h
    have hc:=Xgb h.1
    have mono:∀ (l:Str) (a:Nat),a ≤ val a l:=by
      intro l
      induction l with
      | nil=>intro a; exact Nat.le_refl _
      | cons c l ih=>intro a; exact Nat.le_trans (by omega) (ih _)
    have h1:=mono l (acc * 10 + (c.toNat - 48))
    have hv':val (acc * 10 + (c.toNat - 48)) l < 1844674407370955162:=hv
    show (if 48 ≤ c.toNat∧c.toNat ≤ 57 then _ else _)=_
    rw [if_pos hc,if_neg (by omega),if_neg (by omega)]
    exact Xb9 l _ h.2 hv'
theorem Xp4 (n:Nat) (h:n < 1000000000000):atoiAll (decDigits n)=.ok (n:Int):=by
  have ha:=Xf9 n
  have hp:=Xb9 (decDigits n) 0 ha (by rw [X96]; omega)
  rw [X96] at hp
  cases hd:decDigits n with
  | nil=>exact absurd hd (Xha n)
  | cons c r =>
    rw [hd] at ha hp
    simp only [List.all_cons,Bool.and_eq_true] at ha
    have hc:=Xgb ha.1
    unfold atoiAll
    simp only
    rw [if_neg (by omega)]
    unfold parseMag
    rw [if_neg (by simp),hp]
    simp only
    rw [if_neg (by omega),if_neg (by omega),if_neg (by omega)]
theorem Xep (n k:Nat) (hk:1 ≤ k) (h:n < 10 ^ k):(decDigits n).length ≤ k:=by
  induction k generalizing n with
  | zero=>omega
  | succ k ih =>
    by_cases hn:n < 10
    . rw [X2l hn]; simp
    . rw [X5c hn,List.length_append]
      have:1 ≤ k:=by
        cases k with
        | zero=>simp at h; omega
        | succ k=>omega
      have:=ih (n / 10) this (by rw [Nat.pow_succ] at h; omega)
      simp only [List.length_cons,List.length_nil]
      omega
end Go.Ab

set_option maxRecDepth 100000
namespace Go.Ab
open Go Go.Lib
theorem X28 {n:Nat} (h:n < 9223372036854775808):X5j (n:Int)=true:=Nat.blt_eq.mpr h
theorem Xux (l:Str):(⟨⟨l⟩⟩:ByteArray).size=l.length:=rfl
theorem Xvx (l:Str):Value.string ⟨l.toArray⟩=sv l:=rfl
theorem Fr.wl {m:Mem} {l:Nat}:Fr [] (X4 m l) (X4 m l):=.refl _ _
theorem Xw2 {W:List Nat} {m m1:Mem} (h:Fr W m m1):Fr W m m1:=h
end Go.Ab
namespace Go.Ab.Sh
open Go Go.Ab Go.Lib

theorem c_Itoa (n:Int) (h:X5j n=true) (d:Nat) (m:Mem):TA d Qi [I n] m=some (sv (itoa n),m):=by
  refine Xgy (o:=Qk4) (by kernel_rfl) ?_ d
  obtain ⟨q1,q2⟩:=X8v h
  show (if Qi=Qi∧X5j n=true then some (Value.string ⟨(Xrq n).toArray⟩,m) else none)=_
  rw [if_pos ⟨rfl,h⟩,Xj4 q1 q2]
  rfl
theorem c_ItoaN (n:Nat) (h:n < 1000000000000) (d:Nat) (m:Mem):TA d Qi [I n] m=some (sv (decDigits n),m):=by
  rw [c_Itoa n (X28 (by omega)),X21]
theorem c_Atoi (s:Str) (hs:s.length ≤ 4194304) (d:Nat) (m:Mem):∃ v e m1,TA d Q32 [sv s] m=some (.tuple ⟨[I v,e]⟩,m1)∧Fr [] m m1 ∧
    ((atoiAll s=.ok v∧e=.nilIface)∨((∀ v,atoiAll s ≠ .ok v)∧∃ p,e=.iface Qh (.pointer (some p)))):=by
  have key:∀ r,Qi8 Q32 [sv s] m=some r→TA d Q32 [sv s] m=some r:=fun r h=>Xgy (o:=Qi8) (by kernel_rfl) h d
  have e:Qi8 Q32 [sv s] m=(match atoiAll s with
      | .ok v=>some (.tuple #[.int .i64 v,.nilIface],m)
      | Lib.NumEnd.syntax=>errV (.int .i64 0) Qh m
      | .range=>errV (.int .i64 (atoiSat s)) Qh m):=by
    show (if Q32=Q32∧s.length ≤ 281474976710656 then _ else none)=_
    rw [if_pos ⟨rfl,by omega⟩]
    rfl
  rw [e] at key
  cases h:atoiAll s with
  | ok v =>
    rw [h] at key
    exact ⟨v,.nilIface,m,key _ rfl,.refl _ _,.inl ⟨rfl,rfl⟩⟩
  | range =>
    rw [h] at key
    exact ⟨_,_,_,key _ rfl,.push _,.inr ⟨by simp,_,rfl⟩⟩
  | _ =>
    rw [h] at key
    exact ⟨0,_,_,key _ rfl,.push _,.inr ⟨by simp,_,rfl⟩⟩
theorem nilI (g:Bool):bin .neq true g .iface .nilIface .nilIface=some (.bool false):=by
  rw [X1n]; cases g <;> rfl
theorem nilE (g:Bool):bin .eql true g .iface .nilIface .nilIface=some (.bool true):=by
  rw [X1n]; cases g <;> rfl
theorem Xrp (T:TypeId) (p:Addr):bin .neq true false .iface (.iface T (.pointer (some p))) .nilIface=some (.bool true):=by rw [X1n]; rfl
theorem Xvb (T:TypeId) (p:Addr):bin .eql true false .iface (.iface T (.pointer (some p))) .nilIface=some (.bool false):=by rw [X1n]; rfl

theorem Xp8 {s:Str} {v:Int} {most:Nat} (h:atoiAll s=.ok v):(0 ≤ v∧v ≤ most∧itoa v=s) ↔ num most s=some v.toNat∧0 ≤ v:=by
  constructor
  . rintro ⟨h1,h2,h3⟩
    obtain ⟨n,rfl⟩:=Int.eq_ofNat_of_zero_le h1
    rw [X21] at h3
    exact ⟨num_some.mpr ⟨h3.symm,by omega⟩,h1⟩
  . rintro ⟨h1,h2⟩
    obtain ⟨n,rfl⟩:=Int.eq_ofNat_of_zero_le h2
    obtain ⟨q1,q2⟩:=num_some.mp h1
    rw [Int.toNat_natCast] at q1 q2
    exact ⟨h2,by omega,by rw [X21]; exact q1.symm⟩
theorem X3c {s:Str} {n most:Nat} (hm:most < 1000000000000) (h:num most s=some n):atoiAll s=.ok (n:Int):=by
  obtain ⟨rfl,h2⟩:=num_some.mp h
  exact Xp4 n (by omega)
theorem c_lexNumber (s:Str) (hs:s.length ≤ 4194304) (most:Nat) (hm:most < 1000000000000) (d:Nat) (m:Mem) :
    TA (d + 1) Q1k [sv s,I most] m=some (match num most s with | some n=>.tuple ⟨[I n,.bool true]⟩ | none=>.tuple ⟨[I 0,.bool false]⟩,m):=by
  rw [Xfw]
  obtain ⟨v,e,m1,k1,k2,k3⟩:=c_Atoi s hs d (X4 m m.next)
  refine X2v (m1:=m1) ?_ k2 (by cases num most s <;> rfl)
  unfold Qa4 Qex Qey
  simp only [k1,X5,ex0,ex1,X0]
  rcases k3 with ⟨h1,rfl⟩ | ⟨h1,p,rfl⟩
  . have ht:=Xp8 (most:=most) h1
    simp only [nilI,X0,Xb,Qf,Q4s,X8,Q5l,Xd]
    by_cases c1:v < 0
    . rw [if_pos c1]
      cases hn:num most s with
      | none=>rfl
      | some n=>have:=X3c hm hn; rw [h1] at this; cases this; omega
    . rw [if_neg c1]
      by_cases c2:(most:Int) < v
      . rw [if_pos c2]
        cases hn:num most s with
        | none=>rfl
        | some n =>
          have:=X3c hm hn; rw [h1] at this; cases this
          have:=(num_some.mp hn).2
          omega
      . rw [if_neg c2]
        obtain ⟨n,rfl⟩:=Int.eq_ofNat_of_zero_le (by omega:0 ≤ v)
        have c2':n ≤ most:=by omega
        rw [c_ItoaN n (by omega)]
        simp only [X5,Qf6,X0,X8]
        by_cases c3:decDigits n=s
        . have:num most s=some n:=num_some.mpr ⟨c3.symm,c2'⟩
          rw [this,if_neg (by simpa using c3)]
        . rw [if_pos c3]
          cases hn:num most s with
          | none=>rfl
          | some k =>
            have:=X3c hm hn; rw [h1] at this; cases this
            exact absurd (num_some.mp hn).1.symm c3
  . simp only [Xrp,X0,Xd,Q5l]
    cases hn:num most s with
    | none=>rfl
    | some n=>exact absurd (X3c hm hn) (h1 _)
theorem c_addrNumber (s:Str) (hs:s.length ≤ 4194304) (most:Nat) (hm:most < 1000000000000) (d:Nat) (m:Mem) :
    ∃ v:Int,TA (d + 1) Q5b [sv s,I most] m=some (.tuple ⟨[I v,.bool (num most s).isSome]⟩,m)∧∀ n,num most s=some n→v=n:=by
  rw [Xdr]
  obtain ⟨v,e,m1,k1,k2,k3⟩:=c_Atoi s hs d (X4 m m.next)
  refine ⟨v,X2v (m1:=m1) ?_ k2 rfl,?_⟩
  . unfold Q89 Qei Qej
    simp only [k1,X5,ex0,ex1,X0]
    rcases k3 with ⟨h1,rfl⟩ | ⟨h1,p,rfl⟩
    . simp only [nilE,X0,Xd,Q7y,Q5u,X8,Q4z]
      by_cases c1:0 ≤ v
      . rw [if_pos c1]
        by_cases c2:v ≤ (most:Int)
        . rw [if_pos c2]
          obtain ⟨n,rfl⟩:=Int.eq_ofNat_of_zero_le c1
          rw [c_ItoaN n (by omega)]
          simp only [X5,Qcp,X0]
          by_cases c3:decDigits n=s
          . have:num most s=some n:=num_some.mpr ⟨c3.symm,by omega⟩
            rw [this]; simp [c3]
          . cases hn:num most s with
            | none=>simp [c3]
            | some k =>
              have:=X3c hm hn; rw [h1] at this; cases this
              exact absurd (num_some.mp hn).1.symm c3
        . rw [if_neg c2]
          cases hn:num most s with
          | none=>rfl
          | some n =>
            have:=X3c hm hn; rw [h1] at this; cases this
            have:=(num_some.mp hn).2
            omega
      . rw [if_neg c1]
        cases hn:num most s with
        | none=>rfl
        | some n=>have:=X3c hm hn; rw [h1] at this; cases this; omega
    . simp only [Xvb,X0,Xb,Q4z]
      cases hn:num most s with
      | none=>rfl
      | some n=>exact absurd (X3c hm hn) (h1 _)
  . intro n hn
    have h2:=X3c hm hn
    rcases k3 with ⟨h1,_⟩ | ⟨h1,_⟩
    . rw [h1] at h2; cases h2; rfl
    . exact absurd h2 (h1 _)

theorem val_mono:∀ (l:Str) (a:Nat),a ≤ val a l
  | [],a=>Nat.le_refl _
  | c :: l,a=>Nat.le_trans (by omega) (val_mono l _)
def rd (acc:Nat):Str→Option Nat
  | []=>some acc
  | c :: l=>if isD c then rd (acc * 10 + (c.toNat - 48)) l else none
theorem Xtw:∀ (l:Str) (acc:Nat),rd acc l=if l.all isD=true then some (val acc l) else none
  | [],acc=>rfl
  | c :: l,acc=>by
    unfold rd
    rw [Xtw l]
    rw [show val acc (c :: l)=val (acc * 10 + (c.toNat - 48)) l from rfl,List.all_cons]
    generalize val (acc * 10 + (c.toNat - 48)) l=V
    cases isD c
    . rw [if_neg (by simp),if_neg (by simp)]
    . rw [if_pos rfl,Bool.true_and]
theorem Xto:∀ (l:Str) (acc:Nat),l.all isD=true→val acc l < (acc + 1) * 10 ^ l.length
  | [],acc,_=>by
    show acc < (acc + 1) * 10 ^ 0
    omega
  | c :: l,acc,h=>by
    simp only [List.all_cons,Bool.and_eq_true] at h
    have hc:=Xgb h.1
    have:=Xto l (acc * 10 + (c.toNat - 48)) h.2
    rw [show val acc (c :: l)=val (acc * 10 + (c.toNat - 48)) l from rfl]
    rw [List.length_cons,Nat.pow_succ,Nat.mul_comm (10 ^ l.length) 10,← Nat.mul_assoc]
    exact Nat.lt_of_lt_of_le this (Nat.mul_le_mul_right _ (by omega))
theorem Xhb (G:Gt) (s:Str) (hs:s.length ≤ 12) (p1:Value) (m:Mem):∀ (r pre:Str) (acc i:Nat),s=pre ++ r→r.length < i→acc < 10 ^ pre.length →
    Qv G i (I pre.length) (sv s) (I acc) p1 m=match rd acc r with | none=>some (I (-1),m) | some n=>Q6k G (I n) p1 m
  | [],pre,acc,i,h,hi,ha=>by
    obtain ⟨i,rfl⟩:∃ j,i=j + 1:=⟨i - 1,by simp at hi; omega⟩
    have hl:s.length=pre.length:=by rw [h]; simp
    unfold Qv
    simp only [X3a,X0,Qf,X8,hl,Int.lt_irrefl,if_false]
    rfl
  | c :: r,pre,acc,i,h,hi,ha=>by
    obtain ⟨i,rfl⟩:∃ j,i=j + 1:=⟨i - 1,by simp at hi; omega⟩
    have hl:s.length=pre.length + (r.length + 1):=by rw [h]; simp
    have hlt:(pre.length:Int) < s.length:=by omega
    have hix:s[pre.length]'(by omega)=c:=by simp [h]
    have hp:(10:Nat) ^ pre.length ≤ 10 ^ 12:=Nat.pow_le_pow_right (by omega) (by omega)
    unfold Qv Qa7 Q6l
    simp only [X3a,X0,Qf,Q4s,X8,if_pos hlt,X76 s _ pre.length (by omega),hix,Xd]
    by_cases hc:isD c=true
    . have hd:=Xgb hc
      have e0:¬ ((c.toNat:Int) < 48):=by omega
      have e1:¬ ((57:Int) < c.toNat):=by omega
      have w1:IntKind.i64.wrap (10 * (acc:Int))=((acc * 10:Nat):Int):=by rw [IntWalk.i64_in _ (by omega)]; omega
      have w2:IntKind.u8.wrap ((c.toNat:Int) - 48)=((c.toNat - 48:Nat):Int):=by
        rw [IntWalk.u8_in _ (by omega)]; omega
      have w3:IntKind.i64.wrap (((acc * 10:Nat):Int) + ((c.toNat - 48:Nat):Int))=((acc * 10 + (c.toNat - 48):Nat):Int):=by rw [IntWalk.i64_in _ (by omega)]; omega
      have w4:IntKind.i64.wrap ((pre.length:Int) + 1)=((pre ++ [c]).length:Int):=by rw [IntWalk.i64_in _ (by omega)]; simp
      simp only [if_neg e0,if_neg e1,Qik,w1,X0,Q9t,w2,Qz]
      have w5:IntKind.i64.wrap ((c.toNat - 48:Nat):Int)=((c.toNat - 48:Nat):Int):=by rw [IntWalk.i64_in _ (by omega)]
      simp only [c_int,X5,w5,Qz,w3,w4,X0]
      rw [Xhb G s hs p1 m r (pre ++ [c]) (acc * 10 + (c.toNat - 48)) i (by rw [h]; simp) (by simp at hi; omega) (by simp [Nat.pow_succ]; omega)]
      simp [rd,hc]
    . have hd:c.toNat < 48∨57 < c.toNat:=by
        rcases Nat.lt_or_ge c.toNat 48 with q | q
        . exact .inl q
        . rcases Nat.lt_or_ge 57 c.toNat with q2 | q2
          . exact .inr q2
          . exact absurd ((Xbe c).mpr ⟨q,q2⟩) hc
      rcases hd with q | q
      . have e0:((c.toNat:Int) < 48):=by omega
        simp [if_pos e0,rd,hc,I]
      . have e0:¬ ((c.toNat:Int) < 48):=by omega
        have e1:((57:Int) < c.toNat):=by omega
        simp [if_pos e1,rd,hc,I]
def optI (o:Option Nat):Value:=match o with | some n=>I n | none=>I (-1)
theorem c_Read (s:Str) (hs:s.length ≤ 4194304) (most:Nat) (hm:most < 1000000000000) (d:Nat) (m:Mem) :
    TA (d + 1) Q6 [sv s,I most] m=some (optI (num most s),m):=by
  rw [X7p]
  refine X2v (m1:=X4 m m.next) ?_ (.refl _ _) (by cases num most s <;> rfl)
  unfold Q3r Qa8 Q2t
  have e0:Value.string ⟨#[]⟩=sv []:=rfl
  simp only [e0,Qcp,X0,X8,Xd,X3a,Q4s]
  by_cases h0:s=[]
  . subst h0
    have:num most []=none:=by
      cases hn:num most [] with
      | none=>rfl
      | some n=>exact absurd (num_some.mp hn).1.symm (Xha n)
    rw [this]; rfl
  rw [if_neg h0]
  have hl0:s.length ≠ 0:=fun h=>h0 (List.length_eq_zero_iff.mp h)
  by_cases h12:(12:Int) < s.length
  . rw [if_pos h12]
    cases hn:num most s with
    | none=>rfl
    | some n =>
      obtain ⟨q1,q2⟩:=num_some.mp hn
      have:=Xep n 12 (by omega) (by omega)
      rw [← q1] at this
      omega
  rw [if_neg h12]
  have key:∀ (hz:nz s),Q6m ⟨TA d,18446744073709551616⟩ (sv s) (I most) (X4 m m.next)=some (optI (num most s),X4 m m.next):=by
    intro hz
    unfold Q6m Qa9 Qaa
    have:=Xhb ⟨TA d,18446744073709551616⟩ s (by omega) (I most) (X4 m m.next) s [] 0 18446744073709551616 rfl (by omega) (by simp)
    have this:Qv ⟨TA d,18446744073709551616⟩ 18446744073709551616 (I 0) (sv s) (I 0) (I most) (X4 m m.next)=_:=this
    show Qv ⟨TA d,18446744073709551616⟩ 18446744073709551616 (I 0) (sv s) (I 0) (I most) (X4 m m.next)=_
    rw [this,Xtw]
    by_cases ha:s.all isD=true
    . rw [if_pos ha]
      simp only
      unfold Q6k
      simp only [Q4s,X0,X8]
      have hc:=(Xfo s.length s rfl h0 ha hz).1
      by_cases hv:(most:Int) < val 0 s
      . rw [if_pos hv]
        cases hn:num most s with
        | none=>rfl
        | some n =>
          obtain ⟨q1,q2⟩:=num_some.mp hn
          rw [q1,X96] at hv
          omega
      . rw [if_neg hv,num_some.mpr ⟨hc.symm,by omega⟩]
        rfl
    . rw [if_neg ha]
      cases hn:num most s with
      | none=>rfl
      | some n =>
        obtain ⟨q1,q2⟩:=num_some.mp hn
        rw [q1] at ha
        exact absurd (Xf9 n) ha
  by_cases h1:(1:Int) < s.length
  . rw [if_pos h1]
    have ix:=X76 s .i64 0 (by omega)
    have ix:Xm (sv s) (.int .i64 0)=some (.int .u8 ((s[0]'(by omega)).toNat:Int)):=ix
    simp only [ix,X0,Qp,X8]
    have hh:s.head?=some (s[0]'(by omega)):=by cases s with | nil=>exact absurd rfl h0 | cons a l=>rfl
    by_cases h48:((s[0]'(by omega)).toNat:Int)=48
    . rw [if_pos h48]
      cases hn:num most s with
      | none=>rfl
      | some n =>
        obtain ⟨q1,q2⟩:=num_some.mp hn
        have hz:=(Xuk n).1
        rw [← q1] at hz
        exact absurd (by omega) (hz (by omega) _ hh)
    . rw [if_neg h48]
      refine key fun _ c hc=>?_
      rw [hh] at hc
      cases hc
      omega
  . rw [if_neg h1]
    simp only [Xb]
    exact key fun h=>by omega
end Go.Ab.Sh

set_option maxRecDepth 100000
namespace Go.Ab
open Go Go.Lib

def cut (c:UInt8):Str→Option (Str × Str)
  | []=>none
  | a :: l=>if a=c then some ([],l) else match cut c l with | none=>none | some (x,y)=>some (a :: x,y)
def split (c:UInt8):Str→List Str
  | []=>[[]]
  | a :: l=>if a=c then [] :: split c l else match split c l with | w :: ws=>(a :: w) :: ws | []=>[[a]]
theorem X69 (c a:UInt8) (l:Str):split c (a :: l)=if a=c then [] :: split c l else match split c l with | w :: ws=>(a :: w) :: ws | []=>[[a]]:=rfl
theorem X3f (c:UInt8):∀ l,split c l ≠ []
  | []=>by simp [split]
  | a :: l=>by
    unfold split
    split
    . simp
    . split <;> simp
theorem X4l {c:UInt8}:∀ {l:Str},cut c l=none→split c l=[l]
  | [],_=>rfl
  | a :: l,h=>by
    unfold cut at h
    rw [X69]
    split at h
    . cases h
    . rename_i hc
      rw [if_neg hc]
      cases hk:cut c l with
      | none=>rw [X4l hk]
      | some p=>rw [hk] at h; cases h
theorem X4o {c:UInt8}:∀ {l x y:Str},cut c l=some (x,y)→split c l=x :: split c y
  | a :: l,x,y,h=>by
    unfold cut at h
    rw [X69]
    split at h
    . rename_i hc
      cases h
      rw [if_pos hc]
    . rename_i hc
      rw [if_neg hc]
      cases hk:cut c l with
      | none=>rw [hk] at h; cases h
      | some p =>
        rw [hk] at h
        cases h
        rw [X4o hk]
theorem X5x {c:UInt8}:∀ {l x y:Str},cut c l=some (x,y)→l=x ++ c :: y∧c ∉ x
  | a :: l,x,y,h=>by
    unfold cut at h
    split at h
    . rename_i hc
      cases h
      subst hc
      exact ⟨rfl,by simp⟩
    . rename_i hc
      cases hk:cut c l with
      | none=>rw [hk] at h; cases h
      | some p =>
        rw [hk] at h
        cases h
        obtain ⟨q1,q2⟩:=X5x hk
        exact ⟨by rw [q1]; rfl,by simp only [List.mem_cons,not_or]; exact ⟨fun e=>hc e.symm,q2⟩⟩
theorem Xna {c:UInt8}:∀ {l:Str},cut c l=none→c ∉ l
  | [],_=>by simp
  | a :: l,h=>by
    unfold cut at h
    split at h
    . cases h
    . rename_i hc
      cases hk:cut c l with
      | none=>simp only [List.mem_cons,not_or]; exact ⟨fun e=>hc e.symm,Xna hk⟩
      | some p=>rw [hk] at h; cases h
theorem X3r {c:UInt8}:∀ {x:Str} (y:Str),c ∉ x→cut c (x ++ c :: y)=some (x,y)
  | [],y,_=>by simp [cut]
  | a :: x,y,h=>by
    simp only [List.mem_cons,not_or] at h
    have hne:¬ a=c:=fun e=>h.1 e.symm
    show (if a=c then some ([],x ++ c :: y) else match cut c (x ++ c :: y) with | none=>none | some (x,y)=>some (a :: x,y))=_
    rw [if_neg hne,X3r y h.2]
theorem Xcd {c:UInt8}:∀ {x:Str},c ∉ x→cut c x=none
  | [],_=>rfl
  | a :: x,h=>by
    simp only [List.mem_cons,not_or] at h
    have hne:¬ a=c:=fun e=>h.1 e.symm
    show (if a=c then _ else _)=_
    rw [if_neg hne,Xcd h.2]
theorem Xbm {c:UInt8} {l x y:Str} (h:cut c l=some (x,y)):l.count c=y.count c + 1:=by
  obtain ⟨rfl,h2⟩:=X5x h
  rw [List.count_append,List.count_cons_self,List.count_eq_zero_of_not_mem h2]
  omega
theorem count_none {c:UInt8} {l:Str} (h:cut c l=none):l.count c=0:=List.count_eq_zero_of_not_mem (Xna h)
theorem X4t {c:UInt8} {l x y:Str} (h:cut c l=some (x,y)):l.length=x.length + y.length + 1:=by
  obtain ⟨rfl,_⟩:=X5x h
  simp; omega
theorem X60 (c:UInt8):∀ (n:Nat) (l:Str),l.length ≤ n→(split c l).length=l.count c + 1
  | n,l,hn=>by
    cases h:cut c l with
    | none=>rw [X4l h,count_none h]; rfl
    | some p =>
      obtain ⟨x,y⟩:=p
      rw [X4o h,Xbm h]
      have:=X4t h
      cases n with
      | zero=>omega
      | succ n=>rw [List.length_cons,X60 c n y (by omega)]
theorem index_one (c:UInt8):∀ (l:Str),index l [c]=match cut c l with | none=>-1 | some (x,_)=>(x.length:Int)
  | []=>rfl
  | a :: l=>by
    have ih:=index_one c l
    unfold index cut
    by_cases hc:a=c
    . subst hc
      simp
    . have e:([c]:Str).isPrefixOf (a :: l)=false:=by
        simp [List.isPrefixOf]
        exact fun e=>hc e.symm
      rw [e,if_neg hc,ih]
      cases hk:cut c l with
      | none=>rfl
      | some p =>
        obtain ⟨x,y⟩:=p
        simp only [Bool.false_eq_true,if_false]
        have:((x.length:Int) == -1)=false:=by simp
        rw [this]
        simp

def SL (m:Mem) (v:Value) (ws:List Str):Prop:=
  ∃ b o r c fro ro ty,v=.slice (some ⟨b,o,some 1⟩) ws.length r∧b < m.next∧m.get b=some (.cells c (r / 2) fro ro ty)∧o + ws.length ≤ c.length∧∀ i w,ws[i]?=some w→c[o + i]?=some (sv w)
theorem SL.fr {W:List Nat} {m m':Mem} {v:Value} {ws:List Str} (h:SL m v ws) (f:Fr W m m') (hw:∀ b ∈ W,m.next ≤ b):SL m' v ws:=by
  obtain ⟨b,o,r,c,fro,ro,ty,h1,h2,h3,h4,h5⟩:=h
  exact ⟨b,o,r,c,fro,ro,ty,h1,Nat.lt_of_lt_of_le h2 f.next,by rw [f.get b h2 (fun hb=>by have:=hw b hb; omega)]; exact h3,h4,h5⟩
theorem SL.len {m:Mem} {v:Value} {ws:List Str} (h:SL m v ws) (m':Mem):lenK 1 v m'=some (I ws.length):=by
  obtain ⟨b,o,r,c,fro,ro,ty,rfl,_⟩:=h
  exact Xbk _ _ _ _
theorem SL.at {m:Mem} {v:Value} {ws:List Str} (h:SL m v ws) {i:Nat} {w:Str} (hw:ws[i]?=some w):∃ p,X9 1 v (.int .i64 (i:Int))=some p∧X6 false 1 p m=some (sv w):=by
  obtain ⟨b,o,r,c,fro,ro,ty,rfl,h2,h3,h4,h5⟩:=h
  have hlt:i < ws.length:=(List.getElem?_eq_some_iff.mp hw).1
  refine ⟨pt b (o + i * 1) (r / 2),?_,?_⟩
  . rw [X1r]
    have h1:Nat.blt i ws.length=true:=Nat.blt_eq.mpr hlt
    show (match Nat.blt i ws.length && X1o (some 1) 1 with | true=>some (Value.pointer (some ⟨b,o + i * 1,some (r / 2)⟩)) | false=>none)=_
    rw [h1,X1k]
    rfl
  . rw [Nat.mul_one]
    exact Xo h3 (h5 i w hw)
theorem SL.tail {m:Mem} {v:Value} {w:Str} {ws:List Str} (h:SL m v (w :: ws)):∃ v',X2w 1 v (some (I 1)) none=some v'∧SL m v' ws:=by
  obtain ⟨b,o,r,c,fro,ro,ty,rfl,h2,h3,h4,h5⟩:=h
  refine ⟨.slice (some ⟨b,o + 1 * 1,some 1⟩) ws.length r,?_,b,o + 1 * 1,r,c,fro,ro,ty,rfl,h2,h3,by simp at h4; omega,fun i x hx=>?_⟩
  . have hb:Nat.ble 1 (w :: ws).length=true:=Nat.ble_eq.mpr (by simp)
    show (match (match Nat.ble 1 (w :: ws).length with | true=>some 1 | false=>none) with
      | some l=>if some 1=some 1 then some (Value.slice (some ⟨b,o + l * 1,some 1⟩) ((w :: ws).length - l) (if (w :: ws).length=(w :: ws).length then r else r / 2 * 2)) else none
      | none=>none)=_
    rw [hb]
    simp
  . have:=h5 (i + 1) x (by simpa using hx)
    rw [show o + 1 * 1 + i=o + (i + 1) by omega]
    exact this
end Go.Ab

namespace Go.Ab.Sh
open Go Go.Ab Go.Lib
theorem c_Idx (s:Str) (hs:s.length ≤ 4194304) (c:UInt8) (d:Nat) (m:Mem):TA d Q1a [sv s,sv [c]] m=some (I (match cut c s with | none=>-1 | some (x,_)=>(x.length:Int)),m):=by
  refine Xgy (o:=Qh7) (by kernel_rfl) ?_ d
  show (if Q1a=Q1a∧s.length < 4294967281 then some (Value.int .i64 (ixF s [c]),m) else none)=_
  rw [if_pos ⟨rfl,by omega⟩,Xqc,index_one]
theorem c_Index (s:Str) (hs:s.length ≤ 4194304) (c:UInt8) (d:Nat) (m:Mem):TA (d + 1) Qco [sv s,sv [c]] m=some (I (match cut c s with | none=>-1 | some (x,_)=>(x.length:Int)),m):=by
  rw [Xbt]
  refine X2v (m1:=X4 m m.next) ?_ (.refl _ _) rfl
  unfold Q6j
  simp only [c_Idx s hs,X5]
theorem c_Count (s:Str) (c:UInt8) (d:Nat) (m:Mem):TA d Q8f [sv s,sv [c]] m=some (I (s.count c:Nat),m):=by
  refine Xgy (o:=Qil) (by kernel_rfl) ?_ d
  show (if Q8f=Q8f then some (Value.int .i64 (cntF s c),m) else none)=_
  rw [if_pos rfl,Xog]
  rfl
theorem X8e (l:Str) (h:Nat) (hh:h ≤ l.length):X11 (sv l) none (some (I h))=some (sv (l.take h)):=by
  rw [X45]
  show (match bound (some (I h)) l.length l.length with | some h=>(match bound none 0 h with | some k=>some (Value.string ⟨((l.take h).drop k).toArray⟩) | none=>none) | none=>none)=_
  have:bound (some (I h)) l.length l.length=some h:=by
    show (match Nat.ble h l.length with | true=>some h | false=>none)=_
    rw [Nat.ble_eq.mpr hh]
  rw [this]
  rfl
theorem X3e (l:Str) (k:Nat) (hk:k ≤ l.length):X11 (sv l) (some (I k)) none=some (sv (l.drop k)):=by
  rw [X45]
  show (match bound (some (I k)) 0 l.length with | some k=>some (Value.string ⟨((l.take l.length).drop k).toArray⟩) | none=>none)=_
  have:bound (some (I k)) 0 l.length=some k:=by
    show (match Nat.ble k l.length with | true=>some k | false=>none)=_
    rw [Nat.ble_eq.mpr hk]
  rw [this,List.take_length]
  rfl
theorem X8n {c:UInt8} {l x y:Str} (h:cut c l=some (x,y)):l.take x.length=x∧l.drop (x.length + 1)=y∧x.length + 1 ≤ l.length:=by
  have h3:=X4t h
  obtain ⟨rfl,_⟩:=X5x h
  refine ⟨by simp,?_,by omega⟩
  rw [List.drop_append]
  simp
theorem c_Cut (s:Str) (hs:s.length ≤ 4194304) (c:UInt8) (d:Nat) (m:Mem):TA (d + 2) Q2z [sv s,sv [c]] m =
    some (match cut c s with | none=>.tuple ⟨[sv s,sv [],.bool false]⟩ | some (x,y)=>.tuple ⟨[sv x,sv y,.bool true]⟩,m):=by
  have inner:∀ m,TA (d + 1) Q4c [sv s,sv [c]] m=some (match cut c s with | none=>.tuple ⟨[sv s,sv [],.bool false]⟩ | some (x,y)=>.tuple ⟨[sv x,sv y,.bool true]⟩,m):=by
    intro m
    rw [X3v]
    refine X2v (m1:=X4 m m.next) ?_ (.refl _ _) (by cases cut c s <;> rfl)
    unfold Q1h
    simp only [c_Idx s hs,X5]
    cases h:cut c s with
    | none =>
      simp only [Q5u,X0,X8]
      rfl
    | some p =>
      obtain ⟨x,y⟩:=p
      obtain ⟨q1,q2,q3⟩:=X8n h
      have w:IntKind.i64.wrap ((x.length:Int) + (1:Nat))=((x.length + 1:Nat):Int):=by rw [IntWalk.i64_in _ (by omega)]; omega
      have e1:([c]:Str).length=1:=rfl
      simp only [Q5u,X0,X8,if_pos (Int.natCast_nonneg x.length),X3a,Qz,e1,w,X8e s x.length (by omega),X3e s (x.length + 1) q3,q1,q2]
  rw [Xdo]
  refine X2v (m1:=X4 m m.next) ?_ (.refl _ _) (by cases cut c s <;> rfl)
  unfold Q8c
  simp only [inner,X5]
  cases cut c s with
  | none=>simp only [ex0,ex1,ex2,X0]
  | some p=>simp only [ex0,ex1,ex2,X0]
end Go.Ab.Sh

set_option maxRecDepth 100000
namespace Go.Ab.Sh
open Go Go.Ab Go.Lib
theorem Xob (b n r:Nat) (i:Nat) (h:i < n):X9 1 (.slice (some ⟨b,0,some 1⟩) n r) (.int .i64 (i:Int))=some (pt b i (r / 2)):=by
  rw [X1r]
  have h1:Nat.blt i n=true:=Nat.blt_eq.mpr h
  show (match Nat.blt i n && X1o (some 1) 1 with | true=>some (Value.pointer (some ⟨b,0 + i * 1,some (r / 2)⟩)) | false=>none)=_
  rw [h1,X1k]
  simp
theorem Xqx (b n r k:Nat) (h:k ≤ n):X2w 1 (.slice (some ⟨b,0,some 1⟩) n r) none (some (I k))=some (.slice (some ⟨b,0,some 1⟩) k (if k=n then r else r / 2 * 2)):=by
  have hb:Nat.ble k n=true:=Nat.ble_eq.mpr h
  show (match (match Nat.ble k n with | true=>some k | false=>none) with
    | some h=>(match some 0 with
      | some l=>if some 1=some 1 then some (Value.slice (some ⟨b,0 + l * 1,some 1⟩) (h - l) (if h=n then r else r / 2 * 2)) else none
      | none=>none)
    | none=>none)=_
  rw [hb]
  simp
theorem Xu6 (w:Str):(sv w).cells.toList.all one=true:=rfl
theorem X8h (d:Nat) (c:UInt8) (b:Nat) (ty:Option Nat):∀ (k:Nat) (rest:Str) (done:List Str) (cs:List Value) (m:Mem),rest.length ≤ 4194304→rest.count c < k →
    m.get b=some (.cells cs 0 0 false ty)→cs.length=done.length + rest.count c + 1→cs.length ≤ 4194305→(∀ (j:Nat) (w:Str),done[j]?=some w→cs[j]?=some (sv w)) →
    ∃ m1 cs',Q50 ⟨TA (d + 1),18446744073709551616⟩ k (I done.length) (I (cs.length - 1:Nat)) (sv rest) (sv [c]) (.slice (some ⟨b,0,some 1⟩) cs.length 1) (I 0) m =
      some (.slice (some ⟨b,0,some 1⟩) cs.length 1,m1)∧Fr [b] m m1∧m1.get b=some (.cells cs' 0 0 false ty)∧cs'.length=cs.length∧∀ (j:Nat) (w:Str),(done ++ split c rest)[j]?=some w→cs'[j]?=some (sv w)
  | 0,_,_,_,_,_,hk,_,_,_,_=>by omega
  | k + 1,rest,done,cs,m,hr,hk,hb,hl,hd,hc=>by
    have hcount:=List.count_le_length (a:=c) (l:=rest)
    unfold Q50
    -- a cell written
    have put:∀ (x:Str),∃ m',X7 1 (pt b done.length 0) (sv x) m=some m'∧Fr [b] m m'∧m'.get b=some (.cells (cs.take done.length ++ [sv x] ++ cs.drop (done.length + 1)) 0 0 false ty):=by
      intro x
      obtain ⟨m',k1,k2⟩:=X3g (o:=done.length) (n:=1) (v:=sv x) hb rfl (Nat.zero_le _) (by omega) (Xu6 x) rfl
      refine ⟨m',k1,((Fr.refl _ _).put _ (.inl (by simp))).meq k2,?_⟩
      rw [k2.get,Mem.get_put,if_pos rfl]
      rfl
    have cell:∀ (x:Str) (j:Nat) (w:Str),(done ++ [x])[j]?=some w→(cs.take done.length ++ [sv x] ++ cs.drop (done.length + 1))[j]?=some (sv w):=by
      intro x j w hw
      have h1:(cs.take done.length).length=done.length:=by rw [List.length_take]; omega
      by_cases hj:j < done.length
      . rw [List.getElem?_append_left hj] at hw
        rw [List.append_assoc,List.getElem?_append_left (by omega),List.getElem?_take_of_lt hj]
        exact hc j w hw
      . have hj2:j=done.length:=by
          have:=(List.getElem?_eq_some_iff.mp hw).1
          simp at this
          omega
        subst hj2
        simp only [List.getElem?_append_right (Nat.le_refl _),Nat.sub_self,List.getElem?_cons_zero,Option.some.injEq] at hw
        subst hw
        rw [List.append_assoc,List.getElem?_append_right (by omega),h1,Nat.sub_self]
        rfl
    have newlen:∀ (x:Str),(cs.take done.length ++ [sv x] ++ cs.drop (done.length + 1)).length=cs.length:=by
      intro x
      simp only [List.length_append,List.length_take,List.length_cons,List.length_nil,List.length_drop]
      omega
    have w1:IntKind.i64.wrap ((done.length:Int) + 1)=((done.length + 1:Nat):Int):=by rw [IntWalk.i64_in _ (by omega)]; omega
    simp only [Qf,X0,X8]
    by_cases h0:rest.count c=0
    . -- the last word
      have hnone:cut c rest=none:=by
        cases h:cut c rest with
        | none=>rfl
        | some p=>obtain ⟨x,y⟩:=p; have:=Xbm h; omega
      have hn:¬ ((done.length:Int) < ((cs.length - 1:Nat):Int)):=by omega
      rw [if_neg hn]
      obtain ⟨m',k1,k2,k3⟩:=put rest
      refine ⟨m',_,?_,k2,k3,newlen rest,?_⟩
      . unfold Q75
        simp only [Xob b cs.length 1 done.length (by omega),X0,show (1:Nat) / 2=0 from rfl,k1,Xe,Qz,w1,Xqx b cs.length 1 (done.length + 1) (by omega),X0]
        rw [if_pos (by omega),show done.length + 1=cs.length by omega]
      . rw [X4l hnone]
        exact cell rest
    . have hlt:(done.length:Int) < ((cs.length - 1:Nat):Int):=by omega
      rw [if_pos hlt]
      cases h:cut c rest with
      | none=>exact absurd (count_none h) h0
      | some p =>
        obtain ⟨x,y⟩:=p
        obtain ⟨q1,q2,q3⟩:=X8n h
        have q4:=Xbm h
        have q5:=X4t h
        obtain ⟨m',k1,k2,k3⟩:=put x
        have w0:IntKind.i64.wrap ((x.length:Int) + 0)=(x.length:Int):=by rw [IntWalk.i64_in _ (by omega)]; omega
        have w2:IntKind.i64.wrap ((x.length:Int) + (1:Nat))=((x.length + 1:Nat):Int):=by rw [IntWalk.i64_in _ (by omega)]; omega
        have e1:([c]:Str).length=1:=rfl
        have hneg:¬ ((x.length:Int) < 0):=by omega
        obtain ⟨m1,cs',r1,r2,r3,r4,r5⟩:=X8h d c b ty k y (done ++ [x]) (cs.take done.length ++ [sv x] ++ cs.drop (done.length + 1)) m' (by omega) (by omega) k3 (by rw [newlen]; simp; omega) (by rw [newlen]; exact hd) (cell x)
        rw [newlen] at r1 r4
        refine ⟨m1,cs',?_,k2.trans r2,r3,r4,?_⟩
        . rw [← r1]
          simp only [c_Index rest hr,h,X5,Qf,X0,X8,if_neg hneg,Qz,w0,X8e rest x.length (by omega),q1,Xob b cs.length 1 done.length (by omega),show (1:Nat) / 2=0 from rfl,k1,Xe,X3a,e1,w2,X3e rest (x.length + 1) q3,q2,w1]
          simp
        . rw [X4o h]
          intro j w hw
          exact r5 j w (by simpa using hw)
theorem min_i64 (a b:Int):aMin (.int .i64 a) (.int .i64 b)=some (I (if b < a then b else a)):=rfl
theorem Xl (m:Mem) (o:AObj):(m.push o).get m.next=some o:=by rw [Mem.get_push,if_pos rfl]
theorem Xba {m m1:Mem} {v:Value} {x:Option Rs} (hx:x=some (v,m1)) (hF:Fr [] (X4 m m.next) m1) (hr:refs m.next 8 v=false) :
    ∃ m2,outOf m x=some (v,m2)∧Fr [] m m2∧m2.next=m1.next∧∀ b,m2.get b=m1.get b:=by
  subst hx
  unfold outOf
  simp only
  rw [Xl0]; unfold gcO
  rw [hr,Bool.and_false]
  have hlow:m.next ≤ m1.low:=hF.low2 m.next (Nat.le_refl _) (Nat.le_refl _) (by simp)
  refine ⟨_,rfl,⟨hF.next,Nat.min_le_left _ _,fun x a b _=>?_,hF.get,fun b hb=>.inr (hF.get b hb (by simp))⟩,rfl,fun b=>rfl⟩
  show x ≤ min m.low m1.low
  omega
theorem SL.same {m m':Mem} {v:Value} {ws:List Str} (h:SL m v ws) (hn:m.next ≤ m'.next) (hg:∀ b,m'.get b=m.get b):SL m' v ws:=by
  obtain ⟨b,o,r,c,fro,ro,ty,h1,h2,h3,h4,h5⟩:=h
  exact ⟨b,o,r,c,fro,ro,ty,h1,Nat.lt_of_lt_of_le h2 hn,by rw [hg]; exact h3,h4,h5⟩
theorem c_Split (s:Str) (hs:s.length ≤ 4194304) (c:UInt8) (d:Nat) (m:Mem):∃ v m1,TA (d + 3) Q2m [sv s,sv [c]] m=some (v,m1)∧Fr [] m m1∧SL m1 v (split c s)∧refs m.next 8 v=false:=by
  have inner:∀ m,∃ v m1,TA (d + 2) Q8g [sv s,sv [c],I 0,I (-1)] m=some (v,m1)∧Fr [] m m1∧SL m1 v (split c s)∧refs m.next 8 v=false:=by
    intro m
    have hcount:=List.count_le_length (a:=c) (l:=s)
    let n:=s.count c + 1
    have hn:n=s.count c + 1:=rfl
    have hp:=Xl (X4 m m.next) (.cells (rep n [sv []]) 0 0 false (some (2 * Q4)))
    have hrl:(rep n [sv []]).length=n:=by
      have:∀ k,(rep k [sv []]).length=k:=by
        intro k
        induction k with
        | zero=>rfl
        | succ k ih=>simp [rep,ih]
      exact this n
    obtain ⟨m1,cs',k1,k2,k3,k4,k5⟩:=X8h d c (X4 m m.next).next (some (2 * Q4)) 18446744073709551616 s [] (rep n [sv []]) ((X4 m m.next).push (.cells (rep n [sv []]) 0 0 false (some (2 * Q4)))) hs (by omega) hp (by rw [hrl]; simp; omega) (by rw [hrl]; omega) (by intro j w h; simp at h)
    rw [hrl] at k1 k4
    have hF:Fr [] (X4 m m.next) m1:=by
      have h1:Fr [(X4 m m.next).next] (X4 m m.next) m1:=((Fr.push (W:=[(X4 m m.next).next]) _)).trans k2
      refine ⟨h1.next,h1.low,fun x a b _=>h1.low2 x a b (by intro w hw; simp at hw; subst hw; exact b),fun b hb _=>h1.get b hb (by simp; omega),h1.lo⟩
    have hx:Q2y ⟨TA (d + 1),18446744073709551616⟩ (I (-1)) (sv [c]) (sv s) (I 0) (X4 m m.next)=some (.slice (some ⟨(X4 m m.next).next,0,some 1⟩) n 1,m1):=by
      have e0:Value.string ⟨#[]⟩=sv []:=rfl
      have e1:¬ ((-1:Int)=0):=by omega
      have e2:¬ ([c]:Str)=[]:=by simp
      have e3:(-1:Int) < 0:=by omega
      have w1:IntKind.i64.wrap (((s.count c:Nat):Int) + 1)=(n:Int):=by rw [IntWalk.i64_in _ (by omega)]; omega
      have w2:IntKind.i64.wrap ((s.length:Int) + 1)=((s.length + 1:Nat):Int):=by rw [IntWalk.i64_in _ (by omega)]; omega
      have w3:(if ((s.length + 1:Nat):Int) < (n:Int) then ((s.length + 1:Nat):Int) else (n:Int))=(n:Int):=by rw [if_neg (by omega)]
      have w4:IntKind.i64.wrap ((n:Int) - 1)=((n - 1:Nat):Int):=by rw [IntWalk.i64_in _ (by omega)]; omega
      have mk:X2s Q4 [sv []] 1 16 (I n) (I n) (X4 m m.next)=some (.slice (some ⟨(X4 m m.next).next,0,some 1⟩) n 1,(X4 m m.next).push (.cells (rep n [sv []]) 0 0 false (some (2 * Q4)))):=by
        have hf:fits n 16=true:=by
          simp only [fits,Bool.and_eq_true,Nat.ble_eq]; omega
        show (if (decide ((0:Int) ≤ (n:Int)) && decide ((n:Int) ≤ (n:Int)) && fits ((n:Int).toNat) 16 && Nat.ble 1 1)=true then _ else none)=_
        rw [Int.toNat_natCast,hf,decide_eq_true (Int.natCast_nonneg n),decide_eq_true (Int.le_refl _)]
        simp
      unfold Q2y Qb1 Qb2 Qb3 Q76 Qb4 Qb5 Qb6 Qb7
      simp only [e0,Qp,X0,X8,if_neg e1,Qcp,if_neg e2,Qf,if_pos e3,c_Count,X5,Qz,w1,X3a,w2,min_i64,w3,mk,Q9t,w4]
      exact k1
    rw [X90]
    have hr:refs m.next 8 (.slice (some ⟨(X4 m m.next).next,0,some 1⟩) n 1)=false:=by
      show Nat.blt m.next m.next=false
      cases h:Nat.blt m.next m.next with
      | false=>rfl
      | true=>have:=Nat.blt_eq.mp h; omega
    obtain ⟨m2,q1,q2,q3,q4⟩:=Xba (m:=m) hx hF hr
    refine ⟨_,m2,q1,q2,?_,hr⟩
    refine ⟨(X4 m m.next).next,0,1,cs',0,false,some (2 * Q4),?_,?_,by rw [q4]; exact k3,?_,fun i w hw=>by rw [Nat.zero_add]; exact k5 i w (by simpa using hw)⟩
    . rw [X60 c s.length s (Nat.le_refl _)]
    . rw [q3]
      have:=k2.next
      simp [Mem.push] at this
      omega
    . rw [X60 c s.length s (Nat.le_refl _),k4]
      omega
  rw [Xas]
  obtain ⟨v,m1,k1,k2,k3,k4⟩:=inner (X4 m m.next)
  have hx:Q4u ⟨TA (d + 2),18446744073709551616⟩ (sv s) (sv [c]) (X4 m m.next)=some (v,m1):=by
    unfold Q4u
    simp only [k1,X5]
  obtain ⟨m2,q1,q2,q3,q4⟩:=Xba (m:=m) hx k2 k4
  exact ⟨v,m2,q1,q2,SL.same k3 (by omega) q4,k4⟩
end Go.Ab.Sh

set_option maxRecDepth 100000
namespace Go.Ab
open Go Go.Lib
def X6r:Nat→List Str→Option Nat
  | acc,[]=>some acc
  | acc,w :: ws=>match num 255 w with | none=>none | some n=>X6r (acc * 256 + n) ws
def X2p (s:Str):Option Nat:=if (split 46 s).length=4 then X6r 0 (split 46 s) else none
def X3u (o:Option Nat):Value:=match o with | some a=>.tuple ⟨[.int .u32 (a:Int),I 0]⟩ | none=>.tuple ⟨[.int .u32 0,I 4]⟩
theorem Xdd (n:Nat) (o:Option Nat):refs n 8 (X3u o)=true:=by cases o <;> rfl
theorem X2k (c:UInt8):∀ (l w:Str),w ∈ split c l→w.length ≤ l.length
  | [],w,h=>by simp [split] at h; subst h; simp
  | a :: l,w,h=>by
    rw [X69] at h
    split at h
    . rcases List.mem_cons.mp h with e | e
      . subst e; simp
      . have:=X2k c l w e; simp; omega
    . cases hs:split c l with
      | nil=>exact absurd hs (X3f c l)
      | cons x xs =>
        rw [hs] at h
        have ih:=X2k c l
        rw [hs] at ih
        rcases List.mem_cons.mp h with e | e
        . subst e
          have:=ih x List.mem_cons_self
          simp; omega
        . have:=ih w (List.mem_cons_of_mem _ e)
          simp; omega
theorem Xsz (c g:Bool) (a n:Nat) (ha:a < 16777216) (hn:n < 256):bin .or c g .int (.int .u32 ((a * 256:Nat):Int)) (.int .u32 (n:Int))=some (.int .u32 ((a * 256 + n:Nat):Int)):=by
  rw [X1n]
  simp only [binO,ne_eq,not_true_eq_false,if_false]
  have e1:(BitVec.ofInt 32 ((a * 256:Nat):Int) ||| BitVec.ofInt 32 (n:Int)).toNat=a * 256 + n:=by
    rw [BitVec.ofInt_natCast,BitVec.ofInt_natCast,BitVec.toNat_or,BitVec.toNat_ofNat,BitVec.toNat_ofNat,Nat.mod_eq_of_lt (by omega),Nat.mod_eq_of_lt (by omega)]
    have h:=Nat.shiftLeft_add_eq_or_of_lt (i:=8) (b:=n) (by omega) a
    rw [Nat.shiftLeft_eq] at h
    exact h.symm
  have e2:(BitVec.ofInt IntKind.u32.bits ((a * 256:Nat):Int) ||| BitVec.ofInt IntKind.u32.bits (n:Int)).toNat=a * 256 + n:=e1
  rw [e2,IntWalk.u32_in _ (by omega)]
theorem Xrr (c g:Bool) (a:Nat) (ha:a < 16777216):bin .shl c g .int (.int .u32 (a:Int)) (.int .u64 8)=some (.int .u32 ((a * 256:Nat):Int)):=by
  rw [X1n]
  show (if (8:Int) < 0 then none else some (Value.int .u32 (IntKind.u32.wrap ((a:Int) * 2 ^ (min (8:Int).toNat 32)))))=_
  have e:((a:Int) * 2 ^ (min (8:Int).toNat 32))=((a * 256:Nat):Int):=by
    have:(2:Int) ^ (min (8:Int).toNat 32)=256:=rfl
    rw [this]; omega
  rw [if_neg (by omega),e,IntWalk.u32_in _ (by omega)]
end Go.Ab
namespace Go.Ab.Sh
open Go Go.Ab Go.Lib
theorem Xqm {k:Nat} (h:k ≤ 3):(256:Nat) ^ k ≤ 16777216:=by
  have:(256:Nat) ^ k ≤ 256 ^ 3:=Nat.pow_le_pow_right (by omega) h
  omega
theorem X79 (d:Nat) (v:Value) (m:Mem) (ws:List Str) (h4:ws.length=4) (hw:∀ w ∈ ws,w.length ≤ 4194304) (hS:SL m v ws):∀ (rest pre:List Str) (acc k:Nat),ws=pre ++ rest→rest.length < k→acc < 256 ^ pre.length →
    Q7n ⟨TA (d + 1),18446744073709551616⟩ k (I pre.length) v (.int .u32 (acc:Int)) m=some (X3u (X6r acc rest),m)
  | [],pre,acc,k,he,hk,ha=>by
    obtain ⟨k,rfl⟩:∃ j,k=j + 1:=⟨k - 1,by simp at hk; omega⟩
    have hl:pre.length=4:=by rw [← h4,he]; simp
    unfold Q7n Qez
    simp only [Qf,X0,X8,hl]
    rfl
  | w :: rest,pre,acc,k,he,hk,ha=>by
    obtain ⟨k,rfl⟩:∃ j,k=j + 1:=⟨k - 1,by simp at hk; omega⟩
    have hl:pre.length + (rest.length + 1)=4:=by rw [← h4,he]; simp
    have hlt:(pre.length:Int) < 4:=by omega
    obtain ⟨p,k1,k2⟩:=hS.at (i:=pre.length) (w:=w) (by rw [he]; simp)
    obtain ⟨z,n1,n2⟩:=c_addrNumber w (hw w (by rw [he]; simp)) 255 (by omega) d m
    have w1:IntKind.i64.wrap ((pre.length:Int) + 1)=((pre ++ [w]).length:Int):=by rw [IntWalk.i64_in _ (by omega)]; simp
    have hp:=Xqm (k:=pre.length) (by omega)
    unfold Q7n
    simp only [Qf,X0,X8,if_pos hlt,k1,k2]
    have n1:TA (d + 1) Q5b [sv w,.int .i64 255] m=_:=n1
    simp only [n1,X5,ex0,ex1,X0,X1u,Xfv]
    unfold X6r
    cases hn:num 255 w with
    | none=>rfl
    | some n =>
      have:=n2 n hn
      subst this
      have hn2:=(num_some.mp hn).2
      have w2:IntKind.u32.wrap (n:Int)=(n:Int):=by rw [IntWalk.u32_in _ (by omega)]
      simp only [Option.isSome_some,Bool.not_true,Bool.false_eq_true,if_false,Xrr _ _ acc (by omega),X0,c_int,w2,X5,Xsz _ _ acc n (by omega) (by omega),Qz,w1]
      exact X79 d v m ws h4 hw hS rest (pre ++ [w]) (acc * 256 + n) k (by rw [he]; simp) (by simp at hk; omega) (by simp [Nat.pow_succ]; omega)
theorem c_addrParse (s:Str) (hs:s.length ≤ 4194304) (d:Nat) (m:Mem):TA (d + 4) Q6e [sv s] m=some (X3u (X2p s),m):=by
  rw [Xgp]
  obtain ⟨v,m1,k1,k2,k3,_⟩:=c_Split s hs 46 d (X4 m m.next)
  refine X2v (m1:=m1) ?_ k2 (Xdd _ _)
  unfold Qa2 Qf0 Qf1 Qf2 Qf3 Qf4
  have k1:TA (d + 3) Q2m [sv s,.string ⟨#[46]⟩] (X4 m m.next)=some (v,m1):=k1
  simp only [k1,X5,k3.len,X0,Q1o,X8]
  unfold X2p
  by_cases h4:(split 46 s).length=4
  . rw [if_neg (by omega),if_pos h4]
    exact X79 (d + 2) v m1 (split 46 s) h4 (fun w hw=>by have:=X2k 46 s w hw; omega) k3 (split 46 s) [] 0 18446744073709551616 rfl (by omega) (by simp)
  . rw [if_pos (by omega),if_neg h4]
    rfl
theorem X8a (d:Nat) (v:Value) (m:Mem) (ws:List Str) (h4:ws.length=4) (hw:∀ w ∈ ws,w.length ≤ 4194304) (hS:SL m v ws):∀ (rest pre:List Str) (acc k:Nat),ws=pre ++ rest→rest.length < k→acc < 256 ^ pre.length →
    Q2h ⟨TA (d + 1),18446744073709551616⟩ k (I pre.length) v (I acc) m=some (X3u (X6r acc rest),m)
  | [],pre,acc,k,he,hk,ha=>by
    obtain ⟨k,rfl⟩:∃ j,k=j + 1:=⟨k - 1,by simp at hk; omega⟩
    have hl:pre.length=4:=by rw [← h4,he]; simp
    have e:(256:Nat) ^ 4=4294967296:=rfl
    rw [hl,e] at ha
    unfold Q2h Q8k
    simp only [Qf,X0,X8,hl,c_int,X5,IntWalk.u32_in (acc:Int) (by omega)]
    rfl
  | w :: rest,pre,acc,k,he,hk,ha=>by
    obtain ⟨k,rfl⟩:∃ j,k=j + 1:=⟨k - 1,by simp at hk; omega⟩
    have hl:pre.length + (rest.length + 1)=4:=by rw [← h4,he]; simp
    have hlt:(pre.length:Int) < 4:=by omega
    obtain ⟨p,k1,k2⟩:=hS.at (i:=pre.length) (w:=w) (by rw [he]; simp)
    have n1:TA (d + 1) Q6 [sv w,.int .i64 255] m=_:=c_Read w (hw w (by rw [he]; simp)) 255 (by omega) d m
    have w1:IntKind.i64.wrap ((pre.length:Int) + 1)=((pre ++ [w]).length:Int):=by rw [IntWalk.i64_in _ (by omega)]; simp
    have hp:=Xqm (k:=pre.length) (by omega)
    unfold Q2h
    simp only [Qf,X0,X8,if_pos hlt,k1,k2,n1,X5]
    unfold X6r
    cases hn:num 255 w with
    | none =>
      simp only [optI,I,Qf,X0,X8]
      rfl
    | some n =>
      have hn2:=(num_some.mp hn).2
      have h0:¬ ((n:Int) < 0):=by omega
      have w2:IntKind.i64.wrap (256 * (acc:Int))=((acc * 256:Nat):Int):=by rw [IntWalk.i64_in _ (by omega)]; omega
      have w3:IntKind.i64.wrap (((acc * 256:Nat):Int) + (n:Int))=((acc * 256 + n:Nat):Int):=by rw [IntWalk.i64_in _ (by omega)]; omega
      simp only [optI,I,Qf,X0,X8,if_neg h0,Qik,w2,Qz,w3,w1]
      exact X8a d v m ws h4 hw hS rest (pre ++ [w]) (acc * 256 + n) k (by rw [he]; simp) (by simp at hk; omega) (by simp [Nat.pow_succ]; omega)
end Go.Ab.Sh

set_option maxRecDepth 100000
namespace Go.Ab
open Go Go.Lib
def SA (B:Nat) (m:Mem) (v:Value) (ws:List Str):Prop:=
  (ws=[]∧v=.slice none 0 0)∨(ws ≠ []∧∃ b ver ty,v=.slice (some ⟨b,0,some 1⟩) ws.length (2 * ver)∧B ≤ b∧b < m.next∧m.get b=some (.cells (ws.map sv) ver 0 false ty))
theorem SA.sl {B:Nat} {m:Mem} {v:Value} {ws:List Str} (h:SA B m v ws) (hne:ws ≠ []):SL m v ws∧refs B 8 v=false:=by
  rcases h with ⟨h1,_⟩ | ⟨_,b,ver,ty,rfl,h2,h3,h4⟩
  . exact absurd h1 hne
  . refine ⟨⟨b,0,2 * ver,ws.map sv,0,false,ty,rfl,h3,?_,by simp,fun i w hw=>by rw [Nat.zero_add,List.getElem?_map,hw]; rfl⟩,?_⟩
    . rw [show 2 * ver / 2=ver by omega]; exact h4
    . show Nat.blt b B=false
      cases hb:Nat.blt b B with
      | false=>rfl
      | true=>have:=Nat.blt_eq.mp hb; omega
theorem SA.len {B:Nat} {m:Mem} {v:Value} {ws:List Str} (h:SA B m v ws) (m':Mem):lenK 1 v m'=some (I ws.length):=by
  rcases h with ⟨rfl,rfl⟩ | ⟨_,b,ver,ty,rfl,_⟩
  . exact Xbk _ _ _ _
  . exact Xbk _ _ _ _
theorem SA.fb {B:Nat} {m m':Mem} {v:Value} {ws:List Str} (h:SA B m v ws) (hn:m.next ≤ m'.next) (hg:∀ b,B ≤ b→b < m.next→m'.get b=m.get b):SA B m' v ws:=by
  rcases h with h | ⟨h1,b,ver,ty,h2,h3,h4,h5⟩
  . exact .inl h
  . exact .inr ⟨h1,b,ver,ty,h2,h3,by omega,by rw [hg b h3 h4]; exact h5⟩
theorem SA.app {B e:Nat} {m:Mem} {v:Value} {ws:List Str} (h:SA B m v ws) (hB:B ≤ m.next) (hl:ws.length ≤ 4194304) (w:Str) :
    ∃ m2 v' m',Xc e [sv []] 1 1 [(0,sv w)] m=some (.slice (some ⟨m.next,0,some 1⟩) 1 1,m2)∧apS e 1 16 v (.slice (some ⟨m.next,0,some 1⟩) 1 1) m2=some (v',m')∧Fb B m m'∧SA B m' v' (ws ++ [w]):=by
  have hb:Xc e [sv []] 1 1 [(0,sv w)] m=some (.slice (some ⟨m.next,0,some 1⟩) 1 1,m.push (.cells [sv w] 0 0 false (some (2 * e)))):=Eq.trans rfl rfl
  have hg:(m.push (.cells [sv w] 0 0 false (some (2 * e)))).get m.next=some (.cells [sv w] 0 0 false (some (2 * e))):=by rw [Mem.get_push,if_pos rfl]
  have hF:Fb B m (m.push (.cells [sv w] 0 0 false (some (2 * e)))):=(Fb.push _ hB)
  rcases h with ⟨rfl,rfl⟩ | ⟨hne,b,ver,ty,rfl,h2,h3,h4⟩
  . have ha:=Xi0 (e:=e) (bytes:=16) hg rfl rfl (Nat.le_refl 1) rfl
    refine ⟨_,_,_,hb,ha,hF.trans (Fb.push _ (by show B ≤ m.next + 1; omega)),.inr ⟨by simp,(m.push (.cells [sv w] 0 0 false (some (2 * e)))).next,0,some (2 * e),rfl,by show B ≤ m.next + 1; omega,by show m.next + 1 < m.next + 1 + 1; omega,?_⟩⟩
    rw [Mem.get_push,if_pos rfl]
    rfl
  . have hfit:fits (ws.length + 1) 16=true:=by
      simp only [fits,Bool.and_eq_true,Nat.ble_eq]; omega
    have hb2:(m.push (.cells [sv w] 0 0 false (some (2 * e)))).get b=some (.cells (ws.map sv) ver 0 false ty):=by rw [Mem.get_push,if_neg (by omega)]; exact h4
    obtain ⟨m',k1,k2⟩:=Xqo (e:=e) (bytes:=16) (len:=ws.length) (size:=1) hb2 hg rfl rfl (Nat.le_refl 1) (Nat.zero_le _) (by simp) hfit
    refine ⟨_,_,m',hb,k1,(hF.trans ((Fb.refl B _).put _ h2)).meq k2,.inr ⟨by simp,b,ver + 1,tyOf ty (2 * e),by simp,h2,?_,?_⟩⟩
    . rw [k2.next,Mem.next_put]
      show b < m.next + 1
      omega
    . rw [k2.get,Mem.get_put,if_pos rfl]
      congr 2
      simp only [Nat.mul_one,List.map_append,List.map_cons,List.map_nil]
      rw [List.take_of_length_le (by simp)]
def spl (c:UInt8):Str→Str→List Str
  | cur,[]=>[cur]
  | cur,a :: r=>if a=c then cur :: spl c [] r else spl c (cur ++ [a]) r
theorem Xom (c:UInt8):∀ (r cur:Str),spl c cur r=match split c r with | w :: ws=>(cur ++ w) :: ws | []=>[]
  | [],cur=>by simp [spl,split]
  | a :: r,cur=>by
    rw [X69]
    unfold spl
    by_cases h:a=c
    . rw [if_pos h,if_pos h,Xom c r]
      cases hs:split c r with
      | nil=>exact absurd hs (X3f c r)
      | cons x xs=>simp
    . rw [if_neg h,if_neg h,Xom c r]
      cases hs:split c r with
      | nil=>exact absurd hs (X3f c r)
      | cons x xs=>simp
theorem Xo9 (c:UInt8) (s:Str):spl c [] s=split c s:=by
  rw [Xom]
  cases hs:split c s with
  | nil=>exact absurd hs (X3f c s)
  | cons x xs=>rfl
theorem Xeb (l:Str) (a b:Nat) (h1:a ≤ b) (h2:b ≤ l.length):X11 (sv l) (some (I a)) (some (I b))=some (sv ((l.take b).drop a)):=by
  rw [X45]
  show (match bound (some (I b)) l.length l.length with | some h=>(match bound (some (I a)) 0 h with | some k=>some (Value.string ⟨((l.take h).drop k).toArray⟩) | none=>none) | none=>none)=_
  have e1:bound (some (I b)) l.length l.length=some b:=by
    show (match Nat.ble b l.length with | true=>some b | false=>none)=_
    rw [Nat.ble_eq.mpr h2]
  have e2:bound (some (I a)) 0 b=some a:=by
    show (match Nat.ble a b with | true=>some a | false=>none)=_
    rw [Nat.ble_eq.mpr h1]
  rw [e1]
  simp only [e2]
  rfl
theorem Xdl (pre cur rest:Str):(((pre ++ cur ++ rest).take (pre.length + cur.length)).drop pre.length)=cur:=by
  rw [List.take_append_of_le_length (by simp),List.take_of_length_le (by simp),List.drop_left]
end Go.Ab
namespace Go.Ab.Sh
open Go Go.Ab Go.Lib
theorem X9c (G:Gt) (B:Nat) (s:Str) (hs:s.length ≤ 4194304):∀ (rest cur pre:Str) (ws:List Str) (v:Value) (m:Mem) (k:Nat),s=pre ++ cur ++ rest→rest.length + 1 < k→ws.length ≤ pre.length→B ≤ m.next→SA B m v ws →
    ∃ v' m',Qs G k (I (pre.length + cur.length:Nat)) (sv s) v (I pre.length) m=some (v',m')∧Fb B m m'∧SA B m' v' (ws ++ spl 32 cur rest)
  | [],cur,pre,ws,v,m,k,he,hk,hw,hB,hS=>by
    obtain ⟨k,rfl⟩:∃ j,k=j + 2:=⟨k - 2,by simp at hk; omega⟩
    have hl:s.length=pre.length + cur.length:=by rw [he]; simp
    obtain ⟨m2,v',m',k1,k2,k3,k4⟩:=hS.app (e:=Q4) hB (by omega) cur
    refine ⟨v',m',?_,k3,k4⟩
    have w1:IntKind.i64.wrap (((pre.length + cur.length:Nat):Int) + 1)=((pre.length + cur.length + 1:Nat):Int):=by rw [IntWalk.i64_in _ (by omega)]; omega
    have hsub:=Xdl pre cur []
    rw [← he] at hsub
    have e0:Value.string ⟨#[]⟩=sv []:=rfl
    unfold Qs Q5w Q40 Q41
    simp only [X3a,X0,Q7y,X8,hl,Int.le_refl,if_true,Qp,Xd,Xeb s pre.length (pre.length + cur.length) (by omega) (by omega),hsub,e0,k1,X5,k2,Qz,w1]
    unfold Qs Q8l
    have hn:¬ (((pre.length + cur.length + 1:Nat):Int) ≤ ((pre.length + cur.length:Nat):Int)):=by omega
    simp only [X3a,X0,Q7y,X8,hl,if_neg hn]
  | a :: rest,cur,pre,ws,v,m,k,he,hk,hw,hB,hS=>by
    obtain ⟨k,rfl⟩:∃ j,k=j + 1:=⟨k - 1,by simp at hk; omega⟩
    have hl:s.length=pre.length + cur.length + (rest.length + 1):=by rw [he]; simp; omega
    have hle:((pre.length + cur.length:Nat):Int) ≤ (s.length:Int):=by omega
    have hne:¬ ((pre.length + cur.length:Nat):Int)=(s.length:Int):=by omega
    have w1:IntKind.i64.wrap (((pre.length + cur.length:Nat):Int) + 1)=((pre.length + cur.length + 1:Nat):Int):=by rw [IntWalk.i64_in _ (by omega)]; omega
    have hix:s[pre.length + cur.length]'(by omega)=a:=by
      have:s[pre.length + cur.length]?=some a:=by rw [he,List.getElem?_append_right (by simp)]; simp
      exact (List.getElem?_eq_some_iff.mp this).2
    have e0:Value.string ⟨#[]⟩=sv []:=rfl
    unfold Qs Q5w Q40 Q41 spl
    simp only [X3a,X0,Q7y,X8,if_pos hle,Qp,if_neg hne,X76 s .i64 (pre.length + cur.length) (by omega),hix]
    by_cases hc:a=32
    . obtain ⟨m2,v',m',k1,k2,k3,k4⟩:=hS.app (e:=Q4) hB (by omega) cur
      have hsub:=Xdl pre cur (a :: rest)
      rw [← he] at hsub
      have hc2:((a.toNat:Int)=32):=by rw [hc]; rfl
      rw [if_pos hc,if_pos hc2]
      simp only [Xeb s pre.length (pre.length + cur.length) (by omega) (by omega),hsub,e0,X0,k1,X5,k2,Qz,w1]
      obtain ⟨v2,m3,q1,q2,q3⟩:=X9c G B s hs rest [] (pre ++ cur ++ [a]) (ws ++ [cur]) v' m' k (by rw [he]; simp) (by simp at hk; omega) (by simp; omega) (Nat.le_trans hB k3.next) k4
      refine ⟨v2,m3,?_,k3.trans q2,by simpa using q3⟩
      rw [← q1]
      simp [Nat.add_assoc]
    . have hc2:¬ ((a.toNat:Int)=32):=fun h=>hc (by apply UInt8.toNat_inj.mp; have:(32:UInt8).toNat=32:=rfl; omega)
      rw [if_neg hc,if_neg hc2]
      simp only [Qz,X0,w1]
      obtain ⟨v2,m3,q1,q2,q3⟩:=X9c G B s hs rest (cur ++ [a]) pre ws v m k (by rw [he]; simp) (by simp at hk; omega) hw hB hS
      refine ⟨v2,m3,?_,q2,q3⟩
      rw [← q1]
      simp [Nat.add_assoc]
theorem Xtz {m m1:Mem} {v:Value} {x:Option Rs} (hx:x=some (v,m1)) (hF:Fb m.next (X4 m m.next) m1) (hr:refs m.next 8 v=false) :
    ∃ m2,outOf m x=some (v,m2)∧Fr [] m m2∧m2.next=m1.next∧∀ b,m2.get b=m1.get b:=Xba hx (Fb.toFr hF) hr
theorem c_words (s:Str) (hs:s.length ≤ 4194304) (d:Nat) (m:Mem):∃ v m1,TA (d + 1) Q4y [sv s] m=some (v,m1)∧Fr [] m m1∧SL m1 v (split 32 s)∧refs m.next 8 v=false:=by
  rw [X6o]
  obtain ⟨v',m',k1,k2,k3⟩:=X9c ⟨TA d,18446744073709551616⟩ m.next s hs s [] [] [] (.slice none 0 0) (X4 m m.next) 18446744073709551616 rfl (by omega) (Nat.le_refl _) (Nat.le_refl _) (.inl ⟨rfl,rfl⟩)
  rw [List.nil_append,Xo9] at k3
  obtain ⟨q1,q2⟩:=k3.sl (X3f 32 s)
  have hx:Q27 ⟨TA d,18446744073709551616⟩ (sv s) (X4 m m.next)=some (v',m'):=by
    unfold Q27 Q8m Q8n Q8o Q8p
    exact k1
  obtain ⟨m2,r1,r2,r3,r4⟩:=Xtz (m:=m) hx k2 q2
  exact ⟨v',m2,r1,r2,SL.same q1 (by omega) r4,q2⟩
theorem X51 (G:Gt) (B:Nat) (s:Str) (hs:s.length ≤ 4194304):∀ (rest cur pre:Str) (ws:List Str) (v:Value) (m:Mem) (k:Nat),s=pre ++ cur ++ rest→rest.length + 1 < k→ws.length ≤ pre.length→B ≤ m.next→SA B m v ws →
    ∃ v' m',Qq G k (I (pre.length + cur.length:Nat)) (sv s) v (I pre.length) m=Q5x G v' m'∧Fb B m m'∧SA B m' v' (ws ++ spl 46 cur rest)
  | [],cur,pre,ws,v,m,k,he,hk,hw,hB,hS=>by
    obtain ⟨k,rfl⟩:∃ j,k=j + 2:=⟨k - 2,by simp at hk; omega⟩
    have hl:s.length=pre.length + cur.length:=by rw [he]; simp
    obtain ⟨m2,v',m',k1,k2,k3,k4⟩:=hS.app (e:=Q4) hB (by omega) cur
    refine ⟨v',m',?_,k3,k4⟩
    have w1:IntKind.i64.wrap (((pre.length + cur.length:Nat):Int) + 1)=((pre.length + cur.length + 1:Nat):Int):=by rw [IntWalk.i64_in _ (by omega)]; omega
    have hsub:=Xdl pre cur []
    rw [← he] at hsub
    have e0:Value.string ⟨#[]⟩=sv []:=rfl
    unfold Qq Q5d Q3k Q3l
    simp only [X3a,X0,Q7y,X8,hl,Int.le_refl,if_true,Qp,Xd,Xeb s pre.length (pre.length + cur.length) (by omega) (by omega),hsub,e0,k1,X5,k2,Qz,w1]
    unfold Qq
    have hn:¬ (((pre.length + cur.length + 1:Nat):Int) ≤ ((pre.length + cur.length:Nat):Int)):=by omega
    simp only [X3a,X0,Q7y,X8,hl,if_neg hn]
  | a :: rest,cur,pre,ws,v,m,k,he,hk,hw,hB,hS=>by
    obtain ⟨k,rfl⟩:∃ j,k=j + 1:=⟨k - 1,by simp at hk; omega⟩
    have hl:s.length=pre.length + cur.length + (rest.length + 1):=by rw [he]; simp; omega
    have hle:((pre.length + cur.length:Nat):Int) ≤ (s.length:Int):=by omega
    have hne:¬ ((pre.length + cur.length:Nat):Int)=(s.length:Int):=by omega
    have w1:IntKind.i64.wrap (((pre.length + cur.length:Nat):Int) + 1)=((pre.length + cur.length + 1:Nat):Int):=by rw [IntWalk.i64_in _ (by omega)]; omega
    have hix:s[pre.length + cur.length]'(by omega)=a:=by
      have:s[pre.length + cur.length]?=some a:=by rw [he,List.getElem?_append_right (by simp)]; simp
      exact (List.getElem?_eq_some_iff.mp this).2
    have e0:Value.string ⟨#[]⟩=sv []:=rfl
    unfold Qq Q5d Q3k Q3l spl
    simp only [X3a,X0,Q7y,X8,if_pos hle,Qp,if_neg hne,X76 s .i64 (pre.length + cur.length) (by omega),hix]
    by_cases hc:a=46
    . obtain ⟨m2,v',m',k1,k2,k3,k4⟩:=hS.app (e:=Q4) hB (by omega) cur
      have hsub:=Xdl pre cur (a :: rest)
      rw [← he] at hsub
      have hc2:((a.toNat:Int)=46):=by rw [hc]; rfl
      rw [if_pos hc,if_pos hc2]
      simp only [Xeb s pre.length (pre.length + cur.length) (by omega) (by omega),hsub,e0,X0,k1,X5,k2,Qz,w1]
      obtain ⟨v2,m3,q1,q2,q3⟩:=X51 G B s hs rest [] (pre ++ cur ++ [a]) (ws ++ [cur]) v' m' k (by rw [he]; simp) (by simp at hk; omega) (by simp; omega) (Nat.le_trans hB k3.next) k4
      refine ⟨v2,m3,?_,k3.trans q2,by simpa using q3⟩
      rw [← q1]
      simp [Nat.add_assoc]
    . have hc2:¬ ((a.toNat:Int)=46):=fun h=>hc (by apply UInt8.toNat_inj.mp; have:(46:UInt8).toNat=46:=rfl; omega)
      rw [if_neg hc,if_neg hc2]
      simp only [Qz,X0,w1]
      obtain ⟨v2,m3,q1,q2,q3⟩:=X51 G B s hs rest (cur ++ [a]) pre ws v m k (by rw [he]; simp) (by simp at hk; omega) hw hB hS
      refine ⟨v2,m3,?_,q2,q3⟩
      rw [← q1]
      simp [Nat.add_assoc]
theorem c_refAddr (s:Str) (hs:s.length ≤ 4194304) (d:Nat) (m:Mem):TA (d + 2) Q10 [sv s] m=some (X3u (X2p s),m):=by
  rw [X6q]
  obtain ⟨v',m',k1,k2,k3⟩:=X51 ⟨TA (d + 1),18446744073709551616⟩ m.next s hs s [] [] [] (.slice none 0 0) (X4 m m.next) 18446744073709551616 rfl (by omega) (Nat.le_refl _) (Nat.le_refl _) (.inl ⟨rfl,rfl⟩)
  rw [List.nil_append,Xo9] at k3
  obtain ⟨q1,q2⟩:=k3.sl (X3f 46 s)
  refine X2v (m1:=m') ?_ (Fb.toFr k2) (Xdd _ _)
  unfold Q34 Q8q Q8r Q8s Q8t
  refine Eq.trans k1 ?_
  unfold Q5x Q8u Q8v Q8w
  simp only [k3.len,X0,Q1o,X8]
  unfold X2p
  by_cases h4:(split 46 s).length=4
  . rw [if_neg (by omega),if_pos h4]
    exact X8a d v' m' (split 46 s) h4 (fun w hw=>by have:=X2k 46 s w hw; omega) q1 (split 46 s) [] 0 18446744073709551616 rfl (by omega) (by simp)
  . rw [if_pos (by omega),if_neg h4]
    rfl
end Go.Ab.Sh

set_option maxRecDepth 100000
namespace Go.Ab
open Go Go.Lib
abbrev X1j (a:Nat):Str:=decDigits (a / 16777216) ++ [46] ++ decDigits (a / 65536 % 256) ++ [46] ++ decDigits (a / 256 % 256) ++ [46] ++ decDigits (a % 256)
theorem X1l (n:Nat) (h:n < 18446744073709551616):(decDigits n).length ≤ 20:=Xep n 20 (by omega) (by omega)
theorem Xh {α:Type} (ty:Nat) (cs:List Value) (m:Mem) (k:Value→Mem→Option α):bp (some (aNew ty cs m)) k=k (pt m.next 0 0) (m.push (.cells cs 0 0 false (some (2 * ty + 1)))):=Eq.trans rfl rfl
theorem Xq {m m1:Mem} {v:Value} {x:Option Rs} (hx:x=some (v,m1)) (hF:Fb m.next (X4 m m.next) m1) (hv:refs m.next 8 v=true):outOf m x=some (v,m):=X2v hx (Fb.toFr hF) hv
theorem Xoc (n k:Nat):(n:Int).tmod (k:Int)=((n % k:Nat):Int):=rfl
theorem Xpy (n k:Nat):(n:Int).tdiv (k:Int)=((n / k:Nat):Int):=rfl
theorem Xf3 {e:Nat} (m:Mem) (x:Nat) {α:Type} (k:Value→Mem→Option α):bp (Xc e [.int .u8 0] 1 1 [(0,.int .u8 (x:Int))] m) (fun v m=>bp (conv .str v m) k)=k (sv [UInt8.ofNat x]) (m.push (.cells [.int .u8 (x:Int)] 0 0 false (some (2 * e)))):=by
  have h1:Xc e [.int .u8 0] 1 1 [(0,.int .u8 (x:Int))] m=some (.slice (some ⟨m.next,0,some 1⟩) 1 1,m.push (.cells [.int .u8 (x:Int)] 0 0 false (some (2 * e)))):=Eq.trans rfl rfl
  rw [h1,X5]
  have hg:(m.push (.cells [.int .u8 (x:Int)] 0 0 false (some (2 * e)))).get m.next=some (.cells [.int .u8 (x:Int)] 0 0 false (some (2 * e))):=by rw [Mem.get_push,if_pos rfl]
  have hc:getCells (m.push (.cells [.int .u8 (x:Int)] 0 0 false (some (2 * e)))) ⟨m.next,0,some 0⟩ 1=some [.int .u8 (x:Int)]:=by
    simp [Xt,X13,hg]
  have h2:conv .str (.slice (some ⟨m.next,0,some 1⟩) 1 1) (m.push (.cells [.int .u8 (x:Int)] 0 0 false (some (2 * e))))=some (sv [UInt8.ofNat x],m.push (.cells [.int .u8 (x:Int)] 0 0 false (some (2 * e)))):=by
    show (match getCells (m.push (.cells [.int .u8 (x:Int)] 0 0 false (some (2 * e)))) ⟨m.next,0,some (1 / 2)⟩ 1 with
      | some cs=>match X1h cs with | some l=>some (Value.string ⟨l.toArray⟩,m.push (.cells [.int .u8 (x:Int)] 0 0 false (some (2 * e)))) | none=>none
      | none=>none)=_
    rw [show 1 / 2=0 from rfl,hc]
    simp only [X1h,Int.toNat_natCast]
    rfl
  rw [h2,X5]
theorem X14 {m:Mem} {b n:Nat} {cs tail:List Value} {ty:Option Nat} (h:m.get b=some (.cells cs 0 0 false ty)) (hn:cs.length=n) {vs:List Value} (hv:vs.length=n) (h1:vs.all one=true) {B:Nat} (hB:B ≤ b) :
    ∃ m',bp (unt (X7 n (pt b 0 0) (.agg ⟨vs⟩) m)) (fun _ m=>ob (ob (X6 true n (pt b 0 0) m) fun v=>ob (some tail) fun l=>some (v :: l)) fun l=>some (X1a l,m))=some (X1a (.agg ⟨vs⟩ :: tail),m')∧Fb B m m'∧m'.next=m.next:=by
  obtain ⟨m',k1,k2⟩:=X3g (o:=0) (c':=vs) (v:=.agg ⟨vs⟩) (n:=n) h hv (Nat.zero_le _) (by omega) h1 (by
    show [] ++ vs ++ cs.drop (0 + n)=vs
    rw [List.drop_eq_nil_of_le (by omega)]; simp)
  have hg:m'.get b=some (.cells vs 0 0 false ty):=by rw [k2.get,Mem.get_put,if_pos rfl]
  have hl:X6 true n (pt b 0 0) m'=some (.agg ⟨vs⟩):=Xk hg (by omega) (by simp [← hv])
  refine ⟨m',?_,(((Fb.refl B _).put _ hB).meq k2),by rw [k2.next,Mem.next_put]⟩
  rw [k1,Xe]
  simp only [hl,Xli]
end Go.Ab
namespace Go.Ab.Sh
open Go Go.Ab Go.Lib
theorem X7s (G:Gt) (B:Nat):∀ (k n:Nat) (t:Str) (m:Mem),n < 2 ^ k→n < 9223372036854775808→t.length + k ≤ 1100→B ≤ m.next →
    ∀ j,k < j→∃ m',Q1f G j (.int .u64 (n:Int)) (sv t) m=some (sv (decDigits n ++ t),m')∧Fb B m m'
  | k,n,t,m,hk,hn,htk,hB,j,hj=>by
    obtain ⟨j,rfl⟩:∃ i,j=i + 1:=⟨j - 1,by omega⟩
    unfold Q1f
    simp only [Q4s,X0,X8]
    by_cases h9:(9:Int) < (n:Int)
    . rw [if_pos h9]
      have w1:IntKind.u64.wrap (48 + ((n:Int).tmod 10))=((48 + n % 10:Nat):Int):=by
        have e:(n:Int).tmod 10=((n % 10:Nat):Int):=Xoc n 10
        rw [e,IntWalk.u64_in _ (by omega)]; omega
      have w2:IntKind.u8.wrap ((48 + n % 10:Nat):Int)=((48 + n % 10:Nat):Int):=by rw [IntWalk.u8_in _ (by omega)]
      have w3:IntKind.u64.wrap ((n:Int).tdiv 10)=((n / 10:Nat):Int):=by
        have e:(n:Int).tdiv 10=((n / 10:Nat):Int):=Xpy n 10
        rw [e,IntWalk.u64_in _ (by omega)]
      have k1:1 ≤ k:=by
        cases k with
        | zero=>simp at hk; omega
        | succ k=>omega
      obtain ⟨m',q1,q2⟩:=X7s G B (k - 1) (n / 10) ([UInt8.ofNat (48 + n % 10)] ++ t) (m.push (.cells [.int .u8 ((48 + n % 10:Nat):Int)] 0 0 false (some (2 * Qe5)))) (by
        have:2 ^ k=2 * 2 ^ (k - 1):=by rw [← Nat.pow_succ']; congr 1; omega
        omega) (by omega) (by simp; omega) (by show B ≤ m.next + 1; omega) j (by omega)
      refine ⟨m',?_,(Fb.push _ hB).trans q2⟩
      simp only [Qhf _ _ _ _ _ (by omega:(10:Int) ≠ 0),X0,Qz,w1,c_int,w2,X5,Xf3,Qg _ _ [UInt8.ofNat (48 + n % 10)] t (by simp; omega),Qhe _ _ _ _ _ (by omega:(10:Int) ≠ 0),w3]
      rw [q1,X5c (n:=n) (by omega)]
      simp
    . rw [if_neg h9]
      have w1:IntKind.u64.wrap (48 + (n:Int))=((48 + n:Nat):Int):=by rw [IntWalk.u64_in _ (by omega)]; omega
      have w2:IntKind.u8.wrap ((48 + n:Nat):Int)=((48 + n:Nat):Int):=by rw [IntWalk.u8_in _ (by omega)]
      refine ⟨m.push (.cells [.int .u8 ((48 + n:Nat):Int)] 0 0 false (some (2 * Qe5))),?_,Fb.push _ hB⟩
      unfold Q82
      simp only [Qz,w1,X0,c_int,w2,X5,Xf3,Qg _ _ [UInt8.ofNat (48 + n)] t (by simp; omega)]
      rw [X2l (by omega)]
termination_by k=>k
decreasing_by
  have k1:1 ≤ k:=by
    cases k with
    | zero=>simp at hk; omega
    | succ k=>omega
  omega
theorem c_digits (n:Nat) (h:n < 9223372036854775808) (d:Nat) (m:Mem):TA (d + 1) Q2s [.int .u64 (n:Int)] m=some (sv (decDigits n),m):=by
  rw [X2x]
  obtain ⟨m',k1,k2⟩:=X7s ⟨TA d,18446744073709551616⟩ m.next 63 n [] (X4 m m.next) (by omega) h (by simp) (Nat.le_refl _) 18446744073709551616 (by omega)
  refine Xq (m1:=m') ?_ k2 rfl
  unfold Q1x Q5e Q5f
  have e0:Value.string ⟨#[]⟩=sv []:=rfl
  rw [e0,k1,List.append_nil]
theorem c_Number (z:Int) (h:X5j z=true) (d:Nat) (m:Mem):TA (d + 2) Q1 [I z] m=some (sv (itoa z),m):=by
  obtain ⟨h1,h2⟩:=X8v h
  rw [X5z]
  refine Xq (m1:=X4 m m.next) ?_ (.refl _ _) rfl
  unfold Q2r
  simp only [Qf,X0,X8]
  by_cases hz:z < 0
  . rw [if_pos hz]
    obtain ⟨n,rfl⟩:∃ n:Nat,z=-((n:Int) + 1):=⟨(-z - 1).toNat,by omega⟩
    have w1:IntKind.i64.wrap (-((n:Int) + 1) + 1)=-(n:Int):=by rw [IntWalk.i64_in _ (by omega)]; omega
    have w2:un .neg (.int .i64 (-(n:Int)))=some (I n):=by
      show some (Value.int .i64 (IntKind.i64.wrap (0 - -(n:Int))))=_
      rw [IntWalk.i64_in _ (by omega),show (0:Int) - -(n:Int)=n by omega]
    have w3:IntKind.u64.wrap (n:Int)=(n:Int):=by rw [IntWalk.u64_in _ (by omega)]
    have w4:IntKind.u64.wrap ((n:Int) + 1)=((n + 1:Nat):Int):=by rw [IntWalk.u64_in _ (by omega)]; omega
    have e0:Value.string ⟨#[45]⟩=sv [45]:=rfl
    simp only [Qz,w1,X0,w2,c_int,X5,w3,w4]
    by_cases hn:n + 1 < 9223372036854775808
    . have hl:=X1l (n + 1) (by omega)
      simp only [c_digits (n + 1) hn,X5,e0,Qg _ _ [45] (decDigits (n + 1)) (by simp; omega),X0]
      unfold itoa
      rw [if_pos hz,show (-((n:Int) + 1)).natAbs=n + 1 by omega]
      rfl
    . have hn2:n + 1=9223372036854775808:=by omega
      -- the least number of all
      have hd:∀ m,TA (d + 1) Q2s [.int .u64 ((n + 1:Nat):Int)] m=some (sv (decDigits (n + 1)),m):=by
        intro m
        rw [X2x,hn2]
        have e9:(9:Int) < ((9223372036854775808:Nat):Int):=by omega
        obtain ⟨m',k1,k2⟩:=X7s ⟨TA d,18446744073709551616⟩ m.next 63 922337203685477580 [UInt8.ofNat (48 + 8)] ((X4 m m.next).push (.cells [.int .u8 ((48 + 8:Nat):Int)] 0 0 false (some (2 * Qe5)))) (by omega) (by omega) (by simp) (by show m.next ≤ m.next + 1; omega) 18446744073709551615 (by omega)
        refine Xq (m1:=m') ?_ ((Fb.push (B:=m.next) (m:=X4 m m.next) _ (Nat.le_refl _)).trans k2) rfl
        have w5:IntKind.u64.wrap (48 + (((9223372036854775808:Nat):Int).tmod 10))=((48 + 8:Nat):Int):=by
          have e:((9223372036854775808:Nat):Int).tmod 10=8:=Xoc 9223372036854775808 10
          rw [e,IntWalk.u64_in _ (by omega)]; omega
        have w6:IntKind.u8.wrap ((48 + 8:Nat):Int)=((48 + 8:Nat):Int):=by rw [IntWalk.u8_in _ (by omega)]
        have w7:IntKind.u64.wrap (((9223372036854775808:Nat):Int).tdiv 10)=((922337203685477580:Nat):Int):=by
          have e:((9223372036854775808:Nat):Int).tdiv 10=((922337203685477580:Nat):Int):=Xpy 9223372036854775808 10
          rw [e,IntWalk.u64_in _ (by omega)]
        have e0:Value.string ⟨#[]⟩=sv []:=rfl
        unfold Q1x Q5e Q5f
        show Q1f ⟨TA d,18446744073709551616⟩ (18446744073709551615 + 1) _ _ _=_
        unfold Q1f
        simp only [e0,Q4s,X0,X8,if_pos e9,Qhf _ _ _ _ _ (by omega:(10:Int) ≠ 0),Qz,w5,c_int,w6,X5,Xf3,Qg _ _ [UInt8.ofNat (48 + 8)] [] (by simp),Qhe _ _ _ _ _ (by omega:(10:Int) ≠ 0),w7]
        rw [List.append_nil,k1]
        have:=X5c (n:=9223372036854775808) (by omega)
        rw [this]
      have hl:=X1l (n + 1) (by omega)
      simp only [hd,X5,e0,Qg _ _ [45] (decDigits (n + 1)) (by simp; omega),X0]
      unfold itoa
      rw [if_pos hz,show (-((n:Int) + 1)).natAbs=n + 1 by omega]
      rfl
  . rw [if_neg hz]
    obtain ⟨n,rfl⟩:=Int.eq_ofNat_of_zero_le (by omega:0 ≤ z)
    simp only [c_int,IntWalk.u64_in (n:Int) (by omega),X5,c_digits n (by omega)]
    rw [X21]
theorem c_NumberN (n:Nat) (h:n < 9223372036854775808) (d:Nat) (m:Mem):TA (d + 2) Q1 [I n] m=some (sv (decDigits n),m):=by
  rw [c_Number n (X28 h),X21]
theorem c_refText (a:Nat) (ha:a < 4294967296) (d:Nat) (m:Mem):TA (d + 3) Qx [.int .u32 (a:Int)] m=some (sv (X1j a),m):=by
  rw [X88]
  refine Xq (m1:=X4 m m.next) ?_ (.refl _ _) rfl
  have e0:Value.string ⟨#[46]⟩=sv [46]:=rfl
  have l1:=X1l (a / 16777216) (by omega)
  have l2:=X1l (a / 65536 % 256) (by omega)
  have l3:=X1l (a / 256 % 256) (by omega)
  have l4:=X1l (a % 256) (by omega)
  have w0:IntKind.i64.wrap (a:Int)=(a:Int):=by rw [IntWalk.i64_in _ (by omega)]
  have q:∀ k:Nat,0 < k→IntKind.i64.wrap ((a:Int).tdiv (k:Int))=((a / k:Nat):Int):=by
    intro k hk
    have e:(a:Int).tdiv (k:Int)=((a / k:Nat):Int):=Xpy a k
    have:=Nat.div_le_self a k
    rw [e]
    generalize a / k=q at this
    rw [IntWalk.i64_in _ (by omega)]
  have q1:=q 16777216 (by omega)
  have q2:=q 65536 (by omega)
  have q3:=q 256 (by omega)
  have r:∀ n:Nat,(n:Int).tmod 256=((n % 256:Nat):Int):=fun n=>Xoc n 256
  unfold Q3s
  have q1:IntKind.i64.wrap ((a:Int).tdiv 16777216)=((a / 16777216:Nat):Int):=q1
  have q2:IntKind.i64.wrap ((a:Int).tdiv 65536)=((a / 65536:Nat):Int):=q2
  have q3:IntKind.i64.wrap ((a:Int).tdiv 256)=((a / 256:Nat):Int):=q3
  simp only [c_int,w0,X5,Qhe _ _ _ _ _ (by omega:(16777216:Int) ≠ 0),Qhe _ _ _ _ _ (by omega:(65536:Int) ≠ 0),Qhe _ _ _ _ _ (by omega:(256:Int) ≠ 0),Qhf _ _ _ _ _ (by omega:(256:Int) ≠ 0),q1,q2,q3,r,X0,
    c_NumberN (a / 16777216) (by omega),c_NumberN (a / 65536 % 256) (by omega),c_NumberN (a / 256 % 256) (by omega),c_NumberN (a % 256) (by omega),e0]
  simp only [Qg _ _ (decDigits (a / 16777216)) [46] (by simp; omega),X0,Qg _ _ (decDigits (a / 16777216) ++ [46]) (decDigits (a / 65536 % 256)) (by simp; omega),
    Qg _ _ (decDigits (a / 16777216) ++ [46] ++ decDigits (a / 65536 % 256)) [46] (by simp; omega),
    Qg _ _ (decDigits (a / 16777216) ++ [46] ++ decDigits (a / 65536 % 256) ++ [46]) (decDigits (a / 256 % 256)) (by simp; omega),
    Qg _ _ (decDigits (a / 16777216) ++ [46] ++ decDigits (a / 65536 % 256) ++ [46] ++ decDigits (a / 256 % 256)) [46] (by simp; omega),
    Qg _ _ (decDigits (a / 16777216) ++ [46] ++ decDigits (a / 65536 % 256) ++ [46] ++ decDigits (a / 256 % 256) ++ [46]) (decDigits (a % 256)) (by simp; omega)]
end Go.Ab.Sh

set_option maxRecDepth 100000
namespace Go.Ab
open Go Go.Lib
theorem X1s (k:IntKind) (z:Int) (m:Mem):again (pur (some (.int k z)) m) (.int k z)=true:=by
  show vsame 8 (.int k z) (.int k z)=true
  simp [vsame]
theorem X65 (l:Str) (m:Mem):again (pur (some (sv l)) m) (sv l)=true:=by
  show vsame 8 (sv l) (sv l)=true
  simp [vsame,sv]
abbrev pfx (a b:Int):Value:=.agg ⟨[.int .u32 a,I b]⟩
theorem X10 {m:Mem} {cs:List Value} {ty:Option Nat} {o:Nat} {v:Value} (h:cs[o]?=some v):X6 false 1 (pt m.next o 0) (m.push (.cells cs 0 0 false ty))=some v:=Xo (by rw [Mem.get_push,if_pos rfl]) h
theorem Xsn {m:Mem} {cs:List Value} {ty:Option Nat} {n:Nat} (h:cs.length=n):X6 true n (pt m.next 0 0) (m.push (.cells cs 0 0 false ty))=some (.agg ⟨cs⟩):=Xk (by rw [Mem.get_push,if_pos rfl]) (by omega) (by simp [← h])
def chk (a:Nat) (b:Int):Nat:=if b < 0∨32 < b then 1 else if a % 2 ^ (32 - b.toNat)=0 then 0 else 10
theorem Xmc (c g:Bool) (a k:Nat) (ha:a < 4294967296) (hk:k ≤ 32):bin .and c g .int (.int .u32 (a:Int)) (.int .u32 ((2 ^ k - 1:Nat):Int))=some (.int .u32 ((a % 2 ^ k:Nat):Int)):=by
  have hp:2 ^ k ≤ 2 ^ 32:=Nat.pow_le_pow_right (by omega) hk
  have hm:=Nat.mod_le a (2 ^ k)
  rw [X1n]
  simp only [binO,ne_eq,not_true_eq_false,if_false]
  have e2:(BitVec.ofInt IntKind.u32.bits (a:Int) &&& BitVec.ofInt IntKind.u32.bits ((2 ^ k - 1:Nat):Int)).toNat=a % 2 ^ k:=by
    show (BitVec.ofInt 32 (a:Int) &&& BitVec.ofInt 32 ((2 ^ k - 1:Nat):Int)).toNat=a % 2 ^ k
    rw [BitVec.ofInt_natCast,BitVec.ofInt_natCast,BitVec.toNat_and,BitVec.toNat_ofNat,BitVec.toNat_ofNat,Nat.mod_eq_of_lt (by omega),Nat.mod_eq_of_lt (by omega)]
    exact Nat.and_two_pow_sub_one_eq_mod a k
  rw [e2]
  generalize a % 2 ^ k=r at hm
  rw [IntWalk.u32_in _ (by omega)]
end Go.Ab
namespace Go.Ab.Sh
open Go Go.Ab Go.Lib
theorem c_behind (n:Nat) (hn:n ≤ 32) (d:Nat) (m:Mem):TA (d + 1) Qdu [I n] m=some (.int .u32 ((2 ^ (32 - n) - 1:Nat):Int),m):=by
  rw [Xeg]
  refine Xq (m1:=X4 m m.next) ?_ (.refl _ _) rfl
  have hp:2 ^ (32 - n) ≤ 2 ^ 32:=Nat.pow_le_pow_right (by omega) (by omega)
  have hp1:1 ≤ 2 ^ (32 - n):=Nat.one_le_two_pow
  have w1:IntKind.i64.wrap (32 - (n:Int))=((32 - n:Nat):Int):=by rw [IntWalk.i64_in _ (by omega)]; omega
  have hs:bin .shl true true .int (.int .u64 1) (.int .i64 ((32 - n:Nat):Int))=some (.int .u64 ((2 ^ (32 - n):Nat):Int)):=by
    rw [X1n]
    show (if ((32 - n:Nat):Int) < 0 then none else some (Value.int .u64 (IntKind.u64.wrap (1 * 2 ^ (min ((32 - n:Nat):Int).toNat 64)))))=_
    rw [if_neg (by omega),Int.toNat_natCast,Nat.min_eq_left (by omega),Int.one_mul]
    have e:((2:Int) ^ (32 - n))=((2 ^ (32 - n):Nat):Int):=by rw [Int.natCast_pow]; rfl
    rw [e]
    generalize 2 ^ (32 - n)=q at hp hp1
    rw [IntWalk.u64_in _ (by omega)]
  unfold Q88
  simp only [Q9t,w1,X0,hs,c_int,X5]
  generalize 2 ^ (32 - n)=q at hp hp1
  rw [IntWalk.u64_in _ (by omega),IntWalk.u32_in _ (by omega)]
  congr 4
  omega
theorem c_addrCheck (a:Nat) (ha:a < 4294967296) (b:Int) (d:Nat) (m:Mem):TA (d + 2) Qed [pfx a b] m=some (I (chk a b),m):=by
  rw [Xgu]
  refine Xq (m1:=(X4 m m.next).push (.cells [.int .u32 (a:Int),I b] 0 0 false (some (2 * Q2 + 1)))) ?_ (Fb.push _ (Nat.le_refl _)) rfl
  have l0:=X10 (m:=X4 m m.next) (cs:=[.int .u32 (a:Int),I b]) (ty:=some (2 * Q2 + 1)) (o:=0 + 0) rfl
  have l1:=X10 (m:=X4 m m.next) (cs:=[.int .u32 (a:Int),I b]) (ty:=some (2 * Q2 + 1)) (o:=0 + 1) rfl
  have ec:(Value.cells (pfx a b)).toList=[.int .u32 (a:Int),I b]:=rfl
  unfold Qa1 Qf5 Qd0
  rw [ec,Xh]
  simp only [Xg,X0,l0,l1,Qf,Q4s,X8,Xd]
  unfold chk
  by_cases h1:b < 0
  . rw [if_pos h1,if_pos (.inl h1)]; rfl
  rw [if_neg h1]
  by_cases h2:32 < b
  . rw [if_pos h2,if_pos (.inr h2)]; rfl
  rw [if_neg h2,if_neg (by omega)]
  obtain ⟨n,rfl⟩:=Int.eq_ofNat_of_zero_le (by omega:0 ≤ b)
  simp only [c_behind n (by omega),X5,Xmc _ _ a (32 - n) ha (by omega),X0,Q1o,X8,Int.toNat_natCast,l0,X1s,Bool.and_true,X18]
  by_cases h3:a % 2 ^ (32 - n)=0
  . rw [if_neg (by rw [h3]; simp),if_pos h3]; rfl
  . rw [if_pos (by intro h; exact h3 (by omega)),if_neg h3]; rfl
theorem Xgz (G:Gt) (m:Mem):∀ (k n p j:Nat),n + k=32→p * 2 ^ k ≤ 4294967296→k < j→Q2u G j (I n) (.int .u64 (p:Int)) m=some (.int .u64 ((p * 2 ^ k:Nat):Int),m)
  | 0,n,p,j,h,hp,hj=>by
    obtain ⟨j,rfl⟩:∃ i,j=i + 1:=⟨j - 1,by omega⟩
    have hn:n=32:=by omega
    subst hn
    unfold Q2u Qab
    simp only [Qf,X0,X8]
    rw [if_neg (by omega),Nat.pow_zero,Nat.mul_one]
  | k + 1,n,p,j,h,hp,hj=>by
    obtain ⟨j,rfl⟩:∃ i,j=i + 1:=⟨j - 1,by omega⟩
    have e:p * 2 ^ (k + 1)=(2 * p) * 2 ^ k:=by rw [Nat.pow_succ]; rw [Nat.mul_comm 2 p,Nat.mul_assoc,Nat.mul_comm 2]
    have h1:1 ≤ 2 ^ k:=Nat.one_le_two_pow
    have h2:2 * p ≤ (2 * p) * 2 ^ k:=Nat.le_mul_of_pos_right _ h1
    have w1:IntKind.u64.wrap (2 * (p:Int))=((2 * p:Nat):Int):=by rw [IntWalk.u64_in _ (by omega)]; omega
    have w2:IntKind.i64.wrap ((n:Int) + 1)=((n + 1:Nat):Int):=by rw [IntWalk.i64_in _ (by omega)]; omega
    unfold Q2u
    simp only [Qf,X0,X8,if_pos (by omega:(n:Int) < 32),Qik,w1,Qz,w2]
    rw [e]
    exact Xgz G m k (n + 1) (2 * p) j (by omega) (by omega) (by omega)
theorem c_size (n:Nat) (hn:n ≤ 32) (d:Nat) (m:Mem):TA (d + 1) Q7z [I n] m=some (.int .u64 ((2 ^ (32 - n):Nat):Int),m):=by
  rw [X7g]
  refine Xq (m1:=X4 m m.next) ?_ (.refl _ _) rfl
  have hp:2 ^ (32 - n) ≤ 2 ^ 32:=Nat.pow_le_pow_right (by omega) (by omega)
  unfold Q3t Qac Qad Qae
  have:=Xgz ⟨TA d,18446744073709551616⟩ (X4 m m.next) (32 - n) n 1 18446744073709551616 (by omega) (by omega) (by omega)
  rw [Nat.one_mul] at this
  exact this
theorem c_refCheck (a:Nat) (ha:a < 4294967296) (b:Int) (d:Nat) (m:Mem):TA (d + 2) Q4w [pfx a b] m=some (I (chk a b),m):=by
  rw [X6v]
  refine Xq (m1:=(X4 m m.next).push (.cells [.int .u32 (a:Int),I b] 0 0 false (some (2 * Q2 + 1)))) ?_ (Fb.push _ (Nat.le_refl _)) rfl
  have l0:=X10 (m:=X4 m m.next) (cs:=[.int .u32 (a:Int),I b]) (ty:=some (2 * Q2 + 1)) (o:=0 + 0) rfl
  have l1:=X10 (m:=X4 m m.next) (cs:=[.int .u32 (a:Int),I b]) (ty:=some (2 * Q2 + 1)) (o:=0 + 1) rfl
  have ec:(Value.cells (pfx a b)).toList=[.int .u32 (a:Int),I b]:=rfl
  unfold Q33 Q8x Q5y
  rw [ec,Xh]
  simp only [Xg,X0,l0,l1,Qf,Q4s,X8,Xd]
  unfold chk
  by_cases h1:b < 0
  . rw [if_pos h1,if_pos (.inl h1)]; rfl
  rw [if_neg h1]
  by_cases h2:32 < b
  . rw [if_pos h2,if_pos (.inr h2)]; rfl
  rw [if_neg h2,if_neg (by omega)]
  obtain ⟨n,rfl⟩:=Int.eq_ofNat_of_zero_le (by omega:0 ≤ b)
  have hp1:1 ≤ 2 ^ (32 - n):=Nat.one_le_two_pow
  have hne:((2 ^ (32 - n):Nat):Int) ≠ 0:=by omega
  simp only [c_int,IntWalk.u64_in (a:Int) (by omega),X5,l1,X0,c_size n (by omega),Qhf _ _ _ _ _ hne,Xoc,Q1o,X8,Int.toNat_natCast,l0,X1s,Bool.and_true,X18]
  by_cases h3:a % 2 ^ (32 - n)=0
  . rw [if_neg (by rw [h3]; simp),if_pos h3]; rfl
  . rw [if_pos (by intro h; exact h3 (by omega)),if_neg h3]; rfl

def prefP (s:Str):Nat × Nat × Nat:=match cut 47 s with
  | none=>(0,0,4)
  | some (x,y)=>match X2p x,num 32 y with
    | some a,some b=>if a % 2 ^ (32 - b)=0 then (a,b,0) else (0,0,10)
    | _,_=>(0,0,4)
def Xlb (x:Nat × Nat × Nat):Value:=.tuple ⟨[pfx x.1 x.2.1,I x.2.2]⟩
theorem Xkd:∀ (ws:List Str) (acc n:Nat),X6r acc ws=some n→n < (acc + 1) * 256 ^ ws.length
  | [],acc,n,h=>by cases h; simp
  | w :: ws,acc,n,h=>by
    unfold X6r at h
    cases hn:num 255 w with
    | none=>rw [hn] at h; cases h
    | some k =>
      rw [hn] at h
      have h1:=Xkd ws _ n h
      have h2:=(num_some.mp hn).2
      rw [List.length_cons,Nat.pow_succ,Nat.mul_comm (256 ^ ws.length) 256,← Nat.mul_assoc]
      exact Nat.lt_of_lt_of_le h1 (Nat.mul_le_mul_right _ (by omega))
theorem addrP_lt {s:Str} {n:Nat} (h:X2p s=some n):n < 4294967296:=by
  unfold X2p at h
  split at h
  . rename_i h4
    have:=Xkd _ _ _ h
    rw [h4] at this
    simpa using this
  . cases h
theorem aB2 (a b:Int):Xn Q5 [(0,1),(1,1)] [(0,.int .u32 a),(1,I b)]=some (pfx a b):=Eq.trans rfl rfl
theorem aB0:Xn Q5 [(0,1),(1,1)] []=some (pfx 0 0):=Eq.trans rfl rfl
theorem zPre:Q5=[.int .u32 0,I 0]:=rfl
theorem Xfr (a b:Int):(pfx a b).cells.toList=[.int .u32 a,I b]:=rfl
theorem c_addrPrefix (s:Str) (hs:s.length ≤ 4194304) (d:Nat) (m:Mem):TA (d + 5) Q4f [sv s] m=some (Xlb (prefP s),m):=by
  rw [X8m]
  -- the result's variable
  let m0:=(X4 m m.next).push (.cells Q5 0 0 false (some (2 * Q2 + 1)))
  have hm0:m0=(X4 m m.next).push (.cells Q5 0 0 false (some (2 * Q2 + 1))):=rfl
  have g0:m0.get m.next=some (.cells [.int .u32 0,I 0] 0 0 false (some (2 * Q2 + 1))):=Xl (X4 m m.next) _
  have F0:Fb m.next (X4 m m.next) m0:=Fb.push _ (Nat.le_refl _)
  have n0:m0.next=m.next + 1:=rfl
  have body:∃ m1,Q77 ⟨TA (d + 4),18446744073709551616⟩ (sv s) (pt m.next 0 0) m0=some (Xlb (prefP s),m1)∧Fb m.next m0 m1:=by
    have e0:Value.string ⟨#[47]⟩=sv [47]:=rfl
    obtain ⟨mE,r1,r2,_⟩:=X14 (n:=2) (tail:=[I 4]) g0 rfl (vs:=[.int .u32 0,I 0]) rfl rfl (Nat.le_refl m.next)
    unfold Q77 Qb8 Qb9 Qba Q51
    have hcut:TA (d + 4) Q2z [sv s,sv [47]] m0=_:=c_Cut s hs 47 (d + 2) m0
    simp only [e0,hcut,X5]
    unfold prefP
    cases hc:cut 47 s with
    | none =>
      refine ⟨mE,?_,r2⟩
      obtain ⟨z,n1,_⟩:=c_addrNumber [] (by simp) 32 (by omega) (d + 3) m0
      have n1:TA (d + 4) Q5b [sv [],.int .i64 32] m0=_:=n1
      simp only [ex0,ex1,ex2,X0,c_addrParse s hs d m0,X5,X1u,Bool.not_false,Xd,aB0]
      cases X2p s with
      | none=>simp only [X3u,ex0,ex1,X0,n1,X5]; exact r1
      | some a=>simp only [X3u,ex0,ex1,X0,n1,X5]; exact r1
    | some p =>
      obtain ⟨x,y⟩:=p
      have hl:=X4t hc
      obtain ⟨z,n1,n2⟩:=c_addrNumber y (by omega) 32 (by omega) (d + 3) m0
      have n1:TA (d + 4) Q5b [sv y,.int .i64 32] m0=_:=n1
      simp only [ex0,ex1,ex2,X0,c_addrParse x (by omega) d m0,X5,X1u,Bool.not_true,Xb]
      cases ha:X2p x with
      | none =>
        refine ⟨mE,?_,r2⟩
        simp only [X3u,ex0,ex1,X0,n1,X5,X1u,Q1o,Xfv,aB0]
        cases hn:num 32 y with
        | none=>simp only [Option.isSome_none,Bool.not_false,if_true]; exact r1
        | some b=>simp only [Option.isSome_some,Bool.not_true,Bool.false_eq_true,if_false]; exact r1
      | some a =>
        have ha2:=addrP_lt ha
        simp only [X3u,ex0,ex1,X0,n1,X5,X1u,Q1o,Xfv,aB0]
        cases hn:num 32 y with
        | none =>
          refine ⟨mE,?_,r2⟩
          simp only [Option.isSome_none,Bool.not_false,if_true]; exact r1
        | some b =>
          have:=n2 b hn
          subst this
          have hb:=(num_some.mp hn).2
          -- the prefix itself
          obtain ⟨m2,q1,q2,q3,q4⟩:=X1f [] m0 (some (2 * Q2 + 1)) Q5 (v:=pfx a b) (n:=2) rfl rfl rfl
          have g2:m2.get m.next=some (.cells [.int .u32 0,I 0] 0 0 false (some (2 * Q2 + 1))):=by rw [q2.get m.next (by omega) (by simp)]; exact g0
          have F2:Fb m.next m0 m2:=Fr.toFb q2 (by omega)
          have lp:X6 true 2 (pt m0.next 0 0) m2=some (pfx a b):=Xk q4 (by show 0 + 2 ≤ 2; omega) rfl
          have aB:=aB2 a b
          simp only [Option.isSome_some,Bool.not_true,Bool.false_eq_true,if_false,ne_eq,not_true_eq_false,decide_false,aB,X0,Xh,q1,Xe,lp,c_addrCheck a ha2 b (d + 2) m2,X5]
          unfold chk
          rw [if_neg (by omega),Int.toNat_natCast]
          by_cases h3:a % 2 ^ (32 - b)=0
          . rw [if_pos h3,if_pos h3]
            obtain ⟨m3,r3,r4,_⟩:=X14 (n:=2) (tail:=[I 0]) g2 rfl (vs:=[.int .u32 (a:Int),I b]) rfl rfl (Nat.le_refl m.next)
            refine ⟨m3,?_,F2.trans r4⟩
            simp only [Q1o,X0,X8]
            rw [if_neg (by simp)]
            simp only [lp,X0]
            exact r3
          . rw [if_neg h3,if_neg h3]
            obtain ⟨m3,r3,r4,_⟩:=X14 (n:=2) (tail:=[I 10]) g2 rfl (vs:=[.int .u32 0,I 0]) rfl rfl (Nat.le_refl m.next)
            refine ⟨m3,?_,F2.trans r4⟩
            simp only [Q1o,X0,X8]
            rw [if_pos (by simp)]
            exact r3
  obtain ⟨m1,k1,k2⟩:=body
  refine Xq (m1:=m1) ?_ (F0.trans k2) rfl
  unfold Q4h
  rw [Xh]
  exact k1
end Go.Ab.Sh

set_option maxRecDepth 100000
namespace Go.Ab
open Go Go.Lib
theorem Xk1 (a:UInt8) (n:Nat) (hn:n < 256):((a.toNat:Int)=(n:Int)) ↔ a=UInt8.ofNat n:=by
  constructor
  . intro h
    apply UInt8.toNat_inj.mp
    rw [UInt8.toNat_ofNat']
    omega
  . rintro rfl
    rw [UInt8.toNat_ofNat']
    omega
end Go.Ab
namespace Go.Ab.Sh
open Go Go.Ab Go.Lib
theorem Xbs (G:Gt) (c:UInt8) (s:Str) (hs:s.length ≤ 4194304) (m:Mem):∀ (rest pre:Str) (k:Nat),s=pre ++ rest→c ∉ pre→rest.length < k →
    Q3c G k (I pre.length) (sv s) (.int .u8 (c.toNat:Int)) m=some (match cut c s with | none=>.tuple ⟨[sv [],sv [],.bool false]⟩ | some (x,y)=>.tuple ⟨[sv x,sv y,.bool true]⟩,m)
  | [],pre,k,he,hp,hk=>by
    obtain ⟨k,rfl⟩:∃ j,k=j + 1:=⟨k - 1,by omega⟩
    have hl:s.length=pre.length:=by rw [he]; simp
    have hc:cut c s=none:=by rw [he,List.append_nil]; exact Xcd hp
    unfold Q3c Qbb
    simp only [X3a,X0,Qf,X8,hl,Int.lt_irrefl,if_false,hc]
    rfl
  | a :: rest,pre,k,he,hp,hk=>by
    obtain ⟨k,rfl⟩:∃ j,k=j + 1:=⟨k - 1,by omega⟩
    have hl:s.length=pre.length + (rest.length + 1):=by rw [he]; simp
    have hlt:(pre.length:Int) < s.length:=by omega
    have hix:s[pre.length]'(by omega)=a:=by simp [he]
    have w1:IntKind.i64.wrap ((pre.length:Int) + 1)=((pre.length + 1:Nat):Int):=by rw [IntWalk.i64_in _ (by omega)]; omega
    unfold Q3c
    simp only [X3a,X0,Qf,X8,if_pos hlt,X76 s .i64 pre.length (by omega),hix,Qp]
    by_cases hc:a=c
    . subst hc
      have hcut:cut a s=some (pre,rest):=by rw [he]; exact X3r rest hp
      obtain ⟨q1,q2,q3⟩:=X8n hcut
      simp only [if_true,X8e s pre.length (by omega),q1,X0,Qz,w1,X3e s (pre.length + 1) q3,q2,hcut]
    . have hne:¬ ((a.toNat:Int)=(c.toNat:Int)):=fun h=>hc (by apply UInt8.toNat_inj.mp; omega)
      rw [if_neg hne]
      simp only [Qz,w1,X0]
      have:=Xbs G c s hs m rest (pre ++ [a]) k (by rw [he]; simp) (by simp only [List.mem_append,List.mem_cons,List.not_mem_nil,or_false,not_or]; exact ⟨hp,fun e=>hc e.symm⟩) (by simp at hk; omega)
      rw [List.length_append,List.length_cons,List.length_nil] at this
      exact this
theorem c_refCut (c:UInt8) (s:Str) (hs:s.length ≤ 4194304) (d:Nat) (m:Mem):TA (d + 1) Q17 [sv s,.int .u8 (c.toNat:Int)] m=some (match cut c s with | none=>.tuple ⟨[sv [],sv [],.bool false]⟩ | some (x,y)=>.tuple ⟨[sv x,sv y,.bool true]⟩,m):=by
  rw [X92]
  refine Xq (m1:=X4 m m.next) ?_ (.refl _ _) (by cases cut c s <;> rfl)
  unfold Q4i Qbc Qbd
  exact Xbs ⟨TA d,18446744073709551616⟩ c s hs (X4 m m.next) s [] 18446744073709551616 rfl (by simp) (by omega)
theorem Xa9 (d:Nat) (s:Str) (hs:s.length ≤ 4194304) (b B:Nat) (hB:B ≤ b) (m:Mem) (hb:b < m.next) (g0:m.get b=some (.cells [.int .u32 0,I 0] 0 0 false (some (2 * Q2 + 1)))):∀ (rest pre:Str) (k:Nat),s=pre ++ rest→47 ∉ pre→rest.length < k →
    ∃ m1,Qr ⟨TA (d + 4),18446744073709551616⟩ k (I pre.length) (sv s) (pt b 0 0) m=some (Xlb (prefP s),m1)∧Fb B m m1
  | [],pre,k,he,hp,hk=>by
    obtain ⟨k,rfl⟩:∃ j,k=j + 1:=⟨k - 1,by omega⟩
    have hl:s.length=pre.length:=by rw [he]; simp
    have hc:cut 47 s=none:=by rw [he,List.append_nil]; exact Xcd hp
    obtain ⟨mE,r1,r2,_⟩:=X14 (n:=2) (tail:=[I 4]) g0 rfl (vs:=[.int .u32 0,I 0]) rfl rfl hB
    refine ⟨mE,?_,r2⟩
    unfold Qr Q5m prefP
    simp only [X3a,X0,Qf,X8,hl,Int.lt_irrefl,if_false,hc,aB0]
    exact r1
  | a :: rest,pre,k,he,hp,hk=>by
    obtain ⟨k,rfl⟩:∃ j,k=j + 1:=⟨k - 1,by omega⟩
    have hl:s.length=pre.length + (rest.length + 1):=by rw [he]; simp
    have hlt:(pre.length:Int) < s.length:=by omega
    have hix:s[pre.length]'(by omega)=a:=by simp [he]
    have w1:IntKind.i64.wrap ((pre.length:Int) + 1)=((pre.length + 1:Nat):Int):=by rw [IntWalk.i64_in _ (by omega)]; omega
    unfold Qr Q5n Q5o Q5p Q5q Q3d
    simp only [X3a,X0,Qf,X8,if_pos hlt,X76 s .i64 pre.length (by omega),hix,Qp]
    by_cases hc:a=47
    . subst hc
      have e47:(((47:UInt8).toNat:Int)=47):=rfl
      have hcut:cut 47 s=some (pre,rest):=by rw [he]; exact X3r rest hp
      obtain ⟨q1,q2,q3⟩:=X8n hcut
      obtain ⟨mE,r1,r2,_⟩:=X14 (n:=2) (tail:=[I 4]) g0 rfl (vs:=[.int .u32 0,I 0]) rfl rfl hB
      have hread:TA (d + 4) Q6 [sv rest,.int .i64 32] m=_:=c_Read rest (by omega) 32 (by omega) (d + 3) m
      have haddr:TA (d + 4) Q10 [sv pre] m=_:=c_refAddr pre (by omega) (d + 2) m
      unfold prefP
      rw [if_pos e47]
      simp only [X8e s pre.length (by omega),q1,X0,haddr,X5,Qz,w1,X3e s (pre.length + 1) q3,q2,hread,hcut]
      cases ha:X2p pre with
      | none =>
        refine ⟨mE,?_,r2⟩
        simp only [X3u,ex0,ex1,X0,Qz,w1,X3e s (pre.length + 1) q3,q2,hread,X5,Q1o,X8,Xd,aB0]
        exact r1
      | some x =>
        have hx:=addrP_lt ha
        simp only [X3u,ex0,ex1,X0,Qz,w1,X3e s (pre.length + 1) q3,q2,hread,X5,Q1o,X8,Xd,aB0]
        cases hn:num 32 rest with
        | none =>
          refine ⟨mE,?_,r2⟩
          simp only [optI,I,Qf,X0,X8]
          exact r1
        | some y =>
          have hy:=(num_some.mp hn).2
          obtain ⟨m2,k1,k2,k3,k4⟩:=X1f [] m (some (2 * Q2 + 1)) Q5 (v:=pfx x y) (n:=2) rfl rfl rfl
          have g2:m2.get b=some (.cells [.int .u32 0,I 0] 0 0 false (some (2 * Q2 + 1))):=by rw [k2.get b hb (by simp)]; exact g0
          have F2:Fb B m m2:=Fr.toFb k2 (by omega)
          have lp:X6 true 2 (pt m.next 0 0) m2=some (pfx x y):=Xk k4 (by show 0 + 2 ≤ 2; omega) rfl
          have h0:¬ ((y:Int) < 0):=by omega
          have aB:=aB2 x y
          have hchk:TA (d + 4) Q4w [pfx (x:Int) (y:Int)] m2=_:=c_refCheck x hx y (d + 2) m2
          simp only [optI,I,Qf,X0,X8,if_neg h0,ne_eq,not_true_eq_false,if_false,aB,Xh,k1,Xe,lp,hchk,X5]
          unfold chk
          rw [if_neg (by omega),Int.toNat_natCast]
          by_cases h3:x % 2 ^ (32 - y)=0
          . rw [if_pos h3,if_pos h3]
            obtain ⟨m3,r3,r4,_⟩:=X14 (n:=2) (tail:=[I 0]) g2 rfl (vs:=[.int .u32 (x:Int),I y]) rfl rfl hB
            refine ⟨m3,?_,F2.trans r4⟩
            simp only [Q1o,X0,X8]
            rw [if_neg (by simp)]
            simp only [lp,X0]
            exact r3
          . rw [if_neg h3,if_neg h3]
            obtain ⟨m3,r3,r4,_⟩:=X14 (n:=2) (tail:=[I 10]) g2 rfl (vs:=[.int .u32 0,I 0]) rfl rfl hB
            refine ⟨m3,?_,F2.trans r4⟩
            simp only [Q1o,X0,X8]
            rw [if_pos (by simp)]
            exact r3
    . have hne:¬ ((a.toNat:Int)=47):=fun h=>hc ((Xk1 a 47 (by omega)).mp h)
      rw [if_neg hne]
      simp only [Qz,w1,X0]
      obtain ⟨m1,q1,q2⟩:=Xa9 d s hs b B hB m hb g0 rest (pre ++ [a]) k (by rw [he]; simp) (by simp only [List.mem_append,List.mem_cons,List.not_mem_nil,or_false,not_or]; exact ⟨hp,fun e=>hc e.symm⟩) (by simp at hk; omega)
      rw [List.length_append,List.length_cons,List.length_nil] at q1
      exact ⟨m1,q1,q2⟩
theorem c_refPrefix (s:Str) (hs:s.length ≤ 4194304) (d:Nat) (m:Mem):TA (d + 5) Q2c [sv s] m=some (Xlb (prefP s),m):=by
  rw [X3x]
  obtain ⟨m1,k1,k2⟩:=Xa9 d s hs m.next m.next (Nat.le_refl _) ((X4 m m.next).push (.cells Q5 0 0 false (some (2 * Q2 + 1)))) (by show m.next < m.next + 1; omega) (Xl (X4 m m.next) _) s [] 18446744073709551616 rfl (by simp) (by omega)
  refine Xq (m1:=m1) ?_ ((Fb.push (m:=X4 m m.next) _ (Nat.le_refl _)).trans k2) rfl
  unfold Q1j Q5r Q5s
  rw [Xh]
  exact k1
theorem itoa_len (z:Int) (h:X5j z=true):(itoa z).length ≤ 21:=by
  obtain ⟨h1,h2⟩:=X8v h
  unfold itoa
  split
  . have:=X1l z.natAbs (by omega); simp; omega
  . have:=X1l z.toNat (by omega); omega
theorem Xc1 (a:Nat) (ha:a < 4294967296):(X1j a).length ≤ 83:=by
  have l1:=X1l (a / 16777216) (by omega)
  have l2:=X1l (a / 65536 % 256) (by omega)
  have l3:=X1l (a / 256 % 256) (by omega)
  have l4:=X1l (a % 256) (by omega)
  simp only [List.length_append,List.length_cons,List.length_nil]
  omega
def X1c (a:Nat) (b:Int):Str:=X1j a ++ [47] ++ itoa b
theorem c_refPrefixText (a:Nat) (ha:a < 4294967296) (b:Int) (hb:X5j b=true) (d:Nat) (m:Mem):TA (d + 4) Q16 [pfx a b] m=some (sv (X1c a b),m):=by
  rw [X4c]
  refine Xq (m1:=(X4 m m.next).push (.cells [.int .u32 (a:Int),I b] 0 0 false (some (2 * Q2 + 1)))) ?_ (Fb.push _ (Nat.le_refl _)) rfl
  have l0:=X10 (m:=X4 m m.next) (cs:=[.int .u32 (a:Int),I b]) (ty:=some (2 * Q2 + 1)) (o:=0 + 0) rfl
  have l1:=X10 (m:=X4 m m.next) (cs:=[.int .u32 (a:Int),I b]) (ty:=some (2 * Q2 + 1)) (o:=0 + 1) rfl
  have e0:Value.string ⟨#[47]⟩=sv [47]:=rfl
  have h1:=Xc1 a ha
  have h2:=itoa_len b hb
  have c1:=c_refText a ha d
  have c2:=c_Number b hb (d + 1)
  unfold Q1p
  rw [Xfr,Xh]
  have c1:∀ m,TA (d + 3) Qx [.int .u32 (a:Int)] m=some (sv (X1j a),m):=c1
  have c2:∀ m,TA (d + 3) Q1 [I b] m=some (sv (itoa b),m):=c2
  generalize haT:X1j a=T at *
  simp only [Xg,X0,l0,l1,c1,X5,X1s,Bool.and_true,X18,e0,Qg _ _ T [47] (by simp; omega),c2,Qg _ _ (T ++ [47]) (itoa b) (by simp; omega)]
  unfold X1c
  rw [haT]
end Go.Ab.Sh

set_option maxRecDepth 100000
set_option linter.unusedSimpArgs false
namespace Go.Ab
open Go Go.Lib
def Xw (sep:Str) (ws:List Str):Str:=sep.intercalate ws
theorem Xfm:∀ (ws:List Str),strsOf (ws.map sv)=some (ws.map fun w=>⟨⟨w⟩⟩)
  | []=>rfl
  | w :: ws=>by
    show (match strsOf (ws.map sv) with | some l=>some (_ :: l) | none=>none)=_
    rw [Xfm ws]; rfl
theorem Xoo {m:Mem} {b o r:Nat} {c:List Value} {fro:Nat} {ro:Bool} {ty:Option Nat} {ws:List Str} (h3:m.get b=some (.cells c (r / 2) fro ro ty)) (h4:o + ws.length ≤ c.length) (h5:∀ (i:Nat) (w:Str),ws[i]?=some w→c[o + i]?=some (sv w)) :
    getCells m ⟨b,o,some (r / 2)⟩ ws.length=some (ws.map sv):=by
  have:(c.drop o).take ws.length=ws.map sv:=by
    apply List.ext_getElem?
    intro i
    rw [List.getElem?_take,List.getElem?_drop,List.getElem?_map]
    by_cases hi:i < ws.length
    . rw [if_pos hi]
      have hw:ws[i]?=some ws[i]:=List.getElem?_eq_getElem hi
      rw [h5 i ws[i] hw,hw]; rfl
    . rw [if_neg hi,List.getElem?_eq_none (by omega)]; rfl
  simp [Xt,X13,h3,h4,this]
theorem Xsd (c g:Bool) (a k:Nat) (ha:a < 4294967296) (hk:k ≤ 32):bin .shr c g .int (.int .u32 (a:Int)) (I k)=some (.int .u32 ((a / 2 ^ k:Nat):Int)):=by
  rw [X1n]
  show (if ((k:Nat):Int) < 0 then none else some (Value.int .u32 ((a:Int).fdiv (2 ^ (min ((k:Nat):Int).toNat 32)))))=_
  rw [if_neg (by omega),Int.toNat_natCast,Nat.min_eq_left hk]
  have e:((2:Int) ^ k)=((2 ^ k:Nat):Int):=by rw [Int.natCast_pow]; rfl
  rw [e,Int.fdiv_eq_ediv_of_nonneg _ (Int.natCast_nonneg _),← Int.natCast_ediv]
end Go.Ab
namespace Go.Ab.Sh
open Go Go.Ab Go.Lib
theorem c_Join (v:Value) (ws:List Str) (sep:Str) (m:Mem) (h:SL m v ws) (hn:ws.length ≤ 140737488355328) (hl:(Xw sep ws).length ≤ 140737488355328) (d:Nat):TA d Q31 [v,sv sep] m=some (sv (Xw sep ws),m):=by
  refine Xgy (o:=Qk6) (by kernel_rfl) ?_ d
  obtain ⟨b,o,r,c,fro,ro,ty,rfl,h2,h3,h4,h5⟩:=h
  show (if Q31=Q31 then (match getCells m ⟨b,o,some (r / 2)⟩ ws.length with
      | some cs=>(match strsOf cs with
        | some l=>(match Nat.ble ws.length 140737488355328 && Nat.ble (Xdi l ⟨⟨sep⟩⟩).length 140737488355328 with
          | true=>some (Value.string ⟨(Xdi l ⟨⟨sep⟩⟩).toArray⟩,m)
          | false=>none)
        | none=>none)
      | none=>none) else none)=_
  rw [if_pos rfl,Xoo h3 h4 h5]
  simp only [Xfm]
  have e:Xdi (ws.map fun w=>(⟨⟨w⟩⟩:ByteArray)) ⟨⟨sep⟩⟩=Xw sep ws:=by
    unfold Xdi Xw Lib.join
    rw [List.map_map]
    congr 1
    have:((fun x:ByteArray=>x.data.toList) ∘ fun w:Str=>(⟨⟨w⟩⟩:ByteArray))=id:=rfl
    rw [this,List.map_id]
  rw [e,Nat.ble_eq.mpr hn,Nat.ble_eq.mpr hl]
  rfl
theorem Xr2 (b:Nat) (i:Nat) (h:i < 4):X2m 4 1 (pt b 0 0) (I i)=some (pt b i 0):=by
  show (if (0:Int) ≤ (i:Int) && (i:Int) < (4:Nat) then some (Value.pointer (some ⟨b,0 + (i:Int).toNat * 1,some 0⟩)) else none)=_
  have h1:(decide ((0:Int) ≤ (i:Int)) && decide ((i:Int) < (4:Nat)))=true:=by simp; omega
  rw [if_pos h1]
  simp
def part (a i:Nat):Nat:=a / 2 ^ (24 - 8 * i) % 256
theorem Xcb (a i:Nat):part a i < 256:=Nat.mod_lt _ (by omega)
theorem X8l (d:Nat) (a:Nat) (ha:a < 4294967296) (b:Nat) (ty:Option Nat):∀ (k i:Nat) (cs:List Value) (m:Mem) (j:Nat),i + k=4→k < j→cs.length=4→m.get b=some (.cells cs 0 0 false ty)→b < m.next→(∀ t,t < i→cs[t]?=some (sv (decDigits (part a t)))) →
    ∃ m1,Q8d ⟨TA d,18446744073709551616⟩ j (I i) (.int .u32 (a:Int)) (pt b 0 0) m=some (sv (X1j a),m1)∧Fr [b] m m1
  | 0,i,cs,m,j,hi,hj,hl,hb,hbn,hc=>by
    obtain ⟨j,rfl⟩:∃ q,j=q + 1:=⟨j - 1,by omega⟩
    have h4:i=4:=by omega
    subst h4
    refine ⟨m,?_,.refl _ _⟩
    have hsl:SL m (.slice (some ⟨b,0 + 0 * 1,some 1⟩) 4 1) [decDigits (part a 0),decDigits (part a 1),decDigits (part a 2),decDigits (part a 3)]:=by
      refine ⟨b,0,1,cs,0,false,ty,rfl,hbn,hb,by simp; omega,fun t w hw=>?_⟩
      rw [Nat.zero_add]
      match t,hw with
      | 0,hw=>cases hw; exact hc 0 (by omega)
      | 1,hw=>cases hw; exact hc 1 (by omega)
      | 2,hw=>cases hw; exact hc 2 (by omega)
      | 3,hw=>cases hw; exact hc 3 (by omega)
    have hs:X32 4 1 (pt b 0 0) none none m=some (.slice (some ⟨b,0 + 0 * 1,some 1⟩) 4 1):=by
      have hg:getCells m ⟨b,0,some 0⟩ (4 * 1)=some ((cs.drop 0).take (4 * 1)):=by
        simp [Xt,X13,hb,hl]
      show (match getCells m ⟨b,0,some 0⟩ (4 * 1) with
        | none=>none
        | some _=>match bound none 4 4 with
          | some h=>match bound none 0 h with
            | some l=>if Nat.ble 1 1 then some (Value.slice (some ⟨b,0 + l * 1,some 1⟩) (h - l) (if h=4 then 2 * 0 + 1 else 2 * 0)) else none
            | none=>none
          | none=>none)=_
      rw [hg]
      rfl
    have l0:=X1l (part a 0) (by have:=Xcb a 0; omega)
    have l1:=X1l (part a 1) (by have:=Xcb a 1; omega)
    have l2:=X1l (part a 2) (by have:=Xcb a 2; omega)
    have l3:=X1l (part a 3) (by have:=Xcb a 3; omega)
    have hj2:Xw [46] [decDigits (part a 0),decDigits (part a 1),decDigits (part a 2),decDigits (part a 3)]=X1j a:=by
      have p0:part a 0=a / 16777216:=by show a / 2 ^ 24 % 256=_; rw [show (2:Nat) ^ 24=16777216 from rfl]; omega
      have p1:part a 1=a / 65536 % 256:=rfl
      have p2:part a 2=a / 256 % 256:=rfl
      have p3:part a 3=a % 256:=by show a / 2 ^ 0 % 256=_; rw [Nat.pow_zero,Nat.div_one]
      rw [p0,p1,p2,p3]
      simp [Xw,List.intercalate,List.intersperse]
    have hlen:=Xc1 a ha
    have cj:=c_Join _ _ [46] m hsl (by simp) (by rw [hj2]; omega) d
    have e0:Value.string ⟨#[46]⟩=sv [46]:=rfl
    unfold Q8d Qfq
    simp only [Qf,X0,X8]
    rw [if_neg (by omega)]
    simp only [hs,X0,e0,cj,X5,hj2]
  | k + 1,i,cs,m,j,hi,hj,hl,hb,hbn,hc=>by
    obtain ⟨j,rfl⟩:∃ q,j=q + 1:=⟨j - 1,by omega⟩
    have w1:IntKind.i64.wrap (8 * (i:Int))=((8 * i:Nat):Int):=by rw [IntWalk.i64_in _ (by omega)]; omega
    have w2:IntKind.i64.wrap (24 - ((8 * i:Nat):Int))=((24 - 8 * i:Nat):Int):=by rw [IntWalk.i64_in _ (by omega)]; omega
    have w3:IntKind.i64.wrap ((i:Int) + 1)=((i + 1:Nat):Int):=by rw [IntWalk.i64_in _ (by omega)]; omega
    have hp:=Xcb a i
    have w4:IntKind.i64.wrap ((part a i:Nat):Int)=((part a i:Nat):Int):=by rw [IntWalk.i64_in _ (by omega)]
    have hdiv:a / 2 ^ (24 - 8 * i) < 4294967296:=Nat.lt_of_le_of_lt (Nat.div_le_self _ _) ha
    have had:=Xmc true true (a / 2 ^ (24 - 8 * i)) 8 hdiv (by omega)
    have had:bin .and true true .int (.int .u32 ((a / 2 ^ (24 - 8 * i):Nat):Int)) (.int .u32 255)=some (.int .u32 ((part a i:Nat):Int)):=had
    obtain ⟨m',k1,k2⟩:=X3g (o:=i) (n:=1) (v:=sv (decDigits (part a i))) hb rfl (Nat.zero_le _) (by omega) rfl rfl
    have hb':m'.get b=some (.cells (cs.take i ++ [sv (decDigits (part a i))] ++ cs.drop (i + 1)) 0 0 false ty):=by
      rw [k2.get,Mem.get_put,if_pos rfl]; rfl
    have hn':m'.next=m.next:=by rw [k2.next,Mem.next_put]
    obtain ⟨m1,q1,q2⟩:=X8l d a ha b ty k (i + 1) (cs.take i ++ [sv (decDigits (part a i))] ++ cs.drop (i + 1)) m' j (by omega) (by omega) (by simp; omega) hb' (by omega) (by
      intro t ht
      have h1:(cs.take i).length=i:=by rw [List.length_take]; omega
      by_cases hti:t < i
      . rw [List.append_assoc,List.getElem?_append_left (by omega),List.getElem?_take_of_lt hti]
        exact hc t hti
      . have:t=i:=by omega
        subst this
        rw [List.append_assoc,List.getElem?_append_right (by omega),h1,Nat.sub_self]
        rfl)
    refine ⟨m1,?_,(((Fr.refl _ _).put _ (.inl (by simp))).meq k2).trans q2⟩
    unfold Q8d
    simp only [Qf,X0,X8]
    rw [if_pos (by omega)]
    simp only [Qik,w1,X0,Q9t,w2,Xsd _ _ a (24 - 8 * i) ha (by omega),had,c_int,w4,X5,c_ItoaN (part a i) (by omega),Xr2 b i (by omega),k1,Xe,Qz,w3]
    exact q1
theorem c_addrText (a:Nat) (ha:a < 4294967296) (d:Nat) (m:Mem):TA (d + 1) Q5v [.int .u32 (a:Int)] m=some (sv (X1j a),m):=by
  rw [Xi2]
  obtain ⟨m1,k1,k2⟩:=X8l d a ha m.next (some (2 * Qgy + 1)) 4 0 Qgz ((X4 m m.next).push (.cells Qgz 0 0 false (some (2 * Qgy + 1)))) 18446744073709551616 (by omega) (by omega) rfl (Xl (X4 m m.next) _) (by show m.next < m.next + 1; omega) (by intro t ht; omega)
  have hF:Fr [] (X4 m m.next) m1:=by
    have h1:Fr [m.next] (X4 m m.next) m1:=((Fr.push (W:=[m.next]) _)).trans k2
    refine ⟨h1.next,h1.low,fun x a b _=>h1.low2 x a b (by intro w hw; simp at hw; subst hw; exact b),fun b hb _=>h1.get b hb (by simp; intro e; subst e; exact absurd hb (Nat.lt_irrefl _)),h1.lo⟩
  refine X2v (m1:=m1) ?_ hF rfl
  unfold Qbr Qfr Qfs Qft
  rw [Xh]
  exact k1
theorem c_addrPrefixText (a:Nat) (ha:a < 4294967296) (b:Int) (hb:X5j b=true) (d:Nat) (m:Mem):TA (d + 2) Q3n [pfx a b] m=some (sv (X1c a b),m):=by
  rw [X9b]
  refine Xq (m1:=(X4 m m.next).push (.cells [.int .u32 (a:Int),I b] 0 0 false (some (2 * Q2 + 1)))) ?_ (Fb.push _ (Nat.le_refl _)) rfl
  have l0:=X10 (m:=X4 m m.next) (cs:=[.int .u32 (a:Int),I b]) (ty:=some (2 * Q2 + 1)) (o:=0 + 0) rfl
  have l1:=X10 (m:=X4 m m.next) (cs:=[.int .u32 (a:Int),I b]) (ty:=some (2 * Q2 + 1)) (o:=0 + 1) rfl
  have e0:Value.string ⟨#[47]⟩=sv [47]:=rfl
  have h1:=Xc1 a ha
  have h2:=itoa_len b hb
  unfold Q57
  rw [Xfr,Xh]
  have c1:∀ m,TA (d + 1) Q5v [.int .u32 (a:Int)] m=some (sv (X1j a),m):=c_addrText a ha d
  have c2:∀ m,TA (d + 1) Qi [I b] m=some (sv (itoa b),m):=fun m=>c_Itoa b hb (d + 1) m
  generalize haT:X1j a=T at *
  simp only [Xg,X0,l0,l1,c1,X5,X1s,Bool.and_true,X18,e0,Qg _ _ T [47] (by simp; omega),c2,Qg _ _ (T ++ [47]) (itoa b) (by simp; omega)]
  unfold X1c
  rw [haT]
end Go.Ab.Sh

set_option maxRecDepth 100000
set_option linter.unusedSimpArgs false
set_option linter.unusedVariables false
namespace Go.Ab
open Go Go.Lib
abbrev hdr (a b p m n:Nat):Value:=.agg ⟨[.int .u32 (a:Int),.int .u32 (b:Int),.int .u8 (p:Int),.int .u16 (m:Int),.int .u16 (n:Int)]⟩
def endT (a m:Nat):Str:=X1j a ++ [58] ++ decDigits m
def X2j (a b p m n:Nat):Str:=endT a m ++ [32] ++ endT b n ++ [32] ++ decDigits p
structure HB (a b p m n:Nat):Prop where
  a:a < 4294967296
  b:b < 4294967296
  p:p ≤ 255
  m:m ≤ 65535
  n:n ≤ 65535
theorem X2e (a:Nat) (ha:a < 4294967296):(X1j a).length ≤ 83:=by
  have l1:=X1l (a / 16777216) (by omega)
  have l2:=X1l (a / 65536 % 256) (by omega)
  have l3:=X1l (a / 256 % 256) (by omega)
  have l4:=X1l (a % 256) (by omega)
  simp only [List.length_append,List.length_cons,List.length_nil]
  omega
theorem Xak (a m:Nat) (ha:a < 4294967296) (hm:m ≤ 65535):(endT a m).length ≤ 110:=by
  have l1:=X2e a ha
  have l2:=X1l m (by omega)
  unfold endT
  simp only [List.length_append,List.length_cons,List.length_nil] at l1 ⊢
  omega
theorem Xbh {a b p m n:Nat} (h:HB a b p m n):(X2j a b p m n).length ≤ 300:=by
  have l1:=Xak a m h.a h.m
  have l2:=Xak b n h.b h.n
  have l3:=X1l p (by have:=h.p; omega)
  unfold X2j
  simp only [List.length_append,List.length_cons,List.length_nil]
  omega
end Go.Ab
namespace Go.Ab.Sh
open Go Go.Ab Go.Lib
theorem Xte (a b p m n:Nat):(hdr a b p m n).cells.toList=[.int .u32 (a:Int),.int .u32 (b:Int),.int .u8 (p:Int),.int .u16 (m:Int),.int .u16 (n:Int)]:=rfl
theorem c_endText (a m:Nat) (ha:a < 4294967296) (hm:m ≤ 65535) (d:Nat) (mm:Mem):TA (d + 2) Q4t [.int .u32 (a:Int),.int .u16 (m:Int)] mm=some (sv (endT a m),mm):=by
  rw [Xbl]
  refine Xq (m1:=X4 mm mm.next) ?_ (.refl _ _) rfl
  have e0:Value.string ⟨#[58]⟩=sv [58]:=rfl
  have h1:=X2e a ha
  have h2:=X1l m (by omega)
  have c1:∀ m,TA (d + 1) Q5v [.int .u32 (a:Int)] m=some (sv (X1j a),m):=c_addrText a ha d
  have c2:∀ mm,TA (d + 1) Qi [I m] mm=some (sv (decDigits m),mm):=fun mm=>c_ItoaN m (by omega) (d + 1) mm
  unfold Q6i endT
  generalize X1j a=T at *
  simp only [c1,X5,e0,Qg _ _ T [58] (by simp; omega),X0,c_int,IntWalk.i64_in (m:Int) (by omega),c2,Qg _ _ (T ++ [58]) (decDigits m) (by simp; omega)]
theorem c_headerText {a b p m n:Nat} (h:HB a b p m n) (d:Nat) (mm:Mem):TA (d + 3) Q6v [hdr a b p m n] mm=some (sv (X2j a b p m n),mm):=by
  rw [Xee]
  have hp:=h.p
  refine Xq (m1:=(X4 mm mm.next).push (.cells (hdr a b p m n).cells.toList 0 0 false (some (2 * Q3 + 1)))) ?_ (Fb.push _ (Nat.le_refl _)) rfl
  have l0:=X10 (m:=X4 mm mm.next) (cs:=(hdr a b p m n).cells.toList) (ty:=some (2 * Q3 + 1)) (o:=0 + 0) rfl
  have l1:=X10 (m:=X4 mm mm.next) (cs:=(hdr a b p m n).cells.toList) (ty:=some (2 * Q3 + 1)) (o:=0 + 1) rfl
  have l2:=X10 (m:=X4 mm mm.next) (cs:=(hdr a b p m n).cells.toList) (ty:=some (2 * Q3 + 1)) (o:=0 + 2) rfl
  have l3:=X10 (m:=X4 mm mm.next) (cs:=(hdr a b p m n).cells.toList) (ty:=some (2 * Q3 + 1)) (o:=0 + 3) rfl
  have l4:=X10 (m:=X4 mm mm.next) (cs:=(hdr a b p m n).cells.toList) (ty:=some (2 * Q3 + 1)) (o:=0 + 4) rfl
  have e0:Value.string ⟨#[32]⟩=sv [32]:=rfl
  have c1:∀ m1,Xi (TA (d + 2)) (.func (.func Q4t) #[] #[]) [.int .u32 (a:Int),.int .u16 (m:Int)] m1=some (sv (endT a m),m1):=fun m1=>c_endText a m h.a h.m d m1
  have c2:∀ m1,Xi (TA (d + 2)) (.func (.func Q4t) #[] #[]) [.int .u32 (b:Int),.int .u16 (n:Int)] m1=some (sv (endT b n),m1):=fun m1=>c_endText b n h.b h.n d m1
  have c3:∀ mm,TA (d + 2) Qi [I p] mm=some (sv (decDigits p),mm):=fun mm=>c_ItoaN p (by omega) (d + 2) mm
  have q1:=Xak a m h.a h.m
  have q2:=Xak b n h.b h.n
  have q3:=X1l p (by omega)
  unfold Q8b X2j
  rw [Xh]
  generalize endT a m=X at *
  generalize endT b n=Y at *
  simp only [Xg,X0,l0,l1,l2,l3,l4,c_int,IntWalk.i64_in (p:Int) (by omega),X5,c1,X1s,Bool.and_true,X18,e0,Qg _ _ X [32] (by simp; omega),c2,Qg _ _ (X ++ [32]) Y (by simp; omega),Qg _ _ (X ++ [32] ++ Y) [32] (by simp; omega),c3,Qg _ _ (X ++ [32] ++ Y ++ [32]) (decDigits p) (by simp; omega)]
theorem c_refHeadText {a b p m n:Nat} (h:HB a b p m n) (d:Nat) (mm:Mem):TA (d + 4) Q5i [hdr a b p m n] mm=some (sv (X2j a b p m n),mm):=by
  rw [X7j]
  have hp:=h.p
  have hm:=h.m
  have hn:=h.n
  refine Xq (m1:=(X4 mm mm.next).push (.cells (hdr a b p m n).cells.toList 0 0 false (some (2 * Q3 + 1)))) ?_ (Fb.push _ (Nat.le_refl _)) rfl
  have l0:=X10 (m:=X4 mm mm.next) (cs:=(hdr a b p m n).cells.toList) (ty:=some (2 * Q3 + 1)) (o:=0 + 0) rfl
  have l1:=X10 (m:=X4 mm mm.next) (cs:=(hdr a b p m n).cells.toList) (ty:=some (2 * Q3 + 1)) (o:=0 + 1) rfl
  have l2:=X10 (m:=X4 mm mm.next) (cs:=(hdr a b p m n).cells.toList) (ty:=some (2 * Q3 + 1)) (o:=0 + 2) rfl
  have l3:=X10 (m:=X4 mm mm.next) (cs:=(hdr a b p m n).cells.toList) (ty:=some (2 * Q3 + 1)) (o:=0 + 3) rfl
  have l4:=X10 (m:=X4 mm mm.next) (cs:=(hdr a b p m n).cells.toList) (ty:=some (2 * Q3 + 1)) (o:=0 + 4) rfl
  have e0:Value.string ⟨#[32]⟩=sv [32]:=rfl
  have e1:Value.string ⟨#[58]⟩=sv [58]:=rfl
  have c1:∀ m1,TA (d + 3) Qx [.int .u32 (a:Int)] m1=some (sv (X1j a),m1):=c_refText a h.a d
  have c2:∀ m1,TA (d + 3) Qx [.int .u32 (b:Int)] m1=some (sv (X1j b),m1):=c_refText b h.b d
  have c3:∀ mm,TA (d + 3) Q1 [I p] mm=some (sv (decDigits p),mm):=fun mm=>c_NumberN p (by omega) (d + 1) mm
  have c4:∀ mm,TA (d + 3) Q1 [I m] mm=some (sv (decDigits m),mm):=fun mm=>c_NumberN m (by omega) (d + 1) mm
  have c5:∀ mm,TA (d + 3) Q1 [I n] mm=some (sv (decDigits n),mm):=fun mm=>c_NumberN n (by omega) (d + 1) mm
  have q1:=X2e a h.a
  have q2:=X2e b h.b
  have q3:=X1l p (by omega)
  have q4:=X1l m (by omega)
  have q5:=X1l n (by omega)
  unfold Q3u X2j endT
  rw [Xh]
  generalize X1j a=X at *
  generalize X1j b=Y at *
  generalize decDigits p=P at *
  generalize decDigits m=M at *
  generalize decDigits n=N at *
  simp only [Xg,X0,l0,l1,l2,l3,l4,c_int,IntWalk.i64_in (p:Int) (by omega),IntWalk.i64_in (m:Int) (by omega),IntWalk.i64_in (n:Int) (by omega),X5,c1,X1s,Bool.and_true,X18,e0,e1,Qg _ _ X [58] (by simp; omega),c4,Qg _ _ (X ++ [58]) M (by simp; omega),Qg _ _ (X ++ [58] ++ M) [32] (by simp; omega),c2,
    Qg _ _ (X ++ [58] ++ M ++ [32]) Y (by simp; omega),Qg _ _ (X ++ [58] ++ M ++ [32] ++ Y) [58] (by simp; omega),c5,Qg _ _ (X ++ [58] ++ M ++ [32] ++ Y ++ [58]) N (by simp; omega),Qg _ _ (X ++ [58] ++ M ++ [32] ++ Y ++ [58] ++ N) [32] (by simp; omega),c3,
    Qg _ _ (X ++ [58] ++ M ++ [32] ++ Y ++ [58] ++ N ++ [32]) P (by simp; omega)]
  simp [List.append_assoc]
end Go.Ab.Sh

set_option maxRecDepth 100000
set_option linter.unusedSimpArgs false
set_option linter.unusedVariables false
namespace Go.Ab
open Go Go.Lib
theorem Xqn:∀ (l:Str) (M acc u:Nat),parseUintM M acc l=.ok u→acc ≤ M→u ≤ M
  | [],M,acc,u,h,ha=>by cases h; exact ha
  | c :: r,M,acc,u,h,ha=>by
    unfold parseUintM at h
    split at h
    . split at h
      . cases h
      . split at h
        . cases h
        . exact Xqn r M _ u h (by omega)
    . cases h
theorem Xng {B:Nat} {l:Str} {u:Nat} (h:parseUintB B l=.ok u):u ≤ 2 ^ B - 1:=by
  unfold parseUintB at h
  split at h
  . cases h
  . exact Xqn l _ 0 u h (Nat.zero_le _)
theorem Xod:∀ (l:Str) (M acc:Nat),l.all isD=true→val acc l ≤ M→M < 1844674407370955162→parseUintM M acc l=.ok (val acc l)
  | [],M,acc,_,_,_=>rfl
  | c :: r,M,acc,h,hv,hM=>by
    simp only [List.all_cons,Bool.and_eq_true] at h
    have hc:=Xgb h.1
    have h1:=Sh.val_mono r (acc * 10 + (c.toNat - 48))
    have hv':val (acc * 10 + (c.toNat - 48)) r ≤ M:=hv
    show (if 48 ≤ c.toNat∧c.toNat ≤ 57 then _ else _)=_
    rw [if_pos hc,if_neg (by omega),if_neg (by omega)]
    exact Xod r M _ h.2 hv' hM
theorem Xqd (B n:Nat) (hB:B ≤ 16) (h:n ≤ 2 ^ B - 1):parseUintB B (decDigits n)=.ok n:=by
  have hp:2 ^ B ≤ 2 ^ 16:=Nat.pow_le_pow_right (by omega) hB
  unfold parseUintB
  rw [if_neg (Xha n)]
  have:=Xod (decDigits n) (2 ^ B - 1) 0 (Xf9 n) (by rw [X96]; exact h) (by omega)
  rw [X96] at this
  exact this
def pEnd (w:Str):Option (Nat × Nat):=match cut 58 w with
  | none=>match X2p w,parseUintB 16 [] with | some a,.ok n=>some (a,n) | _,_=>none
  | some (x,y)=>match X2p x,parseUintB 16 y with | some a,.ok n=>some (a,n) | _,_=>none
def hdrV (o:Option (Nat × Nat × Nat × Nat × Nat)):Value:=match o with
  | some (a,m,b,n,p)=>.tuple ⟨[hdr a b p m n,I 0]⟩
  | none=>.tuple ⟨[hdr 0 0 0 0 0,I 4]⟩
def prH (s:Str):Option (Nat × Nat × Nat × Nat × Nat):=match split 32 s with
  | [w0,w1,w2]=>match pEnd w0,pEnd w1,parseUintB 8 w2 with
    | some (a,m),some (b,n),.ok p=>if X2j a b p m n=s then some (a,m,b,n,p) else none
    | _,_,_=>none
  | _=>none
def endP (x:Str):Option (Nat × Nat):=match cut 58 x with
  | none=>none
  | some (u,v)=>match X2p u,num 65535 v with | some a,some n=>some (a,n) | _,_=>none
def hdrP (s:Str):Option (Nat × Nat × Nat × Nat × Nat):=match cut 32 s with
  | none=>none
  | some (x,rest)=>match cut 32 rest with
    | none=>none
    | some (y,z)=>match endP x,endP y,num 255 z with
      | some (a,m),some (b,n),some p=>some (a,m,b,n,p)
      | _,_,_=>none
end Go.Ab
namespace Go.Ab.Sh
open Go Go.Ab Go.Lib
theorem c_Pu (B:Nat) (hB:B=16∨B=8) (s:Str) (hs:s.length ≤ 4194304) (d:Nat) (m:Mem):∃ u e m1,TA d Q9 [sv s,I 10,I B] m=some (.tuple ⟨[.int .u64 u,e]⟩,m1)∧Fr [] m m1 ∧
    ((∃ n:Nat,parseUintB B s=.ok n∧u=n∧e=.nilIface)∨((∀ n,parseUintB B s ≠ .ok n)∧∃ p,e=.iface Qh (.pointer (some p)))):=by
  have key:∀ r,Qk5 Q9 [sv s,I 10,I B] m=some r→TA d Q9 [sv s,I 10,I B] m=some r:=fun r h=>Xgy (o:=Qk5) (by kernel_rfl) h d
  have e:Qk5 Q9 [sv s,I 10,I B] m=(match parseUintB B s with
      | .ok u=>some (.tuple #[.int .u64 u,.nilIface],m)
      | Lib.NumEnd.syntax=>errV (.int .u64 0) Qh m
      | .range=>errV (.int .u64 (2 ^ B - 1:Nat)) Qh m):=by
    have f16:∀ (z:Int) (Z:Nat),ovPu Q9 Qh z Z Q9 [sv s,I 10,I B] m=if (B:Int)=z then (match parseUintB Z s with
      | .ok u=>some (.tuple #[.int .u64 u,.nilIface],m)
      | Lib.NumEnd.syntax=>errV (.int .u64 0) Qh m
      | .range=>errV (.int .u64 (2 ^ Z - 1:Nat)) Qh m) else none:=by
      intro z Z
      show (if Q9=Q9∧s.length ≤ 281474976710656∧(10:Int)=10∧(B:Int)=z then _ else none)=_
      by_cases hz:(B:Int)=z
      . rw [if_pos ⟨rfl,by omega,rfl,hz⟩,if_pos hz]; rfl
      . rw [if_neg (by intro h; exact hz h.2.2.2),if_neg hz]
    show (match ovPu Q9 Qh 16 16 Q9 [sv s,I 10,I B] m with | some r=>some r | none=>ovPu Q9 Qh 8 8 Q9 [sv s,I 10,I B] m)=_
    rw [f16,f16]
    rcases hB with rfl | rfl
    . rw [if_pos (by rfl)]
      cases parseUintB 16 s <;> rfl
    . rw [if_neg (by omega),if_pos (by rfl)]
  rw [e] at key
  cases h:parseUintB B s with
  | ok v =>
    rw [h] at key
    exact ⟨v,.nilIface,m,key _ rfl,.refl _ _,.inl ⟨v,rfl,rfl,rfl⟩⟩
  | range =>
    rw [h] at key
    exact ⟨_,_,_,key _ rfl,.push _,.inr ⟨by simp,_,rfl⟩⟩
  | _ =>
    rw [h] at key
    exact ⟨0,_,_,key _ rfl,.push _,.inr ⟨by simp,_,rfl⟩⟩
theorem aB5 (a b:Int) (p m n:Int):Xn Q7 [(0,1),(1,1),(2,1),(3,1),(4,1)] [(0,.int .u32 a),(1,.int .u32 b),(2,.int .u8 p),(3,.int .u16 m),(4,.int .u16 n)]=some (.agg ⟨[.int .u32 a,.int .u32 b,.int .u8 p,.int .u16 m,.int .u16 n]⟩):=Eq.trans rfl rfl
theorem aB50:Xn Q7 [(0,1),(1,1),(2,1),(3,1),(4,1)] []=some (hdr 0 0 0 0 0):=Eq.trans rfl rfl
theorem c_refEnd (x:Str) (hx:x.length ≤ 4194304) (d:Nat) (m:Mem):∃ (a n:Int),TA (d + 3) Q6g [sv x] m=some (.tuple ⟨[.int .u32 a,I n]⟩,m)∧(match endP x with | some (a',n')=>a=a'∧n=n' | none=>n=-1):=by
  rw [X89]
  have hc:TA (d + 2) Q17 [sv x,.int .u8 58] (X4 m m.next)=_:=c_refCut 58 x hx (d + 1) (X4 m m.next)
  cases hcut:cut 58 x with
  | none =>
    rw [hcut] at hc
    refine ⟨0,-1,Xq (m1:=X4 m m.next) ?_ (.refl _ _) rfl,by
      have hE:endP x=none:=by unfold endP; simp only [hcut]
      rw [hE]⟩
    have ha:TA (d + 2) Q10 [sv []] (X4 m m.next)=_:=c_refAddr [] (by simp) d (X4 m m.next)
    have hr:TA (d + 2) Q6 [sv [],.int .i64 65535] (X4 m m.next)=_:=c_Read [] (by simp) 65535 (by omega) (d + 1) (X4 m m.next)
    unfold Q1l Q3e Q3f Q3g Q3h Q28
    simp only [hc,X5,ex0,ex1,ex2,X0,ha]
    cases X2p [] with
    | none=>simp only [X3u,ex0,ex1,X0,hr,X5,X1u,Bool.not_false,Xd]
    | some a=>simp only [X3u,ex0,ex1,X0,hr,X5,X1u,Bool.not_false,Xd]
  | some p =>
    obtain ⟨u,v⟩:=p
    rw [hcut] at hc
    have hl:=X4t hcut
    have ha:TA (d + 2) Q10 [sv u] (X4 m m.next)=_:=c_refAddr u (by omega) d (X4 m m.next)
    have hr:TA (d + 2) Q6 [sv v,.int .i64 65535] (X4 m m.next)=_:=c_Read v (by omega) 65535 (by omega) (d + 1) (X4 m m.next)
    cases hau:X2p u with
    | none =>
      refine ⟨0,-1,Xq (m1:=X4 m m.next) ?_ (.refl _ _) rfl,by
        have hE:endP x=none:=by unfold endP; simp only [hcut,hau]
        rw [hE]⟩
      unfold Q1l Q3e Q3f Q3g Q3h Q28
      simp only [hc,X5,ex0,ex1,ex2,X0,ha,hau,X3u,hr,X1u,Bool.not_true,Xb,Q1o,X8]
      rfl
    | some a =>
      cases hn:num 65535 v with
      | none =>
        refine ⟨a,-1,Xq (m1:=X4 m m.next) ?_ (.refl _ _) rfl,by
          have hE:endP x=none:=by unfold endP; simp only [hcut,hau,hn]
          rw [hE]⟩
        unfold Q1l Q3e Q3f Q3g Q3h Q28
        simp only [hc,X5,ex0,ex1,ex2,X0,ha,hau,X3u,hr,X1u,Bool.not_true,Xb,Q1o,X8,hn]
        rfl
      | some n =>
        refine ⟨a,n,Xq (m1:=X4 m m.next) ?_ (.refl _ _) rfl,by
          have hE:endP x=some (a,n):=by unfold endP; simp only [hcut,hau,hn]
          rw [hE]
          exact ⟨rfl,rfl⟩⟩
        unfold Q1l Q3e Q3f Q3g Q3h Q28
        simp only [hc,X5,ex0,ex1,ex2,X0,ha,hau,X3u,hr,X1u,Bool.not_true,Xb,Q1o,X8,hn]
        rfl
theorem Xlz {x:Str} {a n:Nat} (h:endP x=some (a,n)):a < 4294967296∧n ≤ 65535:=by
  unfold endP at h
  split at h
  . cases h
  . split at h
    . rename_i h1 h2
      cases h
      exact ⟨addrP_lt h1,(num_some.mp h2).2⟩
    . cases h
theorem c_refHeader (s:Str) (hs:s.length ≤ 4194304) (d:Nat) (m:Mem):TA (d + 4) Q4x [sv s] m=some (hdrV (hdrP s),m):=by
  rw [X6z]
  let m0:=(X4 m m.next).push (.cells Q7 0 0 false (some (2 * Q3 + 1)))
  have g0:m0.get m.next=some (.cells Q7 0 0 false (some (2 * Q3 + 1))):=Xl (X4 m m.next) _
  have F0:Fb m.next (X4 m m.next) m0:=Fb.push _ (Nat.le_refl _)
  have body:∃ m1,Q5z ⟨TA (d + 3),18446744073709551616⟩ (sv s) (pt m.next 0 0) m0=some (hdrV (hdrP s),m1)∧Fb m.next m0 m1:=by
    obtain ⟨mE,r1,r2,_⟩:=X14 (n:=5) (tail:=[I 4]) g0 rfl (vs:=(hdr 0 0 0 0 0).cells.toList) rfl rfl (Nat.le_refl m.next)
    have r1:(bp (unt (X7 5 (pt m.next 0 0) (hdr 0 0 0 0 0) m0)) fun _ m_1=>ob (ob (X6 true 5 (pt m.next 0 0) m_1) fun v=>ob (some [Value.int .i64 4]) fun l=>some (v :: l)) fun l=>some (X1a l,m_1))=some (hdrV none,mE):=r1
    have hc:TA (d + 3) Q17 [sv s,.int .u8 32] m0=_:=c_refCut 32 s hs (d + 2) m0
    unfold Q5z Q8y Q8z Q60 Q90 Q91 Q92 Q93 Q42
    cases hcut:cut 32 s with
    | none =>
      rw [hcut] at hc
      have hc2:TA (d + 3) Q17 [sv [],.int .u8 32] m0=_:=c_refCut 32 [] (by simp) (d + 2) m0
      refine ⟨mE,?_,r2⟩
      simp only [hc,X5,ex0,ex1,ex2,X0,hc2,cut,X1u,Bool.not_false,Xd,aB50]
      have hE:hdrP s=none:=by unfold hdrP; simp only [hcut]
      rw [hE]
      exact r1
    | some p =>
      obtain ⟨x,rest⟩:=p
      rw [hcut] at hc
      have hl:=X4t hcut
      have hc2:TA (d + 3) Q17 [sv rest,.int .u8 32] m0=_:=c_refCut 32 rest (by omega) (d + 2) m0
      cases hcut2:cut 32 rest with
      | none =>
        rw [hcut2] at hc2
        refine ⟨mE,?_,r2⟩
        simp only [hc,X5,ex0,ex1,ex2,X0,hc2,X1u,Bool.not_true,Xb,Bool.not_false,Xd,aB50]
        have hE:hdrP s=none:=by unfold hdrP; simp only [hcut,hcut2]
        rw [hE]
        exact r1
      | some q =>
        obtain ⟨y,z⟩:=q
        rw [hcut2] at hc2
        have hl2:=X4t hcut2
        obtain ⟨a,n,e1,e2⟩:=c_refEnd x (by omega) d m0
        obtain ⟨b,k,e3,e4⟩:=c_refEnd y (by omega) d m0
        have hr:TA (d + 3) Q6 [sv z,.int .i64 255] m0=_:=c_Read z (by omega) 255 (by omega) (d + 2) m0
        simp only [hc,X5,ex0,ex1,ex2,X0,hc2,X1u,Bool.not_true,Xb,e1,e3,hr,Qf,X8,Xd,aB50]
        cases hx:endP x with
        | none =>
          rw [hx] at e2
          have e2:n=-1:=e2
          subst e2
          refine ⟨mE,?_,r2⟩
          have hE:hdrP s=none:=by unfold hdrP; simp only [hcut,hcut2,hx]
          rw [hE]
          cases num 255 z <;> exact r1
        | some w =>
          obtain ⟨a',n'⟩:=w
          rw [hx] at e2
          obtain ⟨rfl,rfl⟩:=e2
          obtain ⟨b1,b2⟩:=Xlz hx
          rw [if_neg (by omega)]
          cases hy:endP y with
          | none =>
            rw [hy] at e4
            have e4:k=-1:=e4
            subst e4
            refine ⟨mE,?_,r2⟩
            have hE:hdrP s=none:=by unfold hdrP; simp only [hcut,hcut2,hx,hy]
            rw [hE]
            cases num 255 z <;> exact r1
          | some w2 =>
            obtain ⟨b',k'⟩:=w2
            rw [hy] at e4
            obtain ⟨rfl,rfl⟩:=e4
            obtain ⟨b3,b4⟩:=Xlz hy
            rw [if_neg (by omega)]
            cases hz:num 255 z with
            | none =>
              refine ⟨mE,?_,r2⟩
              have hE:hdrP s=none:=by unfold hdrP; simp only [hcut,hcut2,hx,hy,hz]
              rw [hE]
              exact r1
            | some p =>
              have hp:=(num_some.mp hz).2
              obtain ⟨m3,r3,r4,_⟩:=X14 (n:=5) (tail:=[I 0]) g0 rfl (vs:=(hdr a' b' p n' k').cells.toList) rfl rfl (Nat.le_refl m.next)
              refine ⟨m3,?_,r4⟩
              have hE:hdrP s=some (a',n',b',k',p):=by unfold hdrP; simp only [hcut,hcut2,hx,hy,hz]
              rw [hE]
              simp only [optI,I,Qf,X0,X8]
              rw [if_neg (by omega)]
              have w8:IntKind.u8.wrap (p:Int)=p:=by rw [IntWalk.u8_in _ (by omega)]
              have w16:IntKind.u16.wrap (n':Int)=n':=by rw [IntWalk.u16_in _ (by omega)]
              have w17:IntKind.u16.wrap (k':Int)=k':=by rw [IntWalk.u16_in _ (by omega)]
              have aB:=aB5 a' b' p n' k'
              simp only [c_int,w8,w16,w17,X5,aB,X0]
              exact r3
  obtain ⟨m1,k1,k2⟩:=body
  refine Xq (m1:=m1) ?_ (F0.trans k2) (by cases hdrP s <;> rfl)
  unfold Q35
  rw [Xh]
  exact k1
end Go.Ab.Sh
