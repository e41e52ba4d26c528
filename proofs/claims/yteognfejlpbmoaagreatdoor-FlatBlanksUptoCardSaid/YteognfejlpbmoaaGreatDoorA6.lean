/-
  What the functions of the program answer, at every text and every question. No conditions.
-/
import Derived.Test.YteognfejlpbmoaaGreatDoorA5
import Derived.Test.YteognfejlpbmoaaGreatDoorA4
import Derived.Test.YteognfejlpbmoaaGreatDoorA1
set_option linter.unusedSimpArgs false
set_option linter.unusedVariables false
set_option maxRecDepth 100000
noncomputable section
namespace Go.Ab.Sh
open Go Go.Ab Go.Lib
variable {N a b:Nat} {P:Program} {W:World} {c:Code} {dv dv1 dv2:List Value} {f:FuncId} {fn:Func} {m m':Mem} {ts:List Tn} {v:Value} {z:Int}
def PAt (m:Mem) (b:Nat) (a c:Nat):Prop:=∃ ty,m.get b=some (.cells [I a,I c] 0 0 false ty)
theorem PAt.l0 {c:Nat} (h:PAt m b a c):X8 false 1 (pt b 0 0) m=some (I a):=by obtain ⟨ty,h⟩:=h; exact X12 h rfl
theorem PAt.fr {c:Nat} (h:PAt m b a c) (hb:b < m.next) (f:Fr [] m m'):PAt m' b a c:=by obtain ⟨ty,h⟩:=h; exact ⟨ty,by rw [f.get b hb (by simp)]; exact h⟩
def VAt (B:Nat) (m:Mem) (b:Nat) (ts:List Tn) (dv:List Value):Prop:=b < m.next/\dv.length=12/\(∃ ty,m.get b=some (.cells dv 0 0 false ty))/\RdL B m ts dv
theorem VAt.ld {B:Nat} (h:VAt B m b ts dv):X8 true 12 (pt b 0 0) m=some (.agg ⟨dv⟩):=by
 obtain ⟨h1,h2,⟨ty,h3⟩,h4⟩:=h;exact Xv h3 (by rw [h2]; omega) (by rw [List.drop_zero,List.take_of_length_le (by rw [h2]; omega)])
theorem VAt.fr {B b:Nat} {m m':Mem} {ts:List Tn} {dv:List Value} (h:VAt B m b ts dv) (f:Fr [] m m'):VAt B m' b ts dv:=by
 obtain ⟨h1,h2,⟨ty,h3⟩,h4⟩:=h;exact ⟨Nat.lt_of_lt_of_le h1 f.next,h2,⟨ty,by rw [f.get b h1 (by simp)]; exact h3⟩,h4.fr f⟩
theorem Xme (hS:Xb0) (s:Str) (d:Nat) (m:Mem):∃ m' B a b dv,(∀ k:Value->Value->Value->Mem->Option Rs,(bp (TA (d + 10) Q97 [sv s] m) fun x19 m =>
 bp (pur (X3m x19 0) m) fun x20 m =>
 bp (pur (X3m x19 1) m) fun x21 m =>
 bp (pur (X3m x19 2) m) fun x22 m =>
 bp (some (aNew Q17 Qi m)) fun x23 m =>
 bp (some (aNew Q8 Q3 m)) fun x24 m =>
 bp (unt (Xd 12 x23 x20 m)) fun _ m =>
 bp (unt (Xd 2 x24 x21 m)) fun _ m =>
 k x22 x23 x24 m)=k (.int .i64 (Xq s).2.2) (pt a 0 0) (pt b 0 0) m')/\Fr [] m m'/\b < m'.next/\PAt m' b (Xq s).1 (Xq s).2.1/\VAt B m' a (X54 s) dv/\TyD (totL (linesT s)) (X54 s):=by
 obtain ⟨dv,m1,e1,f1,hE,c12,c1,hrd,hty⟩:=c_Parse hS s d m;generalize hm2:m1.push (.cells Qi 0 0 false (some (2 * Q17 + 1)))=m2;have hn2:m2.next=m1.next + 1:=by rw [<- hm2]; rfl
 have f2:Fr [] m1 m2:=by rw [<- hm2]; exact Fr.push _
 have g2:m2.get m1.next=some (.cells Qi 0 0 false (some (2 * Q17 + 1))):=by rw [<- hm2,Mem.get_push,if_pos rfl]
 generalize hm3:m2.push (.cells Q3 0 0 false (some (2 * Q8 + 1)))=m3;have hn3:m3.next=m2.next + 1:=by rw [<- hm3]; rfl
 have f3:Fr [] m1 m3:=by rw [<- hm3]; exact f2.trans (Fr.push _)
 have g3:m3.get m2.next=some (.cells Q3 0 0 false (some (2 * Q8 + 1))):=by rw [<- hm3,Mem.get_push,if_pos rfl]
 have g31:m3.get m1.next=some (.cells Qi 0 0 false (some (2 * Q17 + 1))):=by rw [<- hm3,Mem.get_push,if_neg (by omega)]; exact g2
 obtain ⟨m4,k1,k2⟩:=X1u (o:=0) (n:=12) (v:=.agg ⟨dv⟩) (c':=dv) g31 c12 (Nat.zero_le _) (by show 0 + 12 <= 12; omega) c1 (by
  show [] ++ dv ++ Qi.drop (0 + 12)=dv;rw [List.drop_eq_nil_of_le (by show 12 <= 0 + 12; omega)]; simp)
 have f4:Fr [] m1 m4:=(f3.put _ (.inr (Nat.le_refl _))).meq k2;have g4:m4.get m2.next=some (.cells Q3 0 0 false (some (2 * Q8 + 1))):=by rw [k2.get,Mem.get_put,if_neg (by omega)]; exact g3
 obtain ⟨m5,q1,q2⟩:=X1u (o:=0) (n:=2) (v:=posV (Xq s).1 (Xq s).2.1) (c':=[I (Xq s).1,I (Xq s).2.1]) g4 rfl (Nat.zero_le _) (by show 0 + 2 <= 2; omega) rfl rfl;have f5:Fr [] m1 m5:=(f4.put _ (.inr (by omega))).meq q2;have hn5:m5.next=m3.next:=by rw [q2.next,Mem.next_put,k2.next,Mem.next_put]
 refine ⟨m5,m.next,m1.next,m2.next,dv,fun k=>?_,f1.trans f5,by omega,⟨_,by rw [q2.get,Mem.get_put,if_pos rfl]⟩,⟨by omega,c12,⟨_,by rw [q2.get,Mem.get_put,if_neg (by omega),k2.get,Mem.get_put,if_pos rfl]⟩,hrd.fr f5⟩,hty⟩;have q1:Xd 2 (pt m2.next 0 0) (posV (Xq s).1 (Xq s).2.1) m4=some m5:=q1;simp only [e1,X4,ex0,ex1,ex2,X3,Xp,hm2,hm3,k1,Xo,q1]
theorem Xqg (a b:Nat) (c g:Bool):bin .gtr c g .int (I a) (I b)=some (.bool (decide (b < a))):=by
 rw [Qhr]; congr 2; rw [decide_eq_decide]; omega
theorem wb_7 (h:TyD N ts) (hN:N <= 11000) {P Q:Nat × Nat} {d B1 B2 a1 a2 b1 b2:Nat} (v1:VAt B1 m a1 ts dv1) (v2:VAt B2 m a2 ts dv2) (p1:PAt m b1 P.1 P.2) (p2:PAt m b2 Q.1 Q.2) (hP:P.1 <= 1000000) (hz:z=0\/z=5\/P.1 + 2 <= Q.1) :
  Q5d (gw d) (.int .i64 z) (.int .i64 z) (pt a1 0 0) (pt a2 0 0) (pt b2 0 0) (pt b1 0 0) m=some (.bool true,m):=by
 obtain ⟨S,hD⟩:=c_Dump h hN;have d1:TA (d + 10) Q41 [.agg ⟨dv1⟩] m=some (sv S,m):=hD (d + 4) B1 m dv1 v1.2.2.2;have d2:TA (d + 10) Q41 [.agg ⟨dv2⟩] m=some (sv S,m):=hD (d + 4) B2 m dv2 v2.2.2.2;have ag:=v2.2.2.2.again h m;have e1:bin .neq false true .int (.int .i64 z) (.int .i64 z)=some (.bool false):=by rw [Q9y,decide_eq_false (by simp)]
 have e2:bin .neq false true .str (sv S) (sv S)=some (.bool false):=(Qmw _ _ S S).trans (by simp);have e3:∀ y:Int,bin .eql true true .int (.int .i64 z) (.int .i64 y)=some (.bool (decide (z=y))):=fun y=>Q79 _ _ _ _ _;unfold Q5d;simp only [e1,X3,Xwg,Bool.false_eq_true,if_false,v1.ld,v2.ld,d1,X4,ag,Bool.and_true,Xr,d2,e2];delta Q50 Q99 Q39 H Q D B K X qg qe A qf;rw [X6];have e4:bin .add true true .int (I P.1) (.int .i64 2)=some (I (P.1 + 2:Nat)):=by
  rw [Q35];have:((P.1:Nat):Int) + 2=((P.1 + 2:Nat):Int):=by omega
  rw [this,wrap64 _ (by omega)]
 have e5:bin .geq false true .int (I Q.1) (I (P.1 + 2:Nat))=some (.bool (decide (((P.1 + 2:Nat):Int) <= (Q.1:Int)))):=by rw [X1z]; rfl
 simp only [e3,X3,Xt,X9,Nat.zero_add,p1.l0,p2.l0,e4,e5];by_cases h0:z=0
 ·rw [if_pos h0]
 ·rw [if_neg h0];by_cases h5:z=5
  ·rw [if_pos h5]
  ·rw [if_neg h5,decide_eq_true (by omega)]
theorem Xzl (s:Str) (h1:s.length <= 8000) (h2:(split 10 s).length <= 1000):(Xq s).1 <= 1000000:=by
 obtain ⟨_,⟨h,_⟩ | ⟨h,_,_⟩⟩:=Xdc s 0 h1 h2
 ·rw [X73 h];cases hf:X3h (linesT s) st0 with
  | error e =>
   obtain ⟨x,hx,e1⟩:=Xfs _ _ _ hf;have:=(X9f (split 10 s) 0 x hx).2.1;show e.1 <= _;omega
  | ok S =>
   unfold ansN;dsimp only;split <;> exact Nat.zero_le _
 ·have n1:(Xi s).2.2 ≠ 0:=by rw [h]; decide
  have e:(Xq s).2.2=70:=by rw [X49 n1,h]; rfl
  have:=(Xmp s (by rw [e]; decide) (by rw [e]; decide) (by rw [e]; decide)).2.1;omega
theorem c_FlatBlanks (hS:Xb0) (hW:∀ d m,TA (d + 1) Q2i [] m=some (.bool true,m)) (s:Str) (at':Int) (hs:s.length <= 4194304) (d:Nat) (m:Mem):TA (d + 11) Q44 [sv s,.int .i64 at'] m=some (.bool true,m):=by
 rw [X4z];generalize hm0:withLow m m.next=m0;have key:∃ m',Q1z (gw d) (sv s) (.int .i64 at') m0=some (.bool true,m')/\Fr [] m0 m':=by
  delta Q1z Q9f C D K qe;have hw:TA (d + 10) Q2i [] m0=some (.bool true,m0):=hW (d + 9) _;have en:un .not (.bool true)=some (.bool false):=X63 true;simp only [hw,X4,en,X3,X6];delta Q9e C;obtain ⟨v,m1,c1,c2,c3,_⟩:=c_cut13 s hs (d + 9) m0;have c1:TA (d + 10) Q96 [sv s] m0=some (v,m1):=c1;simp only [c1,X4];delta Q9d D B N A qf;have e1:bin .gtr true true .int (I s.length) (.int .i64 8000)=some (.bool (decide (8000 < s.length))):=Xqg s.length 8000 true true;have e2:bin .gtr true true .int (I (split 10 s).length) (.int .i64 1000)=some (.bool (decide (1000 < (split 10 s).length))):=Xqg (split 10 s).length 1000 true true;have tr:Q23 (gw d) (.bool true) v (.int .i64 at') (sv s) m1=some (.bool true,m1):=by delta Q23 Q K qf; rw [X7]
  simp only [X36,X3,e1,Xt,c3.len,e2];by_cases h1:8000 < s.length
  ·rw [if_pos h1]; exact ⟨m1,tr,c2⟩
  ·rw [if_neg h1];by_cases h2:1000 < (split 10 s).length
   ·rw [decide_eq_true h2]; exact ⟨m1,tr,c2⟩
   ·rw [decide_eq_false h2];have h1:s.length <= 8000:=by omega
    have h2:(split 10 s).length <= 1000:=by omega
    obtain ⟨l1,l2,l3⟩:=Xmr s at' h1 h2;have hbl:=(Xdc s at' h1 h2).1;have htB:tB at' (split 10 s) (split 10 s).length=X2o s at':=by unfold tB X2o Xk1; rw [List.take_length]
    have hle:∀ i,i <= (split 10 s).length->(tB at' (split 10 s) i).length <= 65536:=fun i hi=>by
     refine Nat.le_trans ?_ hbl;rw [<- htB];unfold tB;have:X23 at' ((split 10 s).take (split 10 s).length) 0=X23 at' ((split 10 s).take i) 0 ++ X23 at' ((split 10 s).drop i) (0 + ((split 10 s).take i).length):=by rw [<- X9e,List.take_append_drop,List.take_length]
     rw [this,show Xaq :: [] :: (X23 at' ((split 10 s).take i) 0 ++ X23 at' ((split 10 s).drop i) (0 + ((split 10 s).take i).length))=(Xaq :: [] :: X23 at' ((split 10 s).take i) 0) ++ X23 at' ((split 10 s).drop i) (0 + ((split 10 s).take i).length) from rfl,X4q,List.length_append];omega
    have lp:=Xxo (d:=d) (p0:=sv s) c3 at' (fun r hr=>by have:=X51 10 s r hr; omega) (by omega) hle (split 10 s).length 0 18446744073709551616 (by omega) (by omega);rw [htB] at lp;obtain ⟨m2,B1,a1,b1,dv1,k1,k2,k3,k4,k5,k6⟩:=Xme hS s d m1;obtain ⟨m3,B2,a2,b2,dv2,q1,q2,q3,q4,q5,_⟩:=Xme hS (X2o s at') d m2;refine ⟨m3,?_,c2.trans (k2.trans q2)⟩;delta Q23 Q9c Q9b Q8s Q K A qf E;rw [X6];refine Eq.trans lp ?_;delta Q5e C T S U;rw [k1];delta Q9a C T S U;rw [q1,l1];rw [l2] at q5;exact wb_7 (P:=((Xq s).1,(Xq s).2.1)) (Q:=((Xq (X2o s at')).1,(Xq (X2o s at')).2.1)) (k6.up (Xqw h1 h2)) (Nat.le_refl _) (k5.fr q2) q5 (k4.fr k3 q2) q4 (Xzl s h1 h2) l3
 obtain ⟨m',k1,k2⟩:=key;rw [<- hm0] at k1 k2;rw [hm0] at k1;exact X1t (m1:=m') k1 k2 rfl
theorem layS:layT Go.Proofs.Tryz.prog 1 Q4=some [.s]:=by kernel_rfl
theorem layI:layT Go.Proofs.Tryz.prog 1 Qm=some [.i .i64]:=by kernel_rfl
theorem Xjm {g:Tab} (hT:X1f P W g) (hf:P.funcs[f]?=some fn) (hb:fn.body=some c) (hn:(fn.name == "runtime.NumGoroutine")=false) (args:List Value) (ha:∀ φ,VRels φ args args) (hg:g f args mem0=some (v,m')) (hpl:∀ φ cv,VRel φ v cv->cv=v):Calls P f args.toArray W fun e w'=>e=.returned v/\RowKit.Below W.heap.size W w':=by
 have h:=hT (fun _=>none) mem0 W f args args v m' (Xro W) (RowKit.Below.refl _ _) (ha _) hg;rcases h with ⟨_,h⟩ | ⟨cv,w',h,_⟩
 ·refine h.mono fun e w' he=>?_;obtain ⟨cv,rfl,φ',_,h2,h3⟩:=he;rw [hpl φ' cv h2];exact ⟨rfl,⟨h3.os,h3.tape,h3.output,h3.size,fun k hk=>h3.frame k hk fun b pl hh=>nomatch hh⟩⟩
 ·have:=enters hf hb hn args.toArray W;change (callFunc f args.toArray).run P W=_ at h;rw [this] at h;cases h
theorem c_works (d:Nat) (m:Mem):TA d Q2i [] m=some (.bool true,m):=by
 refine Xdp (o:=Qpz) (by kernel_rfl) ?_ d;show Mw.ov Q2i [] m=_;unfold Memo.ov;have h1:Nat.beq Q2i Mw.f=true:=Nat.beq_refl _;have h2:Xdr (vbeq 9) [] Mw.args=true:=rfl;have h3:Mw.nextOk m=true:=rfl;have h4:holds m Mw.old=true:=rfl;rw [h1,h2,h3,h4];rfl
theorem Xh6 (hT:∀ n,X1f Go.Proofs.Tryz.prog W (TA n)) (hf:Go.Proofs.Tryz.prog.funcs[Q44]?=some fn) (hb:fn.body=some c) (hn:(fn.name == "runtime.NumGoroutine")=false) (s:Str) (z:Int) (hs:s.length <= 4194304) :
  Calls Go.Proofs.Tryz.prog Q44 #[sv s,.int .i64 z] W fun e w'=>e=.returned (.bool true)/\RowKit.Below W.heap.size W w':=
 Xjm (hT 11) hf hb hn [sv s,.int .i64 z] (fun φ=>.cons _ _ _ _ (.string _) (.cons _ _ _ _ (.int _ _) .nil)) (c_FlatBlanks Xrz (fun d m=>c_works (d + 1) m) s z hs 0 mem0) (fun φ cv h=>Xqe h)
end Go.Ab.Sh
end
